import Derived.Test.YtlnmnjbihgaliaaGreatGSha
import Derived.Test.YtlnmnjbihgaliaaGreatVWords
import Derived.Laws.CopyOwn
import Derived.Deep.MidRow
import Derived.Deep.Light
set_option linter.unusedVariables false
set_option linter.unusedSimpArgs false
section
open Go.RowKit Go.Proofs.YtlnmnjbihgaliaaGreatW.PrintWords Go.Proofs.YtlnmnjbihgaliaaGreatW.PrintMore
namespace Go.Proofs.YtlnmnjbihgaliaaGreat
theorem info5':(Tryz.prog.info? 5).map (fun i=>(i.zero,i.size,i.bytes))=some (some (.int .u8 0),1,1):=by kernel_rfl
/-- Another word for a turn to the right. -/
theorem or_comm32(a b:Int):Go.bits .or .u32 a b=Go.bits .or .u32 b a:=by
 simp only [Go.bits,BitVec.or_comm]
theorem amt_neg(n:Int)(h0:0 < n)(h1:n < 32):amt (-n)=32 - n:=by
 have h:∀ m:Fin 32,0 < m.val→amt (-(m.val:Int))=32 - m.val:=by decide +kernel
 obtain ⟨m,rfl⟩:=Int.eq_ofNat_of_zero_le (by omega:0≤n)
 exact h ⟨m,by omega⟩ (by simpa using h0)
set_option maxRecDepth 100000 in
theorem turn_any(x n:Int)(w:World)(h:0 < n∧n < 32):Calls Tryz.prog 83 #[.int .u32 x,.int .i64 n] w fun e w'=>e=.returned (.int .u32 (rotL x (amt (-n))))∧w'=w.drew:=by
 obtain ⟨h0,h1⟩:=h
 have m0:0≤n:=by omega
 have m1:0≤32 - n:=by omega
 have e1:IntKind.i64.wrap (32 - n)=32 - n:=IntWalk.i64_in _ (by omega)
 have m3:min n.toNat 32=n.toNat:=by omega
 have m4:min (32 - n).toNat 32=(32 - n).toNat:=by omega
 go_enter Tryz.func83,Tryz.ntmps83
 go_wp2
 refine still_at (by kernel_rfl) (by kernel_rfl) ?_
 intro wd hwd
 have HD:=mkA hwd
 clear hwd
 repeat still_step
 refine wpStill_nil ?_
 go_wp2
 go_ret
 refine ⟨?_,HD.out⟩
 rw [amt_neg n h0 h1]
 unfold rotL
 rw [or_comm32,show 32 - (32 - n)=n from by omega]
 first|rfl|simp [m3,m4]
/-- The text as it is hashed: noughts till 56 bytes over, then the length. -/
def padZ(n:Nat):Nat:=(119 - n % 64) % 64
def padF(bs:List Int):List Int:=bs++[128]++List.replicate (padZ bs.length) 0++(List.range 8).map fun i=>((bs.length:Int) * 8) / 2 ^ (8 * (7 - i)) % 256
def padT(n i:Nat):List Int:=(List.range i).map fun i=>((n:Int) * 8) / 2 ^ (8 * (7 - i)) % 256
theorem padT_len(n i:Nat):(padT n i).length=i:=by simp [padT]
theorem padT_succ(n i:Nat):padT n (i+1)=padT n i++[(n:Int) * 8 / 2 ^ (8 * (7 - i)) % 256]:=by simp [padT,List.range_succ]
theorem padZ_lt(n:Nat):padZ n < 64:=by unfold padZ;omega
set_option maxRecDepth 100000 in
set_option maxHeartbeats 4000000 in
theorem pad_calls(A:Option Addr)(c:Nat)(bs:List Int)(w:World)(hr:Kd.C (Kd.int .u8) w A bs.length bs)(hc:bs.length≤c)(hbig:bs.length≤140737488355000):
  Calls Tryz.prog 82 #[.slice A bs.length c] w fun e w'=>∃ v,e=.returned v∧Kd.R (Kd.int .u8) 5 w' w.heap.size (fun _=>True) v (padF bs)∧Below w.heap.size w w':=by
 have HR:=mkA hr
 have HBG:=mkA hbig
 obtain ⟨n,hn⟩:∃ n,bs.length=n:=⟨_,rfl⟩
 rw [hn] at HR HBG ⊢
 have HN:=mkA hn
 clear hr hn
 go_enter Tryz.func82,Tryz.ntmps82
 go_wp2_with (first|(at_builtin;(with_reducible refine gate_builtin (b:=.append) (xs:=#[.const (.slice none 0 0),.tmp 6]) rfl ?_);refine Kd.R_append_rows (Kd.int .u8) (w0:=w) w.heap.size rfl (.const (.slice none 0 0)) (.tmp 6) 23 5 (.int .u8 0) 1 rfl Tryz.underlying23 info5' rfl (by decide) (by omega) (.slice none 0 0) [] bs A n c (fun _=>True) (fun _=>False) rfl rfl ?aO ?aR (fun _ _ h=>h) (fun _ h=>h.elim) ?aF ?aB ?aS ?aL ?_;(case aO=>exact Kd.R_nil _ _ _ _ _);(case aR=>exact HR.out);(case aF=>exact fun _ _=>trivial);(case aB=>exact Below.refl _ _);(case aS=>exact Nat.le_refl _);(case aL=>have:=HBG.out;simp;omega);intro v1 w1 ho hb hg hat;have HO1:=mkA (show Kd.R (Kd.int .u8) 5 w1 w.heap.size (fun _=>True) v1 bs from ho);have HB1:=mkA hb;clear ho hb hg hat)|(at_builtin;(with_reducible refine gate_builtin (b:=.append) (xs:=#[.tmp 7,.tmp 8]) rfl ?_);refine Kd.R_append (Kd.int .u8) (w0:=w) w.heap.size rfl (.tmp 7) (.tmp 8) 23 5 (.int .u8 0) 1 rfl Tryz.underlying23 info5' rfl (by decide) (by omega) v1 (bs) (128) [.int .u8 (128)] (fun _=>True) (fun _=>False) rfl rfl ?aP (fun _ hk=>hk.elim) ?aF ?aO ?aB ?aS ?aL ?_;(case aP=>exact rfl);(case aF=>exact fun _ _=>trivial);(case aO=>exact HO1.out);(case aB=>exact HB1.out);(case aS=>exact (HB1.out).size);(case aL=>have:=HBG.out;have:=HN.out;omega);intro v2 w2 ho hb hg hat;have HO2:=mkA ho;have HB2:=mkA hb;clear ho hb hg hat))
 go_loopw [3] (fun v wr=>∃ (z m:Nat) (A':Option Addr) (c':Nat),v=.slice A' m c'∧m≤n+64∧Aside0 (m=n+1+z)∧Aside0 (z≤padZ n)∧Aside0 (Kd.R (Kd.int .u8) 5 wr w.heap.size (fun _=>True) v (bs++[128]++List.replicate z 0))∧Aside0 (Below w.heap.size w wr)) (fun v _=>match v with|.slice _ m _=>n+65 - m|_=>0)
 case atStart=>
  obtain ⟨A',c',rfl,hlc,_⟩:=Kd.R_reads HO2.out
  exact ⟨0,n+1,A',c',by rw [List.length_append,HN.out];rfl,by omega,⟨by omega⟩,⟨Nat.zero_le _⟩,⟨by simpa using HO2.out⟩,HB2⟩
 case round=>
  clear HO1 HB1 HO2 HB2
  obtain ⟨z,m,A',c',rfl,hmn,HMZ,hpz,HO,HB⟩:=hrel
  have HML:=mkA (show (bs++[128]++List.replicate z 0).length=m by have:=HMZ.out;have:=HN.out;simp;omega)
  have hbg2:m≤140737488355100:=by have:=HBG.out;omega
  by_cases hz:z=padZ n
  ·have h1:((m:Int) % 64 != 56)=false:=by have:=HMZ.out;unfold padZ at hz;rw [bne_eq_false_iff_eq];omega
   have h2:((m:Int) % 64 == 56)=true:=by have:=HMZ.out;unfold padZ at hz;rw [beq_iff_eq];omega
   have HZ:=mkA hz
   clear hz
   have hn7:n≤140737488355000:=HBG.out
   go_wp2
   go_loopw [3,5] (fun v iv wr=>∃ (i:Nat),i≤8∧iv=.int .i64 (7 - (i:Int))∧Aside0 (Kd.R (Kd.int .u8) 5 wr w.heap.size (fun _=>True) v (bs++[128]++List.replicate (padZ n) 0++padT n i))∧Aside0 (Below w.heap.size w wr)) (fun _ iv _=>(intOf iv+1).toNat)
   case atStart=>exact ⟨0,by omega,rfl,⟨by rw [← HZ.out];simpa [padT] using HO.out⟩,HB⟩
   case round=>
    clear HO HB
    obtain ⟨i,hi,rfl,HO,HB⟩:=hrel
    by_cases hi8:i < 8
    ·have i1:(0:Int)≤7 - (i:Int):=by omega
     have i2:(i:Int)≤7:=by omega
     have e1:(8 * (7 - (i:Int))).toNat=8 * (7 - i):=by omega
     have i3:(0:Int)≤8 * (7 - (i:Int)):=by omega
     go_wp2_with ((at_builtin;(with_reducible refine gate_builtin (b:=.append) (xs:=#[.tmp 25,.tmp 31]) rfl ?_);refine Kd.R_append (Kd.int .u8) (w0:=w) w.heap.size rfl (.tmp 25) (.tmp 31) 23 5 (.int .u8 0) 1 rfl Tryz.underlying23 info5' rfl (by decide) (by omega) u3 (bs++[128]++List.replicate (padZ n) 0++padT n i) ((n:Int) * 8 / 2 ^ (8 * (7 - i)) % 256) [.int .u8 ((n:Int) * 8 / 2 ^ (8 * (7 - i)) % 256)] (fun _=>True) (fun _=>False) rfl rfl ?aP (fun _ hk=>hk.elim) ?aF ?aO ?aB ?aS ?aL ?_;(case aP=>exact rfl);(case aF=>exact fun _ _=>trivial);(case aO=>exact HO.out);(case aB=>exact HB.out);(case aS=>exact HB.out.size);(case aL=>have:=HBG.out;have:=HN.out;have:=padZ_lt n;simp [padT_len];omega);intro v3 w3 ho hb hg hat;have HO3:=mkA ho;have HB3:=mkA hb;clear ho hb hg hat))
     have hi9:=mkA hi8
     clear hi8 i1 i2 e1 i3
     go_roundw
     case rel=>exact ⟨i+1,by have:=hi9.out;omega,by go_num,⟨by rw [padT_succ,← List.append_assoc];exact HO3.out⟩,HB3⟩
     case measure=>have:=hi9.out;simp [intOf];omega
    ·have i1:¬ (0:Int)≤7 - (i:Int):=by omega
     have e8:=mkA (show i=8 by omega)
     go_wp2
     go_ret
     refine ⟨_,rfl,?_,HB.out⟩
     have h:=HO.out
     rw [e8.out] at h
     unfold padF
     rw [HN.out]
     exact h
  ·have h1:((m:Int) % 64 != 56)=true:=by have:=HMZ.out;have:=hpz.out;unfold padZ at hz this;rw [bne_iff_ne];omega
   have h2:((m:Int) % 64 == 56)=false:=by have:=HMZ.out;have:=hpz.out;unfold padZ at hz this;rw [beq_eq_false_iff_ne];omega
   have HZ:=mkA hz
   clear hz
   go_wp2_with ((at_builtin;(with_reducible refine gate_builtin (b:=.append) (xs:=#[.tmp 14,.tmp 15]) rfl ?_);refine Kd.R_append (Kd.int .u8) (w0:=w) w.heap.size rfl (.tmp 14) (.tmp 15) 23 5 (.int .u8 0) 1 rfl Tryz.underlying23 info5' rfl (by decide) (by omega) (.slice A' m c') (bs++[128]++List.replicate z 0) 0 [.int .u8 0] (fun _=>True) (fun _=>False) rfl rfl ?aP (fun _ hk=>hk.elim) ?aF ?aO ?aB ?aS ?aL ?_;(case aP=>exact rfl);(case aF=>exact fun _ _=>trivial);(case aO=>exact HO.out);(case aB=>exact HB.out);(case aS=>exact HB.out.size);(case aL=>have:=HBG.out;have:=HML.out;have:=HMZ.out;have:=hpz.out;omega);intro v3 w3 ho hb hg hat;have HO3:=mkA ho;have HB3:=mkA hb;clear ho hb hg hat))
   have hml:(bs++[128]++List.replicate (z+1) 0).length=m+1:=by have:=HMZ.out;have:=HN.out;simp;omega
   have hrep:bs++[128]++List.replicate (z+1) 0=bs++[128]++List.replicate z 0++[0]:=by rw [List.replicate_succ',List.append_assoc _ (List.replicate z 0)]
   have HO4:=HO3.out
   rw [← hrep] at HO4
   obtain ⟨A2,c2,hv3,_,_⟩:=Kd.R_reads HO4
   rw [hml] at hv3
   have HV3:=mkA hv3
   have HO5:=mkA HO4
   clear hml hrep HO4 hv3 HO3 h1 h2
   go_roundw
   case rel=>exact ⟨z+1,m+1,A2,c2,HV3.out,by have:=HMZ.out;have:=hpz.out;have:=HZ.out;have:=padZ_lt n;omega,⟨by have:=HMZ.out;omega⟩,⟨by have:=hpz.out;have:=HZ.out;omega⟩,HO5,HB3⟩
   case measure=>rw [HV3.out];have:=HMZ.out;have:=hpz.out;have:=HZ.out;have:=padZ_lt n;simp;omega
end Go.Proofs.YtlnmnjbihgaliaaGreat
end
section
open Go.RowKit Go.Proofs.YtlnmnjbihgaliaaGreatW.PrintWords Go.Proofs.YtlnmnjbihgaliaaGreatW.PrintMore
namespace Go.Proofs.YtlnmnjbihgaliaaGreat
set_option maxRecDepth 100000 in
set_option maxHeartbeats 4000000 in
theorem table_calls(w:World):Calls Tryz.prog 81 #[] w fun e w'=>e=.returned (.agg (u32s KK))∧Below w.heap.size w w':=by
 go_enter Tryz.func81,Tryz.ntmps81
 go_wp2_with (first|(with_reducible refine wpList_store_row rfl 97 _ _ rfl w.heap.size _ rfl rfl 97 _ (new_at rfl) ?_ ?_ ?_ ?_))
 ·kernel_rfl
 ·kernel_rfl
 ·kernel_rfl
 ·refine bodyPost_ret (v:=.agg (u32s KK)) ((results_cell_row rfl _ _ w.heap.size 97 _ (0,0) _ rfl (setRow_heap _ _ _ _ _ _ (new_at rfl)) Tryz.underlying97 rfl ?h1).trans ?h2) rfl ⟨rfl,below_setRow ((Below.refl _ _).alloc (Nat.le_refl _) _) (Nat.le_refl _) _⟩
  case h1=>kernel_rfl
  case h2=>exact congrArg (fun c=>Result.ok (Value.agg c) _) (by kernel_rfl)
end Go.Proofs.YtlnmnjbihgaliaaGreat
end
section
open Go.RowKit Go.Proofs.YtlnmnjbihgaliaaGreatW.PrintWords Go.Proofs.YtlnmnjbihgaliaaGreatW.PrintMore
namespace Go.Proofs.YtlnmnjbihgaliaaGreat
theorem add3r(a b c d:Int):(a+c+b+d) % 4294967296=add32 (add32 (add32 a b) c) d:=by
 simp only [add32,IntKind.wrap_u32];omega
theorem addS_sets{st:List Int}(h:st.length=8){a b c d e f g i:Int}:addS st ⟨a,b,c,d,e,f,g,i⟩=(((((((st.set 0 (add32 (nth st 0) a)).set 1 (add32 (nth st 1) b)).set 2 (add32 (nth st 2) c)).set 3 (add32 (nth st 3) d)).set 4 (add32 (nth st 4) e)).set 5 (add32 (nth st 5) f)).set 6 (add32 (nth st 6) g)).set 7 (add32 (nth st 7) i):=by
 match st,h with
 |[_,_,_,_,_,_,_,_],_=>rfl
theorem outB_shr(st:List Int)(j:Nat)(_h:j < 32):nth st (j / 4) / 2 ^ (24 - 8 * (j % 4)) % 256=outB st j:=by
 unfold outB
 have h4:j % 4=0∨j % 4=1∨j % 4=2∨j % 4=3:=by omega
 rcases h4 with e|e|e|e <;> simp [e]
theorem outR_step(st O:List Int)(j:Nat)(hO:O.length=32)(hj:j < 32)(h:∀ i,i < 32→nth O i=if i < j then outB st i else 0)(i:Nat)(hi:i < 32):
  nth (O.set j (outB st j)) i=if i < j+1 then outB st i else 0:=by
 rw [nth_set _ _ _ _ (by omega),h i hi]
 by_cases e:i=j
 ·rw [if_pos e,if_pos (by omega),e]
 ·rw [if_neg e]
  by_cases e2:i < j
  ·rw [if_pos e2,if_pos (by omega)]
  ·rw [if_neg e2,if_neg (by omega)]
theorem bytes_of_C{w:World}{A:Option Addr}{n:Nat}{l:List Int}(h:Kd.C (Kd.int .u8) w A n l)(hn:0 < n):∃ bb bo,A=some ⟨bb,bo,none⟩∧bb < w.heap.size∧BytesAt w bb bo n l:=by
 obtain ⟨hl,_,h2⟩:=h
 obtain ⟨ad,rfl,h3⟩:=h2 hn
 have hcell:∀ j,j < n→w.cell? (ad.add j)=some (.int .u8 (nth l j)):=fun j hj=>by
  obtain ⟨c,_,hc,h4⟩:=h3 j (l[j]) (List.getElem?_eq_getElem (by omega))
  have hc':c=[.int .u8 (l[j])]:=hc
  have:=h4 0 (.int .u8 (l[j])) (by rw [hc'];rfl)
  have hz:(Kd.int IntKind.u8).sz=1:=rfl
  rw [hz,Nat.mul_one,Nat.add_zero] at this
  rw [this,nth,List.getD_eq_getElem?_getD,List.getElem?_eq_getElem (by omega)]
  rfl
 have h0:=hcell 0 hn
 obtain ⟨bb,bo,sp⟩:=ad
 have hsp:sp=none:=by
  cases sp with
  |none=>rfl
  |some x=>
   exfalso
   have:(Addr.add ⟨bb,bo,some x⟩ 0)=⟨bb,bo,some x⟩:=by simp [Addr.add]
   rw [this] at h0
   unfold World.cell? at h0
   split at h0 <;> simp at h0
 subst hsp
 refine ⟨bb,bo,rfl,?_,fun j hj=>?_⟩
 ·have:=World.block_lt_of_cell? w _ h0
  simpa [Addr.add] using this
 ·rw [← hcell j hj,Addr.add_mid]
theorem nums_reads{w:World}{base:Nat}{ok:Nat→Prop}{v:Value}{l:List Int}(h:Kd.R (Kd.int .u8) 5 w base ok v l)(hl:0 < l.length):
  ∃ g c,v=.slice (some ⟨g,0,none⟩) l.length c∧l.length≤c∧base≤g∧g < w.heap.size∧BytesAt w g 0 l.length l:=by
 obtain ⟨A,c,rfl,hlc,hC⟩:=Kd.R_reads h
 obtain ⟨_,inner,ho,_⟩:=h
 obtain ⟨g,cap,hv,_⟩:=ho.form hl
 have hA:A=some ⟨g,0,none⟩:=by
  injection hv
 subst hA
 obtain ⟨bb,bo,e,hlt,hb⟩:=bytes_of_C hC hl
 injection e with e
 injection e with e1 e2
 subst e1 e2
 exact ⟨g,c,rfl,hlc,own_base ho g (by simp [Value.ownBlock]),hlt,hb⟩
/-- The sum, as the reference reckons it. -/
def stR(bs:List Int):List Int:=runS KK IV (padF bs) ((padF bs).length / 64)
def sumR(bs:List Int):List Int:=(List.range 32).map (outB (stR bs))
theorem padF_len(bs:List Int):(padF bs).length=bs.length+9+padZ bs.length:=by
 simp [padF];omega
theorem padF_64(bs:List Int):64 * ((padF bs).length / 64)=(padF bs).length:=by
 rw [padF_len];unfold padZ;omega
set_option maxRecDepth 100000 in
set_option maxHeartbeats 16000000 in
theorem refsum_calls(A:Option Addr)(c:Nat)(bs:List Int)(w:World)(hr:Kd.C (Kd.int .u8) w A bs.length bs)(hc:bs.length≤c)(hbig:bs.length≤140737488355000):
  Calls Tryz.prog 63 #[.slice A bs.length c] w fun e w'=>e=.returned (.agg (u8s (sumR bs)))∧Below w.heap.size w w':=by
 have hpc:=fun (W:World) (hb:Below w.heap.size w W)=>pad_calls A c bs W (Kd.C_below hr hb) hc hbig
 have HPC:=mkA hpc
 have HBG:=mkA hbig
 clear hr hpc hc hbig
 obtain ⟨n,hn⟩:∃ n,bs.length=n:=⟨_,rfl⟩
 rw [hn] at HPC HBG ⊢
 have HN:=mkA hn
 clear hn
 go_enter Tryz.func63,Tryz.ntmps63
 go_wp2_with (first
  |(go_at_call 81;refine (table_calls _).mono ?_;rintro e wt ⟨rfl,hb⟩;have HBT:=mkA ((((Below.refl w.heap.size w).alloc (Nat.le_refl _) _).alloc (by simp) _).trans (hb.mono (by simp;omega)));have HIV:=mkA (show wt.heap[w.heap.size+1]?=some (.cells (u32s IV) 98 (0,0)) from (hb.block _ (by simp)).trans (new_at (by simp)));have HO0:=mkA (show wt.heap[w.heap.size]?=some (.cells (u8s (List.replicate 32 0)) 42 (0,0)) from (hb.block _ (by simp;omega)).trans (blk_alloc (new_at rfl) _));clear hb)
  |(with_reducible refine wpList_store_row rfl 97 _ _ rfl wt.heap.size (u32s KK) rfl rfl 97 _ (new_at rfl) ?_ ?_ ?_ ?_))
 ·kernel_rfl
 ·kernel_rfl
 ·kernel_rfl
 have KS:∀ o,(wt.alloc o).setRow wt.heap.size (u32s KK)=(wt.alloc o).setRow wt.heap.size (u32s KK):=fun _=>rfl
 have HBS:=mkA (fun (o:Obj)=>below_setRow (HBT.out.alloc HBT.out.size o) HBT.out.size (u32s KK))
 have HKS:=mkA (fun (cs:Array Value)=>setRow_heap (wt.alloc (.cells cs 97)) wt.heap.size cs (u32s KK) 97 (0,0) (new_at rfl))
 have HOT:=mkA (fun (o:Obj) (k:Nat) (h:k < wt.heap.size)=>(setRow_other (wt.alloc o) wt.heap.size k (u32s KK) (by omega)).trans (Below.heap_alloc wt o k h))
 clear KS
 go_wp2_with fail
 refine (HPC.out _ (HBS.out _)).mono ?_
 rintro e ws ⟨vp,rfl,hR,hb⟩
 obtain ⟨L,hL⟩:∃ L,(padF bs).length=L:=⟨_,rfl⟩
 have hLf:=padF_len bs
 have hL64:=padF_64 bs
 have hpz:=padZ_lt n
 rw [hL,HN.out] at hLf
 rw [hL] at hL64
 obtain ⟨pg,pc,rfl,hpc,hpg1,hpg2,hpb⟩:=nums_reads hR (by omega)
 rw [hL] at hpb hpc ⊢
 have S1:w.heap.size+1 < wt.heap.size:=blk_lt HIV.out
 have hsr:∀ (W:World) (g:Nat) (cs:Array Value),(W.setRow g cs).heap.size=W.heap.size:=fun W g cs=>size_setRow W g cs
 rw [hsr,size_a] at hpg1 hb
 have BW:=mkA (show Below w.heap.size w ws from (HBS.out _).trans (hb.mono (by omega)))
 have HS1:=mkA (show ws.heap[w.heap.size+1]?=some (.cells (u32s IV) 98 (0,0)) from (hb.block _ (by omega)).trans ((HOT.out _ _ (by omega)).trans HIV.out))
 have HS0:=mkA (show ws.heap[w.heap.size]?=some (.cells (u8s (List.replicate 32 0)) 42 (0,0)) from (hb.block _ (by omega)).trans ((HOT.out _ _ (by omega)).trans HO0.out))
 have HSK:=mkA (show ws.heap[wt.heap.size]?=some (.cells (u32s KK) 97 (0,0)) from (hb.block _ (by omega)).trans (HKS.out _))
 have HPB:=mkA hpb
 have HPG:=mkA (And.intro hpg1 hpg2)
 have HS:=mkA (And.intro S1 hL64)
 have HLL:=mkA hL
 have hLbig:L≤140737488355200:=by have:=HBG.out;omega
 clear hR hb hL hLf hL64 hpz hpb hpg1 hpg2 S1 hsr HBT HIV HO0 HBS HKS HOT HPC
 go_wp2
 go_loopw [6] (fun i wr=>∃ (o q:Nat),i=.int .i64 (o:Int)∧o≤L∧Aside0 (o=64 * q)∧Aside0 (wr.heap[w.heap.size+1]?=some (.cells (u32s (runS KK IV (padF bs) q)) 98 (0,0)))∧Aside0 (ws.grownBy wr (some (w.heap.size+1)))) (fun i _=>L - (intOf i).toNat)
 case atStart=>exact ⟨0,0,rfl,Nat.zero_le _,⟨rfl⟩,HS1,⟨World.grownBy.refl _ _⟩⟩
 case round=>
  obtain ⟨o,q,rfl,hoL,hoq,HST,HG0⟩:=hrel
  by_cases hlt:o < L
  ·have ho64:o+64≤L:=by have:=hoq.out;have:=HS.out.2;omega
   go_wp2
   obtain ⟨wo,rfl⟩:∃ wo:World,wo=wr:=⟨_,rfl⟩
   have SZ:=mkA (show w.heap.size+1 < wo.heap.size from blk_lt HST.out)
   have HPO:=mkA (show BytesAt wo pg 0 L (padF bs) from fun j hj=>HG0.out.cell (HPB.out j hj) (by have:=HPG.out;have:=HS.out.1;simp;omega))
   have HPLT:=mkA (show pg < wo.heap.size by have:=HPG.out.2;have:=HG0.out.size;omega)
   have HKO:=mkA (show wo.heap[wt.heap.size]?=some (.cells (u32s KK) 97 (0,0)) from blk_gb HSK.out HG0.out (by have:=HS.out.1;simp;omega))
   have HLT:=mkA hlt
   clear hlt
   go_loopw [8] (fun i w3=>∃ (k:Nat) (vs:List Int),k≤16∧i=.int .i64 k∧Aside0 (vs.length=64)∧Aside0 (∀ j,j < k→nth vs j=word ((padF bs).drop o) j)∧Aside0 (w3.heap[wo.heap.size]?=some (.cells (u32s vs) 97 (0,0)))∧Aside0 (Below wo.heap.size wo w3)) (fun i _=>16 - (intOf i).toNat)
   case atStart=>exact ⟨0,List.replicate 64 0,by omega,rfl,⟨rfl⟩,⟨fun j hj=>absurd hj (by omega)⟩,⟨(new_at rfl).trans (by rfl)⟩,⟨(Below.refl _ _).alloc (Nat.le_refl _) _⟩⟩
   case round=>
    obtain ⟨k,vs,hk,rfl,hl,hw,HH,HB⟩:=hrel
    by_cases hlt:k < 16
    ·as_aux_lemma=>
      go_light
      go_wp2
      refine still_tail_at 43 (by kernel_rfl) (by kernel_rfl) ?_
      intro wd hwd
      have HD:=mkA hwd
      clear hwd
      simp only [List.take_succ_cons,List.take_zero,List.drop_succ_cons,List.drop_zero]
      have cc:∀ j,j < L→wd.cell? ⟨pg,j,none⟩=some (.int .u8 (nth (padF bs) j)):=fun j hj=>by
       have:=HPO.out j hj
       rw [Nat.zero_add] at this
       rw [HD.out]
       exact (HB.out.cell (p:=⟨pg,j,none⟩) HPLT.out).trans this
      have c0:=cc (o+4 * k) (by omega)
      have c1:=cc (o+4 * k+1) (by omega)
      have c2:=cc (o+4 * k+2) (by omega)
      have c3:=cc (o+4 * k+3) (by omega)
      clear cc
      have HH2:wd.heap[wo.heap.size]?=some (.cells (u32s vs) 97 (0,0)):=by rw [HD.out];exact HH.out
      have d0:wd.cell? ⟨wo.heap.size,k,none⟩=some (.int .u32 (nth vs k)):=(blk_cell HH2 k).trans (u32s_at vs k (by rw [hl.out];omega))
      have f0:wd.frozen? ⟨wo.heap.size,k,none⟩=false:=blk_frozen HH2 k
      have HH3:=mkA HH2
      clear HH2
      have i0:(0:Int)≤(k:Int):=by omega
      have i1:(k:Int) < 64:=by omega
      have i3:(o:Int)+4 * (k:Int)+3 < (L:Int):=by omega
      have i4:(o:Int)+4 * (k:Int) < (L:Int):=by omega
      have i5:(o:Int)+4 * (k:Int)+1 < (L:Int):=by omega
      have i6:(o:Int)+4 * (k:Int)+2 < (L:Int):=by omega
      have j4:0≤(o:Int)+4 * (k:Int):=by omega
      have j5:0≤(o:Int)+4 * (k:Int)+1:=by omega
      have j6:0≤(o:Int)+4 * (k:Int)+2:=by omega
      have j7:0≤(o:Int)+4 * (k:Int)+3:=by omega
      have e0:((o:Int)+4 * (k:Int)).toNat=o+4 * k:=by omega
      have e1:((o:Int)+4 * (k:Int)+1).toNat=o+4 * k+1:=by omega
      have e2:((o:Int)+4 * (k:Int)+2).toNat=o+4 * k+2:=by omega
      have e3:((o:Int)+4 * (k:Int)+3).toNat=o+4 * k+3:=by omega
      have w00:IntKind.i64.wrap (4 * (k:Int))=4 * k:=IntWalk.i64_in _ (by omega)
      have w0:IntKind.i64.wrap ((o:Int)+4 * (k:Int))=o+4 * k:=IntWalk.i64_in _ (by omega)
      have w1:IntKind.i64.wrap ((o:Int)+4 * (k:Int)+1)=o+4 * k+1:=IntWalk.i64_in _ (by omega)
      have w2:IntKind.i64.wrap ((o:Int)+4 * (k:Int)+2)=o+4 * k+2:=IntWalk.i64_in _ (by omega)
      have w3:IntKind.i64.wrap ((o:Int)+4 * (k:Int)+3)=o+4 * k+3:=IntWalk.i64_in _ (by omega)
      have hk16:=mkA hlt
      have hoLL:=mkA (And.intro hoL (And.intro ho64 hLbig))
      clear hlt hk hoL ho64 hLbig
      repeat still_step
      refine wpStill_nil ?_
      go_wp2
      clear i0 i1 i3 i4 i5 i6 j4 j5 j6 j7 e0 e1 e2 e3 w00 w0 w1 w2 w3 c0 c1 c2 c3 d0 f0
      go_roundw
      case rel=>
       refine ⟨k+1,vs.set k (word ((padF bs).drop o) k),by have:=hk16.out;omega,by go_num,⟨by simp [hl.out]⟩,⟨fun j hj=>?_⟩,⟨?_⟩,⟨?_⟩⟩
       ·rw [nth_set _ _ _ _ (by rw [hl.out];have:=hk16.out;omega)]
        split
        ·next e=>rw [e]
        ·exact hw.out j (by omega)
       ·rw [← u32s_set,word,nth_drop,nth_drop,nth_drop,nth_drop];exact blk_set HH3.out k _
       ·rw [HD.out];exact HB.out.drew.setCell (Nat.le_refl _) _
      case measure=>have:=hk16.out;simp [intOf];omega
    ·go_wp2
     have hk16:=mkA (show k=16 by omega)
     have hoLL:=mkA (And.intro hoL (And.intro ho64 hLbig))
     clear hlt hk hoL ho64 hLbig
     go_loopw [9] (fun i w3=>∃ (p:Nat) (vs:List Int),p≤48∧i=.int .i64 ((p:Int)+16)∧Aside0 (vs.length=64)∧Aside0 (∀ j,j < p+16→nth vs j=sched (word ((padF bs).drop o)) j)∧Aside0 (w3.heap[wo.heap.size]?=some (.cells (u32s vs) 97 (0,0)))∧Aside0 (Below wo.heap.size wo w3)) (fun i _=>64 - (intOf i).toNat)
     case atStart=>exact ⟨0,vs,by omega,rfl,hl,⟨fun j hj=>by rw [sched_low _ _ (by omega)];exact hw.out j (by have:=hk16.out;omega)⟩,HH,HB⟩
     case round=>
      clear hw HH HB hl hk16
      obtain ⟨p,vs,hp,rfl,hl,hw,HH,HB⟩:=hrel
      by_cases hlt:p < 48
      ·as_aux_lemma=>
        go_light
        have k64:(p:Int)+16 < 64:=by omega
        go_wp2
        refine still_at (by kernel_rfl) (by kernel_rfl) ?_
        intro wd hwd
        have HD:=mkA hwd
        clear hwd
        have HH2:wd.heap[wo.heap.size]?=some (.cells (u32s vs) 97 (0,0)):=by rw [HD.out];exact HH.out
        have d15:wd.cell? ⟨wo.heap.size,p+1,none⟩=some (.int .u32 (nth vs (p+1))):=(blk_cell HH2 _).trans (u32s_at vs _ (by rw [hl.out];omega))
        have d2:wd.cell? ⟨wo.heap.size,p+14,none⟩=some (.int .u32 (nth vs (p+14))):=(blk_cell HH2 _).trans (u32s_at vs _ (by rw [hl.out];omega))
        have HH3:=mkA HH2
        clear HH2
        have w15:IntKind.i64.wrap ((p:Int)+16 - 15)=p+1:=(IntWalk.i64_in _ (by omega)).trans (by omega)
        have w2:IntKind.i64.wrap ((p:Int)+16 - 2)=p+14:=(IntWalk.i64_in _ (by omega)).trans (by omega)
        have i15:(0:Int)≤(p:Int)+1:=by omega
        have j15:(p:Int)+1 < 64:=by omega
        have i2:(0:Int)≤(p:Int)+14:=by omega
        have j2:(p:Int)+14 < 64:=by omega
        have e15:((p:Int)+1).toNat=p+1:=by omega
        have e2:((p:Int)+14).toNat=p+14:=by omega
        repeat still_step
        refine wpStill_nil ?_
        clear w15 w2 i15 j15 i2 j2 e15 e2 d15 d2
        go_wp2
        have HH4:wd.heap[wo.heap.size]?=some (.cells (u32s vs) 97 (0,0)):=HH3.out
        have d16:wd.cell? ⟨wo.heap.size,p,none⟩=some (.int .u32 (nth vs p)):=(blk_cell HH4 _).trans (u32s_at vs _ (by rw [hl.out];omega))
        have d7:wd.cell? ⟨wo.heap.size,p+9,none⟩=some (.int .u32 (nth vs (p+9))):=(blk_cell HH4 _).trans (u32s_at vs _ (by rw [hl.out];omega))
        have d0:wd.cell? ⟨wo.heap.size,p+16,none⟩=some (.int .u32 (nth vs (p+16))):=(blk_cell HH4 _).trans (u32s_at vs _ (by rw [hl.out];omega))
        have f0:wd.frozen? ⟨wo.heap.size,p+16,none⟩=false:=blk_frozen HH4 _
        have HH5:=mkA HH4
        clear HH4
        have w16:IntKind.i64.wrap ((p:Int)+16 - 16)=p:=(IntWalk.i64_in _ (by omega)).trans (by omega)
        have w16':IntKind.i64.wrap (p:Int)=p:=(IntWalk.i64_in _ (by omega)).trans (by omega)
        have w7:IntKind.i64.wrap ((p:Int)+16 - 7)=p+9:=(IntWalk.i64_in _ (by omega)).trans (by omega)
        have i16:(0:Int)≤(p:Int):=by omega
        have j16:(p:Int) < 64:=by omega
        have i7:(0:Int)≤(p:Int)+9:=by omega
        have j7:(p:Int)+9 < 64:=by omega
        have i0:(0:Int)≤(p:Int)+16:=by omega
        have e16:((p:Int)).toNat=p:=by omega
        have e7:((p:Int)+9).toNat=p+9:=by omega
        have e0:((p:Int)+16).toNat=p+16:=by omega
        refine QTail.quiet_tail_at 29 (by kernel_rfl) (by kernel_rfl) ?_
        simp only [List.take_succ_cons,List.take_zero,List.drop_succ_cons,List.drop_zero]
        repeat (quiet_step (exact Calls.quiet_of ((turn_any _ _ _ (by decide)).mono fun _ _ ⟨he,hw⟩=>⟨he,1,hw⟩)))
        refine wpQuiet_nil ?_
        intro we hwe
        obtain ⟨nq,rfl⟩:=hwe
        go_wp2
        have hk48:=mkA hlt
        clear w16 w16' w7 i16 j16 i7 j7 i0 e16 e7 e0 d16 d7 d0 f0 hlt k64
        go_roundw
        case rel=>
         refine ⟨p+1,vs.set (p+16) (sched (word ((padF bs).drop o)) (p+16)),by have:=hk48.out;omega,by go_num,⟨by simp [hl.out]⟩,⟨fun j hj=>?_⟩,⟨?_⟩,⟨?_⟩⟩
         ·rw [nth_set _ _ _ _ (by rw [hl.out];have:=hk48.out;omega)]
          split
          ·next e=>rw [e]
          ·exact hw.out j (by omega)
         ·rw [← u32s_set,sched_high _ _ (by omega),show p+16 - 16=p from by omega,show p+16 - 7=p+9 from by omega,show p+16 - 15=p+1 from by omega,show p+16 - 2=p+14 from by omega,← hw.out p (by omega),← hw.out (p+9) (by omega),← hw.out (p+1) (by omega),← hw.out (p+14) (by omega)]
          rw [← add3r];exact blk_set (blk_drewN HH5.out _) _ _
         ·rw [HD.out];exact (pw_below_drewN HB.out.drew _).setCell (Nat.le_refl _) _
        case measure=>have:=hk48.out;simp [intOf];omega
      ·have k64:¬ (p:Int)+16 < 64:=by omega
       go_wp2
       have hp48:=mkA (show p=48 by omega)
       clear hlt k64 hp
       refine still_at (by kernel_rfl) (by kernel_rfl) ?_
       intro wd hwd
       have HD:=mkA hwd
       clear hwd
       have HA2:wd.heap[w.heap.size+1]?=some (.cells (u32s (runS KK IV (padF bs) q)) 98 (0,0)):=by rw [HD.out];exact (HB.out.block _ SZ.out).trans HST.out
       obtain ⟨st,hst⟩:∃ st,runS KK IV (padF bs) q=st:=⟨_,rfl⟩
       rw [hst] at HA2
       have hst8:st.length=8:=by rw [← hst];exact runS_len _ _ _ rfl _
       have sc:∀ j,j < 8→wd.cell? ⟨w.heap.size+1,j,none⟩=some (.int .u32 (nth st j)):=fun j hj=>(blk_cell HA2 _).trans (u32s_at st _ (by omega))
       have s0:=sc 0 (by omega)
       have s1:=sc 1 (by omega)
       have s2:=sc 2 (by omega)
       have s3:=sc 3 (by omega)
       have s4:=sc 4 (by omega)
       have s5:=sc 5 (by omega)
       have s6:=sc 6 (by omega)
       have s7:=sc 7 (by omega)
       have HST2:=mkA HA2
       have HSS:=mkA (And.intro hst hst8)
       clear sc HA2 hst hst8
       repeat still_step
       refine wpStill_nil ?_
       clear s0 s1 s2 s3 s4 s5 s6 s7
       go_wp2
       have hKD:=mkA (show wd.heap[wt.heap.size]?=some (.cells (u32s KK) 97 (0,0)) from by rw [HD.out];exact (HB.out.block _ (blk_lt HKO.out)).trans HKO.out)
       have HVD:=mkA (show wd.heap[wo.heap.size]?=some (.cells (u32s vs) 97 (0,0)) from by rw [HD.out];exact HH.out)
       have HBD:=mkA (show Below wo.heap.size wo wd from by rw [HD.out];exact HB.out.drew)
       clear HH HB HD HST
       go_loopw [12,13,14,15,16,17,18,19,20] (fun v1 v2 v3 v4 v5 v6 v7 v8 i w3=>∃ (r:Nat) (x1 x2 x3 x4 x5 x6 x7 x8:Int),r≤64∧i=.int .i64 r∧v1=.int .u32 x1∧v2=.int .u32 x2∧v3=.int .u32 x3∧v4=.int .u32 x4∧v5=.int .u32 x5∧v6=.int .u32 x6∧v7=.int .u32 x7∧v8=.int .u32 x8∧Aside0 (rnds rnd1 (nth KK) (sched (word ((padF bs).drop o))) (stS st) r=⟨x1,x2,x3,x4,x5,x6,x7,x8⟩)∧Aside0 (Drawn0 wd w3)) (fun _ _ _ _ _ _ _ _ i _=>64 - (intOf i).toNat)
       case atStart=>exact ⟨0,_,_,_,_,_,_,_,_,by omega,rfl,rfl,rfl,rfl,rfl,rfl,rfl,rfl,rfl,⟨rfl⟩,⟨Drawn0.refl _⟩⟩
       case round=>
        obtain ⟨r,x1,x2,x3,x4,x5,x6,x7,x8,hq,rfl,rfl,rfl,rfl,rfl,rfl,rfl,rfl,rfl,HR,HDR⟩:=hrel
        by_cases hlt:r < 64
        ·as_aux_lemma=>
          go_light
          go_wp2
          obtain ⟨dn,hdn⟩:=HDR.out.out
          have HDN:=mkA hdn
          clear hdn
          have dk:wr.cell? ⟨wt.heap.size,r,none⟩=some (.int .u32 (nth KK r)):=by
           rw [HDN.out];exact (blk_cell (blk_drewN hKD.out _) _).trans (u32s_at KK _ hlt)
          have dv:wr.cell? ⟨wo.heap.size,r,none⟩=some (.int .u32 (nth vs r)):=by
           rw [HDN.out];exact (blk_cell (blk_drewN HVD.out _) _).trans (u32s_at vs _ (by rw [hl.out];exact hlt))
          have iq:(0:Int)≤(r:Int):=by omega
          have jq:(r:Int) < 64:=by omega
          go_quiet (exact Calls.quiet_of ((turn_any _ _ _ (by decide)).mono fun _ _ ⟨he,hw⟩=>⟨he,1,hw⟩))
          clear dk dv
          go_wp2_with (go_at_call 83;refine (turn_any _ _ _ (by decide)).mono ?_;rintro e w' ⟨rfl,rfl⟩)
          have hq64:=mkA hlt
          clear hlt iq jq
          go_roundw
          case rel=>
           refine ⟨r+1,_,_,_,_,_,_,_,_,by have:=hq64.out;omega,by go_num,rfl,rfl,rfl,rfl,rfl,rfl,rfl,rfl,⟨?_⟩,⟨?_⟩⟩
           ·rw [rnds,HR.out,← hw.out r (by have:=hq64.out;have:=hp48.out;omega)]
            simp only [rnd1,t1,t2,add32,ch32,not32,bs0,bs1,maj32,IntKind.wrap_u32,Int.emod_add_emod]
           ·repeat (first|exact HDR.out|apply Drawn0.step|apply drawn_drew)
          case measure=>have:=hq64.out;simp [intOf];omega
        ·have hq64:=mkA (show r=64 by omega)
         obtain ⟨dn,hdn⟩:=HDR.out.out
         have HSR:=mkA (show wr.heap[w.heap.size+1]?=some (.cells (u32s st) 98 (0,0)) from by rw [hdn];exact blk_drewN HST2.out _)
         have HBR:=mkA (show Below wo.heap.size wo wr from by rw [hdn];exact pw_below_drewN HBD.out _)
         have sc:∀ j,j < 8→wr.cell? ⟨w.heap.size+1,j,none⟩=some (.int .u32 (nth st j))∧wr.frozen? ⟨w.heap.size+1,j,none⟩=false:=fun j hj=>⟨(blk_cell HSR.out _).trans (u32s_at st _ (by have:=HSS.out.2;omega)),blk_frozen HSR.out _⟩
         obtain ⟨s0,f0⟩:=sc 0 (by omega)
         obtain ⟨s1,f1⟩:=sc 1 (by omega)
         obtain ⟨s2,f2⟩:=sc 2 (by omega)
         obtain ⟨s3,f3⟩:=sc 3 (by omega)
         obtain ⟨s4,f4⟩:=sc 4 (by omega)
         obtain ⟨s5,f5⟩:=sc 5 (by omega)
         obtain ⟨s6,f6⟩:=sc 6 (by omega)
         obtain ⟨s7,f7⟩:=sc 7 (by omega)
         have hr64:=mkA hlt
         clear sc hdn hq
         have holb:o≤140737488355200:=by have:=hoLL.out;omega
         go_wp2
         clear s0 s1 s2 s3 s4 s5 s6 s7 f0 f1 f2 f3 f4 f5 f6 f7 hlt
         have hr64b:=hr64.out
         have e64:r=64:=hq64.out
         clear hr64b
         go_roundw
         case rel=>
          refine ⟨o+64,q+1,by go_num,by have:=hoLL.out;omega,⟨by have:=hoq.out;omega⟩,⟨?_⟩,⟨?_⟩⟩
          ·rw [runS,HSS.out.1,← hoq.out,mixF,← e64,HR.out,addS_sets HSS.out.2,← u32s_set,← u32s_set,← u32s_set,← u32s_set,← u32s_set,← u32s_set,← u32s_set,← u32s_set]
           simp only [add32,IntKind.wrap_u32]
           exact blk_set (blk_set (blk_set (blk_set (blk_set (blk_set (blk_set (blk_set HSR.out _ _) _ _) _ _) _ _) _ _) _ _) _ _) _ _
          ·have G:=HG0.out.trans (grown_of_below (w1:=wr) HBR.out _)
           exact gb_set (gb_set (gb_set (gb_set (gb_set (gb_set (gb_set (gb_set G _ (.inl rfl) _) _ (.inl rfl) _) _ (.inl rfl) _) _ (.inl rfl) _) _ (.inl rfl) _) _ (.inl rfl) _) _ (.inl rfl) _) _ (.inl rfl) _
         case measure=>have:=HLT.out;simp [intOf];omega
  ·go_wp2
   obtain ⟨wo,rfl⟩:∃ wo:World,wo=wr:=⟨_,rfl⟩
   have HQ:=mkA (show q=L / 64 by have:=hoq.out;have:=HS.out.2;omega)
   have HFS:=mkA (show wo.heap[w.heap.size+1]?=some (.cells (u32s (stR bs)) 98 (0,0)) from by
    rw [HST.out,HQ.out,← HLL.out];rfl)
   have HF0:=mkA (show wo.heap[w.heap.size]?=some (.cells (u8s (List.replicate 32 0)) 42 (0,0)) from blk_gb HS0.out HG0.out (by simp))
   have HFB:=mkA (show Below w.heap.size w wo from BW.out.grown HG0.out BW.out.size (fun k hk=>by simp at hk;omega))
   clear HST HG0 hlt
   go_loopw [24] (fun i w3=>∃ (j:Nat) (O:List Int),j≤32∧i=.int .i64 j∧Aside0 (O.length=32)∧Aside0 (∀ i,i < 32→nth O i=if i < j then outB (stR bs) i else 0)∧Aside0 (w3.heap[wo.heap.size]?=some (.cells (u8s O) 42 (0,0)))∧Aside0 (Below wo.heap.size wo w3)) (fun i _=>32 - (intOf i).toNat)
   case atStart=>exact ⟨0,List.replicate 32 0,by omega,rfl,⟨rfl⟩,⟨fun i hi=>by rw [if_neg (by omega)];exact nth_rep 32 i⟩,⟨new_at rfl⟩,⟨(Below.refl _ _).alloc (Nat.le_refl _) _⟩⟩
   case round=>
    obtain ⟨j,O,hj,rfl,hO,hOc,HO,HB5⟩:=hrel
    by_cases hj8:j < 32
    ·have hFw:=mkA (show wr.heap[w.heap.size+1]?=some (.cells (u32s (stR bs)) 98 (0,0)) from (HB5.out.block _ (blk_lt HFS.out)).trans HFS.out)
     have hsl:(stR bs).length=8:=runS_len _ _ _ rfl _
     have hcs:wr.cell? ⟨w.heap.size+1,j / 4,none⟩=some (.int .u32 (nth (stR bs) (j / 4))):=(blk_cell hFw.out _).trans (u32s_at _ _ (by omega))
     have hco:wr.cell? ⟨wo.heap.size,j,none⟩=some (.int .u8 (nth O j)):=(blk_cell HO.out _).trans (u8s_at _ _ (by rw [hO.out];omega))
     have hfo:wr.frozen? ⟨wo.heap.size,j,none⟩=false:=blk_frozen HO.out _
     clear hsl
     have i1:(0:Int)≤(j:Int) / 4:=by omega
     have i2:(j:Int) / 4 < 8:=by omega
     have e1:((j:Int) / 4).toNat=j / 4:=by omega
     have i3:(0:Int)≤24 - 8 * ((j:Int) % 4):=by omega
     have e3:(24 - 8 * ((j:Int) % 4)).toNat=24 - 8 * (j % 4):=by omega
     have i4:24 - 8 * ((j:Int) % 4)≤24:=by omega
     go_wp2
     have hj9:=mkA hj8
     clear hj8 hcs hco hfo i1 i2 e1 i3 e3 i4
     go_roundw
     case rel=>exact ⟨j+1,O.set j (outB (stR bs) j),by have:=hj9.out;omega,by go_num,⟨by rw [List.length_set];exact hO.out⟩,⟨fun i hi=>outR_step _ O j hO.out hj9.out hOc.out i hi⟩,⟨by rw [← u8s_set,← outB_shr _ _ hj9.out];exact blk_set HO.out _ _⟩,⟨HB5.out.setCell (Nat.le_refl _) _⟩⟩
     case measure=>have:=hj9.out;simp [intOf];omega
    ·have hO8:=mkA (show wr.heap[wo.heap.size]?=some (.cells (u8s (sumR bs)) 42 (0,0)) from by
      rw [HO.out,show O=sumR bs from extL _ hO.out (fun i hi=>by rw [hOc.out i hi,if_pos (by omega)])])
     have hz:=mkA (show wr.heap[w.heap.size]?=some (.cells (u8s (List.replicate 32 0)) 42 (0,0)) from (HB5.out.block _ (blk_lt HF0.out)).trans HF0.out)
     have hsz:=mkA (show (Tryz.prog.info? 42).map (·.size)=some (u8s (sumR bs)).size by rw [u8s_size,sumR,List.length_map,List.length_range];kernel_rfl)
     have hso:=mkA (show (u8s (List.replicate 32 0)).size=(u8s (sumR bs)).size by rw [u8s_size,u8s_size,sumR,List.length_map,List.length_range,List.length_replicate])
     have hbw:=mkA (HFB.out.trans (HB5.out.mono HFB.out.size))
     clear HO hOc HB5 HFS HF0
     go_wp2_with (first|(with_reducible refine wpList_load_row rfl 42 _ rfl wo.heap.size rfl 42 (u8s (sumR bs)) (0,0) _ hO8.out Tryz.underlying42 rfl hsz.out ?_)|(with_reducible refine wpList_store_row rfl 42 _ _ rfl w.heap.size (u8s (sumR bs)) rfl rfl 42 _ hz.out hsz.out hso.out (u8s_one _) ?_))
     exact bodyPost_ret (results_cell_row rfl _ _ w.heap.size 42 (u8s (sumR bs)) (0,0) _ rfl (setRow_heap _ _ _ _ _ _ hz.out) Tryz.underlying42 rfl hsz.out) rfl ⟨rfl,below_setRow hbw.out (Nat.le_refl _) _⟩
end Go.Proofs.YtlnmnjbihgaliaaGreat
end
section
namespace Go.Proofs.YtlnmnjbihgaliaaGreat
theorem sched_congr{f g:Nat→Int}(h:∀ j,j < 16→f j=g j):∀ j,sched f j=sched g j:=by
 intro j
 induction j using Nat.strongRecOn with
 |_ j ih=>
  by_cases hj:j < 16
  ·rw [sched_low _ _ hj,sched_low _ _ hj,h j hj]
  ·rw [sched_high _ _ hj,sched_high _ _ hj,ih _ (by omega),ih _ (by omega),ih _ (by omega),ih _ (by omega)]
theorem word_congr{p q:List Int}(h:∀ j,j < 64→nth p j=nth q j)(k:Nat)(hk:k < 16):word p k=word q k:=by
 unfold word
 rw [h _ (by omega),h _ (by omega),h _ (by omega),h _ (by omega)]
theorem mixF_congr(K st:List Int){p q:List Int}(h:∀ j,j < 64→nth p j=nth q j):mixF K st p=mixF K st q:=by
 have e:sched (word p)=sched (word q):=funext (sched_congr (word_congr h))
 unfold mixF
 rw [e]
theorem runS_congr(K st:List Int){p q:List Int}(k:Nat)(h:∀ j,j < 64 * k→nth p j=nth q j):runS K st p k=runS K st q k:=by
 induction k with
 |zero=>rfl
 |succ k ih=>
  show mixF K (runS K st p k) (p.drop (64 * k))=mixF K (runS K st q k) (q.drop (64 * k))
  rw [ih fun j hj=>h j (by omega)]
  exact mixF_congr _ _ fun j hj=>by rw [nth_drop,nth_drop];exact h _ (by omega)
theorem runS_add(K st p:List Int)(a b:Nat):runS K st p (a+b)=runS K (runS K st p a) (p.drop (64 * a)) b:=by
 induction b with
 |zero=>rfl
 |succ b ih=>
  show mixF K (runS K st p (a+b)) (p.drop (64 * (a+b)))=mixF K (runS K (runS K st p a) (p.drop (64 * a)) b) ((p.drop (64 * a)).drop (64 * b))
  rw [ih,List.drop_drop,Nat.mul_add]
theorem nth_app_l{l m:List Int}{j:Nat}(h:j < l.length):nth (l++m) j=nth l j:=by
 unfold nth;rw [List.getD_eq_getElem?_getD,List.getElem?_append_left h,← List.getD_eq_getElem?_getD]
theorem nth_app_r{l m:List Int}{j:Nat}(h:l.length≤j):nth (l++m) j=nth m (j - l.length):=by
 unfold nth;rw [List.getD_eq_getElem?_getD,List.getElem?_append_right h,← List.getD_eq_getElem?_getD]
theorem nth_map_range(f:Nat→Int)(n j:Nat)(h:j < n):nth ((List.range n).map f) j=f j:=by
 simp [nth,h]
theorem sums_eq(bs:List Int):sumP bs=sumR bs:=by
 have hst:stP bs=stR bs:=by
  unfold stP stR
  have hl:=padF_len bs
  have h64:=padF_64 bs
  have hz:padZ bs.length=(119 - bs.length % 64) % 64:=rfl
  have hq:(padF bs).length / 64=bs.length / 64+(if 56≤bs.length % 64 then 2 else 1):=by split <;> omega
  rw [hq,runS_add]
  have e1:runS KK IV (padF bs) (bs.length / 64)=runS KK IV bs (bs.length / 64):=by
   apply runS_congr
   intro j hj
   unfold padF
   rw [nth_app_l (by simp;omega),nth_app_l (by simp;omega),nth_app_l (by omega)]
  rw [e1]
  apply runS_congr
  intro j hj
  rw [nth_drop]
  have hj2:j < 128:=by split at hj <;> omega
  unfold lastL
  rw [nth_map_range _ _ _ hj2]
  unfold tailB
  have hdl:(bs.drop (64 * (bs.length / 64))).length=bs.length % 64:=by simp;omega
  rw [hdl]
  unfold padF
  by_cases c1:j < bs.length % 64
  ·rw [if_pos c1,nth_drop,nth_app_l (by simp;omega),nth_app_l (by simp;omega),nth_app_l (by omega)]
  ·rw [if_neg c1]
   by_cases c2:j=bs.length % 64
   ·rw [if_pos c2,nth_app_l (by simp;omega),nth_app_l (by simp;omega),nth_app_r (by omega)]
    have:64 * (bs.length / 64)+j - bs.length=0:=by omega
    rw [this];rfl
   ·rw [if_neg c2]
    by_cases c3:64 * (bs.length / 64)+j < bs.length+1+padZ bs.length
    ·rw [nth_app_l (by simp;omega),nth_app_r (by simp;omega),nth_rep,if_neg]
     split at hj <;> split <;> omega
    ·rw [nth_app_r (by simp;omega)]
     have e:64 * (bs.length / 64)+j - (bs++[128]++List.replicate (padZ bs.length) 0).length=j - ((if 56≤bs.length % 64 then 128 else 64) - 8):=by
      simp;split at hj <;> split <;> omega
     have hjb:(if 56≤bs.length % 64 then 128 else 64) - 8≤j∧j < (if 56≤bs.length % 64 then 128 else 64):=by split at hj <;> split <;> omega
     rw [if_pos hjb,e,nth_map_range _ _ _ (by omega)]
     have:7 - (j - ((if 56≤bs.length % 64 then 128 else 64) - 8))=(if 56≤bs.length % 64 then 128 else 64) - 1 - j:=by omega
     rw [this]
 unfold sumP sumR
 rw [hst]
end Go.Proofs.YtlnmnjbihgaliaaGreat
end
