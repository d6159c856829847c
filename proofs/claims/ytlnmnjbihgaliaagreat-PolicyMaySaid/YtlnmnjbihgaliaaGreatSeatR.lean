import Derived.Test.YtlnmnjbihgaliaaGreatSeatL
import Derived.Test.YtlnmnjbihgaliaaGreatPr13
set_option linter.unusedVariables false
set_option linter.unusedSimpArgs false
open Go.RowKit Go.Proofs.YtlnmnjbihgaliaaGreatW.PrintWords Go.Proofs.YtlnmnjbihgaliaaGreatW.PrintMore Go.Proofs.YtlnmnjbihgaliaaGreatW.PrintLast
namespace Go.Proofs.YtlnmnjbihgaliaaGreat.Pr
def statL:List Int:=[200,200,200,200,304,404,500,204,301,206]
def rsaysL:List ByteArray:=[⟨#[109,97,120,45,97,103,101,61,49,48]⟩,⟨#[109,97,120,45,97,103,101,61,49,48]⟩,⟨#[109,97,120,45,97,103,101,61,51,48]⟩,⟨#[]⟩,⟨#[110,111,45,115,116,111,114,101]⟩,⟨#[112,114,105,118,97,116,101]⟩,⟨#[110,111,45,99,97,99,104,101]⟩,⟨#[112,117,98,108,105,99]⟩,⟨#[115,45,109,97,120,97,103,101,61,55]⟩,⟨#[109,97,120,45,97,103,101,61,49,48,44,32,109,117,115,116,45,114,101,118,97,108,105,100,97,116,101]⟩,⟨#[109,97,120,45,97,103,101,61,48]⟩,⟨#[109,97,120,45,97,103,101,61,49,48,44,32,112,117,98,108,105,99]⟩]
def rvaryL:List ByteArray:=[⟨#[]⟩,⟨#[]⟩,⟨#[]⟩,⟨#[65,99,99,101,112,116]⟩,⟨#[97,99,99,101,112,116,44,32,108,97,110,103]⟩,⟨#[42]⟩]
def abcL:List Int:=[97,98,99,100,101,102,103,104,105,106,107,108,109,110,111,112,113,114,115,116,117,118,119,120,121,122]
def rdateF(T:Int→ByteArray)(now d:Int):List S41:=if d=0∨d=1 then [⟨⟨#[68,97,116,101]⟩,T now⟩] else if d=2 then [⟨⟨#[68,97,116,101]⟩,T (wrap64 (now - 3))⟩,⟨⟨#[76,97,115,116,45,77,111,100,105,102,105,101,100]⟩,T (wrap64 (now - 100))⟩] else if d=3 then [⟨⟨#[68,97,116,101]⟩,T now⟩,⟨⟨#[69,120,112,105,114,101,115]⟩,T (wrap64 (now+8))⟩] else if d=4 then [⟨⟨#[65,103,101]⟩,⟨#[52]⟩⟩] else []
def rtagF(d:Int):List S41:=if d=1 then [⟨⟨#[69,84,97,103]⟩,⟨#[34,97,34]⟩⟩] else if d=2 then [⟨⟨#[69,84,97,103]⟩,⟨#[87,47,34,98,34]⟩⟩] else if d=3 then [⟨⟨#[67,111,110,110,101,99,116,105,111,110]⟩,⟨#[88,45,89]⟩⟩,⟨⟨#[88,45,89]⟩,⟨#[50]⟩⟩] else []
theorem rdateF_len(T:Int→ByteArray)(now d:Int):(rdateF T now d).length≤2:=by unfold rdateF;(repeat' split) <;> simp
theorem rtagF_len(d:Int):(rtagF d).length≤2:=by unfold rtagF;(repeat' split) <;> simp
def bareB(st:Int):Bool:=decide (st=204) || decide (st=304) || decide (st < 200)
theorem bare_is(st:Int):ambryref10_Bodiless.f st ⟨#[71,69,84]⟩=some (bareB st):=by
 unfold ambryref10_Bodiless.f bareB
 rw [if_neg (by decide +kernel)]
 by_cases h1:st=204
 ·rw [if_pos h1,decide_eq_true h1];rfl
 ·rw [if_neg h1,decide_eq_false h1]
  by_cases h2:st=304
  ·rw [if_pos h2,decide_eq_true h2];rfl
  ·rw [if_neg h2,decide_eq_false h2];rfl
def respF(T:Int→ByteArray)(now x0 x1 x2 x3 x4 x5:Int):Int × List S41 × List Int:=
 (statL.getD (x0 % 10).toNat 0,[]++optF ⟨#[67,97,99,104,101,45,67,111,110,116,114,111,108]⟩ (rsaysL.getD (x1 % 12).toNat ⟨#[]⟩)++optF ⟨#[86,97,114,121]⟩ (rvaryL.getD (x2 % 6).toNat ⟨#[]⟩)++rdateF T now (x3 % 6)++rtagF (x4 % 4),if bareB (statL.getD (x0 % 10).toNat 0)=true then [] else abcL.take (x5 % 27).toNat)
set_option maxRecDepth 100000 in
set_option maxHeartbeats 8000000 in
theorem seatR_calls(T:Int→ByteArray)(x0 x1 x2 x3 x4 x5 now:Int)(w:World)(h0:0≤x0∧x0≤255)(h1:0≤x1∧x1≤255)(h2:0≤x2∧x2≤255)(h3:0≤x3∧x3≤255)(h4:0≤x4∧x4≤255)(h5:0≤x5∧x5≤255)
  (hT:∀ t,t=now∨t=wrap64 (now - 3)∨t=wrap64 (now - 100)∨t=wrap64 (now+8)→∀ W,Calls Tryz.prog 16 #[.int .i64 t] W fun e w'=>e=.returned (.string (T t))∧Below W.heap.size W w') :
  Calls Tryz.prog 8 #[.agg #[.int .u8 x0,.int .u8 x1,.int .u8 x2,.int .u8 x3,.int .u8 x4,.int .u8 x5],.int .i64 now] w fun e w'=>∃ A c A3 c3,e=.returned (.agg #[.int .i64 (respF T now x0 x1 x2 x3 x4 x5).1,.string ⟨#[82]⟩,.slice A (respF T now x0 x1 x2 x3 x4 x5).2.1.length c,.slice A3 (respF T now x0 x1 x2 x3 x4 x5).2.2.length c3])∧(∀ W':World,(∀ k,w.heap.size≤k→k < w'.heap.size→W'.heap[k]?=w'.heap[k]?)→Kd.C k41 W' A (respF T now x0 x1 x2 x3 x4 x5).2.1.length (respF T now x0 x1 x2 x3 x4 x5).2.1∧Kd.C (Kd.int .u8) W' A3 (respF T now x0 x1 x2 x3 x4 x5).2.2.length (respF T now x0 x1 x2 x3 x4 x5).2.2)∧(respF T now x0 x1 x2 x3 x4 x5).2.1.length≤c∧(respF T now x0 x1 x2 x3 x4 x5).2.2.length≤c3∧Below w.heap.size w w':=by
 have HT1:=mkA (hT _ (.inl rfl))
 have HT2:=mkA (hT _ (.inr (.inl rfl)))
 have HT3:=mkA (hT _ (.inr (.inr (.inl rfl))))
 have HT4:=mkA (hT _ (.inr (.inr (.inr rfl))))
 clear hT
 go_enter Tryz.func8,Tryz.ntmps8
 go_upto_region 1 with (fail)
 refine name_world (fun W=>((W.heap[w.heap.size]?=some (.cells #[.int .u8 x0,.int .u8 x1,.int .u8 x2,.int .u8 x3,.int .u8 x4,.int .u8 x5] 31 (0,0))∧W.heap[w.heap.size+1]?=some (.cells #[.int .i64 0,.string ⟨#[]⟩,.slice none 0 0,.slice none 0 0] 27 (0,0)))∧Below w.heap.size w W)∧W.heap.size=w.heap.size+2) ⟨⟨⟨blk_al (heap_alloc_new w _),new2 _ _ _⟩,(((Below.refl w.heap.size w).alloc (Nat.le_refl _) _).alloc (by simp) _)⟩,by simp⟩ ?_
 rintro W1 ⟨HI,hS⟩
 have HS:=mkA hS
 replace HI:=mkA HI
 clear hS
 have hb0:=tm x0 10 h0.1 (by decide)
 have hs:(W1.alloc (Obj.cells #[Value.int IntKind.i64 200,Value.int IntKind.i64 200,Value.int IntKind.i64 200,Value.int IntKind.i64 200,Value.int IntKind.i64 304,Value.int IntKind.i64 404,Value.int IntKind.i64 500,Value.int IntKind.i64 204,Value.int IntKind.i64 301,Value.int IntKind.i64 206] 3)).cell? ⟨W1.heap.size,(x0 % 10).toNat,none⟩=some ((statL.map (Value.int .i64)).getD (x0 % 10).toNat (.int .i64 0)):=lit_cell W1 (statL.map (Value.int .i64)) 3 (x0 % 10) (.int .i64 0) (hb0).1 (hb0).2
 have hA:(W1.alloc (Obj.cells #[Value.int IntKind.i64 200,Value.int IntKind.i64 200,Value.int IntKind.i64 200,Value.int IntKind.i64 200,Value.int IntKind.i64 304,Value.int IntKind.i64 404,Value.int IntKind.i64 500,Value.int IntKind.i64 204,Value.int IntKind.i64 301,Value.int IntKind.i64 206] 3)).cell? ⟨w.heap.size,0,none⟩=some (.int .u8 x0):=blk_cell (blk_al HI.out.1.1) 0
 rw [getD_map] at hs
 obtain ⟨st,hx⟩:∃ q,q=statL.getD (x0 % 10).toNat 0:=⟨_,rfl⟩
 rw [← hx] at hs
 have HST:=mkA hx
 clear hx
 clear hb0
 go_upto_region 2 with (fail)
 clear hs hA
 have hG:w.heap.size≤W1.heap.size+1∧w.heap.size≠W1.heap.size+1∧w.heap.size+1≠W1.heap.size+1:=by rw [HS.out];omega
 obtain ⟨L0,hL0⟩:∃ L,L=([]:List S41):=⟨_,rfl⟩
 have HL0:=mkA hL0
 have HN:=mkA (show L0.length≤0 from by rw [hL0];decide)
 refine name_world (fun W=>∃ gR,gR=W1.heap.size+1∧SI w w.heap.size (w.heap.size+1) gR 31 27 #[.int .u8 x0,.int .u8 x1,.int .u8 x2,.int .u8 x3,.int .u8 x4,.int .u8 x5] #[.int .i64 0,.string ⟨#[]⟩,.slice none 0 0,.slice none 0 0] (.int .i64 st) (.string ⟨#[82]⟩) L0 (.slice none 0 0) W) ⟨_,rfl,⟨(HI.out.2.alloc (by rw [HS.out];omega) _).alloc (by simp;have:=HS.out;omega) _,blk_al (blk_al HI.out.1.1),blk_al (blk_al HI.out.1.2),new2 _ _ _,by rw [hL0];exact Kd.R_nil _ _ _ _ _,by rw [hL0];decide⟩⟩ ?_
 rintro W0 ⟨gR,hgR,hI⟩
 rw [← hgR] at hG
 rw [← hgR]
 have HG:=mkA hG
 replace HI:=mkA hI
 clear hI hgR HS hG hL0
 have hb0:=tm x1 12 h1.1 (by decide)
 have hs:(W0.alloc (Obj.cells #[Value.string { data:=#[109,97,120,45,97,103,101,61,49,48] },Value.string { data:=#[109,97,120,45,97,103,101,61,49,48] },Value.string { data:=#[109,97,120,45,97,103,101,61,51,48] },Value.string { data:=#[] },Value.string { data:=#[110,111,45,115,116,111,114,101] },Value.string { data:=#[112,114,105,118,97,116,101] },Value.string { data:=#[110,111,45,99,97,99,104,101] },Value.string { data:=#[112,117,98,108,105,99] },Value.string { data:=#[115,45,109,97,120,97,103,101,61,55] },Value.string { data:=#[109,97,120,45,97,103,101,61,49,48,44,32,109,117,115,116,45,114,101,118,97,108,105,100,97,116,101] },Value.string { data:=#[109,97,120,45,97,103,101,61,48] },Value.string { data:=#[109,97,120,45,97,103,101,61,49,48,44,32,112,117,98,108,105,99] }] 9)).cell? ⟨W0.heap.size,(x1 % 12).toNat,none⟩=some ((rsaysL.map (Value.string)).getD (x1 % 12).toNat (.string ⟨#[]⟩)):=lit_cell W0 (rsaysL.map (Value.string)) 9 (x1 % 12) (.string ⟨#[]⟩) (hb0).1 (hb0).2
 have hA:(W0.alloc (Obj.cells #[Value.string { data:=#[109,97,120,45,97,103,101,61,49,48] },Value.string { data:=#[109,97,120,45,97,103,101,61,49,48] },Value.string { data:=#[109,97,120,45,97,103,101,61,51,48] },Value.string { data:=#[] },Value.string { data:=#[110,111,45,115,116,111,114,101] },Value.string { data:=#[112,114,105,118,97,116,101] },Value.string { data:=#[110,111,45,99,97,99,104,101] },Value.string { data:=#[112,117,98,108,105,99] },Value.string { data:=#[115,45,109,97,120,97,103,101,61,55] },Value.string { data:=#[109,97,120,45,97,103,101,61,49,48,44,32,109,117,115,116,45,114,101,118,97,108,105,100,97,116,101] },Value.string { data:=#[109,97,120,45,97,103,101,61,48] },Value.string { data:=#[109,97,120,45,97,103,101,61,49,48,44,32,112,117,98,108,105,99] }] 9)).cell? ⟨w.heap.size,1,none⟩=some (.int .u8 x1):=blk_cell (blk_al HI.out.ha) 1
 rw [getD_map] at hs
 obtain ⟨sy,hx⟩:∃ q,q=rsaysL.getD (x1 % 12).toNat ⟨#[]⟩:=⟨_,rfl⟩
 rw [← hx] at hs
 have HSY:=mkA hx
 clear hx
 clear hb0
 go_upto_if 22 with (fail)
 clear hs hA
 refine name_world (fun W=>SI w w.heap.size (w.heap.size+1) gR 31 27 #[.int .u8 x0,.int .u8 x1,.int .u8 x2,.int .u8 x3,.int .u8 x4,.int .u8 x5] #[.int .i64 0,.string ⟨#[]⟩,.slice none 0 0,.slice none 0 0] (.int .i64 st) (.string ⟨#[82]⟩) L0 (.slice none 0 0) W) (HI.out.al _) ?_
 clear HI
 intro W2 hI
 replace HI:=mkA hI
 clear hI
 go_cut [] (fun wc=>Aside0 (∃ v,SI w w.heap.size (w.heap.size+1) gR 31 27 #[.int .u8 x0,.int .u8 x1,.int .u8 x2,.int .u8 x3,.int .u8 x4,.int .u8 x5] #[.int .i64 0,.string ⟨#[]⟩,.slice none 0 0,.slice none 0 0] (.int .i64 st) (.string ⟨#[82]⟩) (L0++optF ⟨#[67,97,99,104,101,45,67,111,110,116,114,111,108]⟩ sy) v wc))
 case first=>
  cases he:sy.toList.isEmpty with
  |true=>
   go_wp2
   go_meet
   case rel=>exact ⟨_,by rw [show optF ⟨#[67,97,99,104,101,45,67,111,110,116,114,111,108]⟩ sy=[] from if_pos he,List.append_nil];exact HI.out⟩
  |false=>
   have hc:=(blk_cell HI.out.hr 2).trans rfl
   go_wp2_with (first|((with_reducible refine gate_dst (N:=27) rfl ?_);refine Kd.R_lit k41 (w0:=w) w.heap.size 41 ?hg (N:=27) ?hd (xs:=[⟨⟨#[67,97,99,104,101,45,67,111,110,116,114,111,108]⟩,sy⟩]) (inner:=[.string ⟨#[67,97,99,104,101,45,67,111,110,116,114,111,108]⟩,.string sy]) (ok:=fun _=>True) (okp:=fun _=>True) ?hr ?hp (fun _ hk=>hk) trivial HI.out.bel HI.out.bel.size (by simp) ?_;(case hd=>rfl);(case hg=>rfl);(case hr=>first|(go_simp;done)|(go_simp;rfl));(case hp=>exact Reps.c2 (k41_mkM _ _ _ ⟨⟨#[67,97,99,104,101,45,67,111,110,116,114,111,108]⟩,sy⟩) (Reps.none _ _));intro v9 w9 ho hb hg hat;have HO9:=mkA ho;have HI9:=mkA (HI.out.grown hb hg);have hc9:=(blk_cell HI9.out.hr 2).trans rfl;obtain ⟨A9,c9,rfl⟩:=Kd.R_slice ho;clear ho hb hg hat)|(at_builtin;(with_reducible refine gate_builtin (b:=.append) (xs:=#[.tmp 24,.tmp 27]) rfl ?_);refine Kd.R_append_rows k41 (w0:=w) w.heap.size rfl (.tmp 24) (.tmp 27) 22 41 (.agg #[.string ⟨#[]⟩,.string ⟨#[]⟩]) 32 rfl Tryz.underlying22 info41 rfl (by decide) (by decide) (.slice none 0 0) L0 [⟨⟨#[67,97,99,104,101,45,67,111,110,116,114,111,108]⟩,sy⟩] A9 _ c9 (fun _=>True) (fun _=>False) rfl rfl HI9.out.ho (Kd.R_reads' HO9.out).2.2 (fun x cs h=>by obtain rfl:=k41_open h;exact k41_mkM _ _ _ _) (fun _ h=>h.elim) (fun _ _=>trivial) HI9.out.bel HI9.out.bel.size (hl_ HI.out.hn (by simp)) ?_;intro v10 w10 ho hb hg hat;have HX:=mkA (HI9.out.put (by decide) (by decide) HG.out ho hb hg (hn_ HN.out (by simp)));have hr10:=HI9.out.hr1 (by decide) hg;have hc10:=(blk_cell hr10 2).trans rfl;have hf10:=blk_frozen hr10 2;obtain ⟨A10,n10,c10,rfl⟩:=R_sliceN ho;clear hr10 ho hb hg hat)|fail)
   go_meet
   case rel=>exact ⟨_,by rw [show optF ⟨#[67,97,99,104,101,45,67,111,110,116,114,111,108]⟩ sy=[⟨⟨#[67,97,99,104,101,45,67,111,110,116,114,111,108]⟩,sy⟩] from if_neg (by rw [he];decide)];exact HX.out⟩
 case rest=>
  obtain ⟨v,hI⟩:=hcut.out
  clear hcut HI
  obtain ⟨L1,hL⟩:∃ L,L=L0++optF ⟨#[67,97,99,104,101,45,67,111,110,116,114,111,108]⟩ sy:=⟨_,rfl⟩
  rw [← hL] at hI
  replace HN:=mkA (show L1.length≤1 from by rw [hL,List.length_append];have h1:=HN.out;have h2:=optF_len ⟨#[67,97,99,104,101,45,67,111,110,116,114,111,108]⟩ sy;omega)
  have HL1:=mkA hL
  obtain ⟨A,n,c,rfl⟩:=R_sliceN hI.ho
  have HI:=mkA hI
  clear hI hL
  have hb0:=tm x2 6 h2.1 (by decide)
  have hs:(wc.alloc (Obj.cells #[Value.string { data:=#[] },Value.string { data:=#[] },Value.string { data:=#[] },Value.string { data:=#[65,99,99,101,112,116] },Value.string { data:=#[97,99,99,101,112,116,44,32,108,97,110,103] },Value.string { data:=#[42] }] 9)).cell? ⟨wc.heap.size,(x2 % 6).toNat,none⟩=some ((rvaryL.map (Value.string)).getD (x2 % 6).toNat (.string ⟨#[]⟩)):=lit_cell wc (rvaryL.map (Value.string)) 9 (x2 % 6) (.string ⟨#[]⟩) (hb0).1 (hb0).2
  have hA:(wc.alloc (Obj.cells #[Value.string { data:=#[] },Value.string { data:=#[] },Value.string { data:=#[] },Value.string { data:=#[65,99,99,101,112,116] },Value.string { data:=#[97,99,99,101,112,116,44,32,108,97,110,103] },Value.string { data:=#[42] }] 9)).cell? ⟨w.heap.size,2,none⟩=some (.int .u8 x2):=blk_cell (blk_al HI.out.ha) 2
  rw [getD_map] at hs
  obtain ⟨vy,hx⟩:∃ q,q=rvaryL.getD (x2 % 6).toNat ⟨#[]⟩:=⟨_,rfl⟩
  rw [← hx] at hs
  have HVY:=mkA hx
  clear hx
  clear hb0
  go_upto_if 37 with (fail)
  clear hs hA
  refine name_world (fun W=>SI w w.heap.size (w.heap.size+1) gR 31 27 #[.int .u8 x0,.int .u8 x1,.int .u8 x2,.int .u8 x3,.int .u8 x4,.int .u8 x5] #[.int .i64 0,.string ⟨#[]⟩,.slice none 0 0,.slice none 0 0] (.int .i64 st) (.string ⟨#[82]⟩) L1 (.slice A n c) W) (HI.out.al _) ?_
  clear HI
  intro W2 hI
  replace HI:=mkA hI
  clear hI
  go_cut [] (fun wc=>Aside0 (∃ v,SI w w.heap.size (w.heap.size+1) gR 31 27 #[.int .u8 x0,.int .u8 x1,.int .u8 x2,.int .u8 x3,.int .u8 x4,.int .u8 x5] #[.int .i64 0,.string ⟨#[]⟩,.slice none 0 0,.slice none 0 0] (.int .i64 st) (.string ⟨#[82]⟩) (L1++optF ⟨#[86,97,114,121]⟩ vy) v wc))
  case first=>
   cases he:vy.toList.isEmpty with
   |true=>
    go_wp2
    go_meet
    case rel=>exact ⟨_,by rw [show optF ⟨#[86,97,114,121]⟩ vy=[] from if_pos he,List.append_nil];exact HI.out⟩
   |false=>
    have hc:=(blk_cell HI.out.hr 2).trans rfl
    go_wp2_with (first|((with_reducible refine gate_dst (N:=42) rfl ?_);refine Kd.R_lit k41 (w0:=w) w.heap.size 41 ?hg (N:=42) ?hd (xs:=[⟨⟨#[86,97,114,121]⟩,vy⟩]) (inner:=[.string ⟨#[86,97,114,121]⟩,.string vy]) (ok:=fun _=>True) (okp:=fun _=>True) ?hr ?hp (fun _ hk=>hk) trivial HI.out.bel HI.out.bel.size (by simp) ?_;(case hd=>rfl);(case hg=>rfl);(case hr=>first|(go_simp;done)|(go_simp;rfl));(case hp=>exact Reps.c2 (k41_mkM _ _ _ ⟨⟨#[86,97,114,121]⟩,vy⟩) (Reps.none _ _));intro v9 w9 ho hb hg hat;have HO9:=mkA ho;have HI9:=mkA (HI.out.grown hb hg);have hc9:=(blk_cell HI9.out.hr 2).trans rfl;obtain ⟨A9,c9,rfl⟩:=Kd.R_slice ho;clear ho hb hg hat)|(at_builtin;(with_reducible refine gate_builtin (b:=.append) (xs:=#[.tmp 39,.tmp 42]) rfl ?_);refine Kd.R_append_rows k41 (w0:=w) w.heap.size rfl (.tmp 39) (.tmp 42) 22 41 (.agg #[.string ⟨#[]⟩,.string ⟨#[]⟩]) 32 rfl Tryz.underlying22 info41 rfl (by decide) (by decide) (.slice A n c) L1 [⟨⟨#[86,97,114,121]⟩,vy⟩] A9 _ c9 (fun _=>True) (fun _=>False) rfl rfl HI9.out.ho (Kd.R_reads' HO9.out).2.2 (fun x cs h=>by obtain rfl:=k41_open h;exact k41_mkM _ _ _ _) (fun _ h=>h.elim) (fun _ _=>trivial) HI9.out.bel HI9.out.bel.size (hl_ HI.out.hn (by simp)) ?_;intro v10 w10 ho hb hg hat;have HX:=mkA (HI9.out.put (by decide) (by decide) HG.out ho hb hg (hn_ HN.out (by simp)));have hr10:=HI9.out.hr1 (by decide) hg;have hc10:=(blk_cell hr10 2).trans rfl;have hf10:=blk_frozen hr10 2;obtain ⟨A10,n10,c10,rfl⟩:=R_sliceN ho;clear hr10 ho hb hg hat)|fail)
    go_meet
    case rel=>exact ⟨_,by rw [show optF ⟨#[86,97,114,121]⟩ vy=[⟨⟨#[86,97,114,121]⟩,vy⟩] from if_neg (by rw [he];decide)];exact HX.out⟩
  case rest=>
   obtain ⟨v,hI⟩:=hcut.out
   clear hcut HI
   obtain ⟨L2,hL⟩:∃ L,L=L1++optF ⟨#[86,97,114,121]⟩ vy:=⟨_,rfl⟩
   rw [← hL] at hI
   replace HN:=mkA (show L2.length≤2 from by rw [hL,List.length_append];have h1:=HN.out;have h2:=optF_len ⟨#[86,97,114,121]⟩ vy;omega)
   have HL2:=mkA hL
   obtain ⟨A,n,c,rfl⟩:=R_sliceN hI.ho
   have HI:=mkA hI
   clear hI hL
   have hA:wc.cell? ⟨w.heap.size,3,none⟩=some (.int .u8 x3):=blk_cell HI.out.ha 3
   go_upto_block 0 with (fail)
   clear hA
   obtain ⟨t0,t1⟩:=tm x3 6 h3.1 (by decide)
   go_cut [] (fun wc=>Aside0 (∃ v,SI w w.heap.size (w.heap.size+1) gR 31 27 #[.int .u8 x0,.int .u8 x1,.int .u8 x2,.int .u8 x3,.int .u8 x4,.int .u8 x5] #[.int .i64 0,.string ⟨#[]⟩,.slice none 0 0,.slice none 0 0] (.int .i64 st) (.string ⟨#[82]⟩) (L2++rdateF T now (x3 % 6)) v wc))
   case first=>
    have hd:x3 % 6=0∨x3 % 6=1∨x3 % 6=2∨x3 % 6=3∨x3 % 6=4∨x3 % 6=5:=by omega
    clear t0 t1
    rcases hd with hd|hd|hd|hd|hd|hd
    ·have e0:(x3 % 6 == 0)=true:=(by rw [hd];try rfl);have e1:(x3 % 6 == 1)=false:=(by rw [hd];try rfl);have e2:(x3 % 6 == 2)=false:=(by rw [hd];try rfl);have e3:(x3 % 6 == 3)=false:=(by rw [hd];try rfl);have e4:(x3 % 6 == 4)=false:=(by rw [hd];try rfl)
     have HD:=mkA hd
     clear hd
     have hc:=(blk_cell HI.out.hr 2).trans rfl
     go_upto_region 11 with (fail)
     refine name_world (fun W=>SI w w.heap.size (w.heap.size+1) gR 31 27 #[.int .u8 x0,.int .u8 x1,.int .u8 x2,.int .u8 x3,.int .u8 x4,.int .u8 x5] #[.int .i64 0,.string ⟨#[]⟩,.slice none 0 0,.slice none 0 0] (.int .i64 st) (.string ⟨#[82]⟩) L2 (.slice A n c) W) HI.out ?_
     clear HI hc
     intro w7 hI
     obtain ⟨w7d,hw7,HI⟩:∃ w9,w9=w7.drew∧Aside0 (SI w w.heap.size (w.heap.size+1) gR 31 27 #[.int .u8 x0,.int .u8 x1,.int .u8 x2,.int .u8 x3,.int .u8 x4,.int .u8 x5] #[.int .i64 0,.string ⟨#[]⟩,.slice none 0 0,.slice none 0 0] (.int .i64 st) (.string ⟨#[82]⟩) L2 (.slice A n c) w9):=⟨_,rfl,⟨hI.below (pw_below_drewN (Below.refl _ _) 1)⟩⟩
     clear hI
     refine start_ (n:=9) (S:=fun w'=>w'.cell? ⟨gR,2,none⟩=some (.slice A n c)) (ds:=[8]) #[qf,qf,qf,qf,qf,qf,qf,qf,qf] (by kernel_rfl) rfl rfl ((by rw [← hw7];exact (blk_cell HI.out.hr 2).trans rfl)) (fun hHeld=>?_)
     rw [← hw7] at hHeld ⊢
     clear hw7
     refine pure_ (i:=0) (N:=some 51) (v:=?_) (a':=?_) #[qt,qf,qf,qf,qf,qf,qf,qf,qf] rfl rfl (by kernel_rfl) (fun _ _ _ h=>h) (Or.inl ⟨by rfl,?_⟩) ?_ ?_
     rotate_left
     ·intro w'
      go_simp
      with_reducible rfl
     rotate_left
     ·simp only [Act.put,sAx,sBx,sCx,i64_w,i32_w]
      rfl
     refine pure_ (i:=2) (N:=some 53) (v:=?_) (a':=?_) #[qt,qf,qt,qf,qf,qf,qf,qf,qf] rfl rfl (by kernel_rfl) (fun _ _ _ h=>h) (Or.inl ⟨by rfl,?_⟩) ?_ ?_
     rotate_left
     ·intro w'
      go_simp
      with_reducible rfl
     rotate_left
     ·simp only [Act.put,sAx,sBx,sCx,i64_w,i32_w]
      rfl
     refine take_ (i:=1) (N:=some 52) (v:=?_) (a':=?_) #[qt,qt,qt,qf,qf,qf,qf,qf,qf] rfl rfl (by kernel_rfl) (fun _ _ _ h=>h) (Or.inl ⟨by rfl,?_⟩) hHeld ?_ ?_
     rotate_left
     ·intro w' s0
      go_simp
      with_reducible rfl
     rotate_left
     ·simp only [Act.put,sAx,sBx,sCx,i64_w,i32_w]
      rfl
     refine one_ (i:=3) (N:=some 54) #[qt,qt,qt,qt,qf,qf,qf,qf,qf] rfl rfl (by kernel_rfl) (by decide) (fun K hK=>?_)
     refine goes_ Tryz.func16 (by kernel_rfl) rfl #[.int .i64 now] (by rfl) rfl rfl (by simp only [List.map_toArray,List.map_cons,List.map_nil];rfl) ?_
     with_reducible refine (HT1.out _).mono ?_
     rintro e w7 ⟨rfl,hb⟩
     refine ⟨_,rfl,?_⟩
     have HI:=mkA (HI.out.below hb)
     clear hb
     refine hK.out _ _ ((blk_cell HI.out.hr 2).trans rfl) (fun hHeld=>?_)
     clear hK K
     refine norm_ (a':=?_) ?_ ?_
     rotate_left
     ·show Act.put _ (some 54) _=_
      simp only [Act.put,sAx,sBx,sCx,i64_w,i32_w]
      rfl
     refine pure_ (i:=4) (N:=some 55) (v:=?_) (a':=?_) #[qt,qt,qt,qt,qt,qf,qf,qf,qf] rfl rfl (by kernel_rfl) (fun _ _ _ h=>h) (Or.inl ⟨by rfl,?_⟩) ?_ ?_
     rotate_left
     ·intro w'
      go_simp
      with_reducible rfl
     rotate_left
     ·simp only [Act.put,sAx,sBx,sCx,i64_w,i32_w]
      rfl
     refine one_ (i:=5) (N:=some 56) #[qt,qt,qt,qt,qt,qt,qf,qf,qf] rfl rfl (by kernel_rfl) (by decide) (fun K hK=>?_)
     refine value_ (w1:=?_) (v:=?_) (by rfl) rfl ?_ ?_
     rotate_left 2
     ·go_simp
      constructor
      ·rfl
      ·rfl
     refine name_K (fun W=>SI w w.heap.size (w.heap.size+1) gR 31 27 #[.int .u8 x0,.int .u8 x1,.int .u8 x2,.int .u8 x3,.int .u8 x4,.int .u8 x5] #[.int .i64 0,.string ⟨#[]⟩,.slice none 0 0,.slice none 0 0] (.int .i64 st) (.string ⟨#[82]⟩) L2 (.slice A n c) W∧Kd.C k41 W (some ⟨w7.heap.size,0,none⟩) 1 [⟨⟨#[68,97,116,101]⟩,(T now)⟩]) ⟨HI.out.al _,one_field (heap_alloc_new _ _)⟩ ?_
     rintro w9 ⟨h1,h2⟩
     have HI:=mkA h1
     have HL9:=mkA h2
     clear h1 h2
     refine hK.out _ _ ((blk_cell HI.out.hr 2).trans rfl) (fun hHeld=>?_)
     clear hK K
     refine norm_ (a':=?_) ?_ ?_
     rotate_left
     ·show Act.put _ (some 56) _=_
      simp only [Act.put,sAx,sBx,sCx,i64_w,i32_w]
      rfl
     refine one_ (i:=6) (N:=some 57) #[qt,qt,qt,qt,qt,qt,qt,qf,qf] rfl rfl (by kernel_rfl) (by decide) (fun K hK=>?_)
     refine rows_step k41 (w0:=w) w.heap.size (by rfl) (.tmp 52) (.tmp 56) 22 41 (.agg #[.string ⟨#[]⟩,.string ⟨#[]⟩]) 32 rfl Tryz.underlying22 info41 rfl (by decide) (by decide) (.slice A n c) L2 [⟨⟨#[68,97,116,101]⟩,(T now)⟩] (some ⟨w7.heap.size,0,none⟩) _ _ (fun _=>True) (fun _=>False) rfl rfl HI.out.ho HL9.out (fun x cs h=>by obtain rfl:=k41_open h;exact k41_mkM _ _ _ _) (fun _ h=>h.elim) (fun _ _=>trivial) HI.out.bel HI.out.bel.size (hl_ HI.out.hn (by first|decide|simp)) ?_
     intro v10 w10 ho hb hg hat
     have HX:=mkA (HI.out.put (by decide) (by decide) HG.out ho hb hg (hn_ HN.out (by simp)))
     have HX0:=mkA (HI.out.ha1 (by decide) hg)
     have hr10:=HI.out.hr1 (by decide) hg
     have hc10:=(blk_cell hr10 2).trans rfl
     have hf10:=blk_frozen hr10 2
     obtain ⟨A10,n10,c10,rfl⟩:=R_sliceN ho
     clear ho hb hg hat hr10
     refine hK.out _ _ (hc10) (fun hHeld=>?_)
     clear hK K
     refine norm_ (a':=?_) ?_ ?_
     rotate_left
     ·show Act.put _ (some 57) _=_
      simp only [Act.put,sAx,sBx,sCx,i64_w,i32_w]
      rfl
     refine pure_ (i:=7) (N:=some 58) (v:=?_) (a':=?_) #[qt,qt,qt,qt,qt,qt,qt,qt,qf] rfl rfl (by kernel_rfl) (fun _ _ _ h=>h) (Or.inl ⟨by rfl,?_⟩) ?_ ?_
     rotate_left
     ·intro w'
      go_simp
      with_reducible rfl
     rotate_left
     ·simp only [Act.put,sAx,sBx,sCx,i64_w,i32_w]
      rfl
     refine last_ (i:=8) (N:=none) #[qt,qt,qt,qt,qt,qt,qt,qt,qt] rfl rfl (by kernel_rfl) (by decide) (fun K hK=>?_)
     refine skip_ (w1:=?_) (by rfl) rfl ?_ ?_
     rotate_left
     ·go_simp
      rfl
     refine hK.out _ _ ?_
     clear hK K
     refine done_ (by kernel_rfl) ?_
     go_wp2
     go_meet
     case rel=>exact ⟨_,by rw [show rdateF T now (x3 % 6)=[⟨⟨#[68,97,116,101]⟩,(T now)⟩] from by rw [HD.out];rfl];exact HX.out⟩
    ·have e0:(x3 % 6 == 0)=false:=(by rw [hd];try rfl);have e1:(x3 % 6 == 1)=true:=(by rw [hd];try rfl);have e2:(x3 % 6 == 2)=false:=(by rw [hd];try rfl);have e3:(x3 % 6 == 3)=false:=(by rw [hd];try rfl);have e4:(x3 % 6 == 4)=false:=(by rw [hd];try rfl)
     have HD:=mkA hd
     clear hd
     have hc:=(blk_cell HI.out.hr 2).trans rfl
     go_upto_region 11 with (fail)
     refine name_world (fun W=>SI w w.heap.size (w.heap.size+1) gR 31 27 #[.int .u8 x0,.int .u8 x1,.int .u8 x2,.int .u8 x3,.int .u8 x4,.int .u8 x5] #[.int .i64 0,.string ⟨#[]⟩,.slice none 0 0,.slice none 0 0] (.int .i64 st) (.string ⟨#[82]⟩) L2 (.slice A n c) W) HI.out ?_
     clear HI hc
     intro w7 hI
     obtain ⟨w7d,hw7,HI⟩:∃ w9,w9=w7.drew∧Aside0 (SI w w.heap.size (w.heap.size+1) gR 31 27 #[.int .u8 x0,.int .u8 x1,.int .u8 x2,.int .u8 x3,.int .u8 x4,.int .u8 x5] #[.int .i64 0,.string ⟨#[]⟩,.slice none 0 0,.slice none 0 0] (.int .i64 st) (.string ⟨#[82]⟩) L2 (.slice A n c) w9):=⟨_,rfl,⟨hI.below (pw_below_drewN (Below.refl _ _) 1)⟩⟩
     clear hI
     refine start_ (n:=9) (S:=fun w'=>w'.cell? ⟨gR,2,none⟩=some (.slice A n c)) (ds:=[8]) #[qf,qf,qf,qf,qf,qf,qf,qf,qf] (by kernel_rfl) rfl rfl ((by rw [← hw7];exact (blk_cell HI.out.hr 2).trans rfl)) (fun hHeld=>?_)
     rw [← hw7] at hHeld ⊢
     clear hw7
     refine pure_ (i:=0) (N:=some 51) (v:=?_) (a':=?_) #[qt,qf,qf,qf,qf,qf,qf,qf,qf] rfl rfl (by kernel_rfl) (fun _ _ _ h=>h) (Or.inl ⟨by rfl,?_⟩) ?_ ?_
     rotate_left
     ·intro w'
      go_simp
      with_reducible rfl
     rotate_left
     ·simp only [Act.put,sAx,sBx,sCx,i64_w,i32_w]
      rfl
     refine pure_ (i:=2) (N:=some 53) (v:=?_) (a':=?_) #[qt,qf,qt,qf,qf,qf,qf,qf,qf] rfl rfl (by kernel_rfl) (fun _ _ _ h=>h) (Or.inl ⟨by rfl,?_⟩) ?_ ?_
     rotate_left
     ·intro w'
      go_simp
      with_reducible rfl
     rotate_left
     ·simp only [Act.put,sAx,sBx,sCx,i64_w,i32_w]
      rfl
     refine take_ (i:=1) (N:=some 52) (v:=?_) (a':=?_) #[qt,qt,qt,qf,qf,qf,qf,qf,qf] rfl rfl (by kernel_rfl) (fun _ _ _ h=>h) (Or.inl ⟨by rfl,?_⟩) hHeld ?_ ?_
     rotate_left
     ·intro w' s0
      go_simp
      with_reducible rfl
     rotate_left
     ·simp only [Act.put,sAx,sBx,sCx,i64_w,i32_w]
      rfl
     refine one_ (i:=3) (N:=some 54) #[qt,qt,qt,qt,qf,qf,qf,qf,qf] rfl rfl (by kernel_rfl) (by decide) (fun K hK=>?_)
     refine goes_ Tryz.func16 (by kernel_rfl) rfl #[.int .i64 now] (by rfl) rfl rfl (by simp only [List.map_toArray,List.map_cons,List.map_nil];rfl) ?_
     with_reducible refine (HT1.out _).mono ?_
     rintro e w7 ⟨rfl,hb⟩
     refine ⟨_,rfl,?_⟩
     have HI:=mkA (HI.out.below hb)
     clear hb
     refine hK.out _ _ ((blk_cell HI.out.hr 2).trans rfl) (fun hHeld=>?_)
     clear hK K
     refine norm_ (a':=?_) ?_ ?_
     rotate_left
     ·show Act.put _ (some 54) _=_
      simp only [Act.put,sAx,sBx,sCx,i64_w,i32_w]
      rfl
     refine pure_ (i:=4) (N:=some 55) (v:=?_) (a':=?_) #[qt,qt,qt,qt,qt,qf,qf,qf,qf] rfl rfl (by kernel_rfl) (fun _ _ _ h=>h) (Or.inl ⟨by rfl,?_⟩) ?_ ?_
     rotate_left
     ·intro w'
      go_simp
      with_reducible rfl
     rotate_left
     ·simp only [Act.put,sAx,sBx,sCx,i64_w,i32_w]
      rfl
     refine one_ (i:=5) (N:=some 56) #[qt,qt,qt,qt,qt,qt,qf,qf,qf] rfl rfl (by kernel_rfl) (by decide) (fun K hK=>?_)
     refine value_ (w1:=?_) (v:=?_) (by rfl) rfl ?_ ?_
     rotate_left 2
     ·go_simp
      constructor
      ·rfl
      ·rfl
     refine name_K (fun W=>SI w w.heap.size (w.heap.size+1) gR 31 27 #[.int .u8 x0,.int .u8 x1,.int .u8 x2,.int .u8 x3,.int .u8 x4,.int .u8 x5] #[.int .i64 0,.string ⟨#[]⟩,.slice none 0 0,.slice none 0 0] (.int .i64 st) (.string ⟨#[82]⟩) L2 (.slice A n c) W∧Kd.C k41 W (some ⟨w7.heap.size,0,none⟩) 1 [⟨⟨#[68,97,116,101]⟩,(T now)⟩]) ⟨HI.out.al _,one_field (heap_alloc_new _ _)⟩ ?_
     rintro w9 ⟨h1,h2⟩
     have HI:=mkA h1
     have HL9:=mkA h2
     clear h1 h2
     refine hK.out _ _ ((blk_cell HI.out.hr 2).trans rfl) (fun hHeld=>?_)
     clear hK K
     refine norm_ (a':=?_) ?_ ?_
     rotate_left
     ·show Act.put _ (some 56) _=_
      simp only [Act.put,sAx,sBx,sCx,i64_w,i32_w]
      rfl
     refine one_ (i:=6) (N:=some 57) #[qt,qt,qt,qt,qt,qt,qt,qf,qf] rfl rfl (by kernel_rfl) (by decide) (fun K hK=>?_)
     refine rows_step k41 (w0:=w) w.heap.size (by rfl) (.tmp 52) (.tmp 56) 22 41 (.agg #[.string ⟨#[]⟩,.string ⟨#[]⟩]) 32 rfl Tryz.underlying22 info41 rfl (by decide) (by decide) (.slice A n c) L2 [⟨⟨#[68,97,116,101]⟩,(T now)⟩] (some ⟨w7.heap.size,0,none⟩) _ _ (fun _=>True) (fun _=>False) rfl rfl HI.out.ho HL9.out (fun x cs h=>by obtain rfl:=k41_open h;exact k41_mkM _ _ _ _) (fun _ h=>h.elim) (fun _ _=>trivial) HI.out.bel HI.out.bel.size (hl_ HI.out.hn (by first|decide|simp)) ?_
     intro v10 w10 ho hb hg hat
     have HX:=mkA (HI.out.put (by decide) (by decide) HG.out ho hb hg (hn_ HN.out (by simp)))
     have HX0:=mkA (HI.out.ha1 (by decide) hg)
     have hr10:=HI.out.hr1 (by decide) hg
     have hc10:=(blk_cell hr10 2).trans rfl
     have hf10:=blk_frozen hr10 2
     obtain ⟨A10,n10,c10,rfl⟩:=R_sliceN ho
     clear ho hb hg hat hr10
     refine hK.out _ _ (hc10) (fun hHeld=>?_)
     clear hK K
     refine norm_ (a':=?_) ?_ ?_
     rotate_left
     ·show Act.put _ (some 57) _=_
      simp only [Act.put,sAx,sBx,sCx,i64_w,i32_w]
      rfl
     refine pure_ (i:=7) (N:=some 58) (v:=?_) (a':=?_) #[qt,qt,qt,qt,qt,qt,qt,qt,qf] rfl rfl (by kernel_rfl) (fun _ _ _ h=>h) (Or.inl ⟨by rfl,?_⟩) ?_ ?_
     rotate_left
     ·intro w'
      go_simp
      with_reducible rfl
     rotate_left
     ·simp only [Act.put,sAx,sBx,sCx,i64_w,i32_w]
      rfl
     refine last_ (i:=8) (N:=none) #[qt,qt,qt,qt,qt,qt,qt,qt,qt] rfl rfl (by kernel_rfl) (by decide) (fun K hK=>?_)
     refine skip_ (w1:=?_) (by rfl) rfl ?_ ?_
     rotate_left
     ·go_simp
      rfl
     refine hK.out _ _ ?_
     clear hK K
     refine done_ (by kernel_rfl) ?_
     go_wp2
     go_meet
     case rel=>exact ⟨_,by rw [show rdateF T now (x3 % 6)=[⟨⟨#[68,97,116,101]⟩,(T now)⟩] from by rw [HD.out];rfl];exact HX.out⟩
    ·have e0:(x3 % 6 == 0)=false:=(by rw [hd];try rfl);have e1:(x3 % 6 == 1)=false:=(by rw [hd];try rfl);have e2:(x3 % 6 == 2)=true:=(by rw [hd];try rfl);have e3:(x3 % 6 == 3)=false:=(by rw [hd];try rfl);have e4:(x3 % 6 == 4)=false:=(by rw [hd];try rfl)
     have HD:=mkA hd
     clear hd
     have hc:=(blk_cell HI.out.hr 2).trans rfl
     go_upto_region 13 with (fail)
     refine name_world (fun W=>SI w w.heap.size (w.heap.size+1) gR 31 27 #[.int .u8 x0,.int .u8 x1,.int .u8 x2,.int .u8 x3,.int .u8 x4,.int .u8 x5] #[.int .i64 0,.string ⟨#[]⟩,.slice none 0 0,.slice none 0 0] (.int .i64 st) (.string ⟨#[82]⟩) L2 (.slice A n c) W) HI.out ?_
     clear HI hc
     intro w7 hI
     obtain ⟨w7d,hw7,HI⟩:∃ w9,w9=w7.drew∧Aside0 (SI w w.heap.size (w.heap.size+1) gR 31 27 #[.int .u8 x0,.int .u8 x1,.int .u8 x2,.int .u8 x3,.int .u8 x4,.int .u8 x5] #[.int .i64 0,.string ⟨#[]⟩,.slice none 0 0,.slice none 0 0] (.int .i64 st) (.string ⟨#[82]⟩) L2 (.slice A n c) w9):=⟨_,rfl,⟨hI.below (pw_below_drewN (Below.refl _ _) 1)⟩⟩
     clear hI
     refine start_ (n:=14) (S:=fun w'=>w'.cell? ⟨gR,2,none⟩=some (.slice A n c)) (ds:=[13]) #[qf,qf,qf,qf,qf,qf,qf,qf,qf,qf,qf,qf,qf,qf] (by kernel_rfl) rfl rfl ((by rw [← hw7];exact (blk_cell HI.out.hr 2).trans rfl)) (fun hHeld=>?_)
     rw [← hw7] at hHeld ⊢
     clear hw7
     refine pure_ (i:=0) (N:=some 61) (v:=?_) (a':=?_) #[qt,qf,qf,qf,qf,qf,qf,qf,qf,qf,qf,qf,qf,qf] rfl rfl (by kernel_rfl) (fun _ _ _ h=>h) (Or.inl ⟨by rfl,?_⟩) ?_ ?_
     rotate_left
     ·intro w'
      go_simp
      with_reducible rfl
     rotate_left
     ·simp only [Act.put,sAx,sBx,sCx,i64_w,i32_w]
      rfl
     refine pure_ (i:=2) (N:=some 63) (v:=?_) (a':=?_) #[qt,qf,qt,qf,qf,qf,qf,qf,qf,qf,qf,qf,qf,qf] rfl rfl (by kernel_rfl) (fun _ _ _ h=>h) (Or.inl ⟨by rfl,?_⟩) ?_ ?_
     rotate_left
     ·intro w'
      go_simp
      with_reducible rfl
     rotate_left
     ·simp only [Act.put,sAx,sBx,sCx,i64_w,i32_w]
      rfl
     refine pure_ (i:=3) (N:=some 64) (v:=?_) (a':=?_) #[qt,qf,qt,qt,qf,qf,qf,qf,qf,qf,qf,qf,qf,qf] rfl rfl (by kernel_rfl) (fun _ _ _ h=>h) (Or.inl ⟨by rfl,?_⟩) ?_ ?_
     rotate_left
     ·intro w'
      go_simp
      with_reducible rfl
     rotate_left
     ·simp only [Act.put,sAx,sBx,sCx,i64_w,i32_w]
      rfl
     refine pure_ (i:=6) (N:=some 67) (v:=?_) (a':=?_) #[qt,qf,qt,qt,qf,qf,qt,qf,qf,qf,qf,qf,qf,qf] rfl rfl (by kernel_rfl) (fun _ _ _ h=>h) (Or.inl ⟨by rfl,?_⟩) ?_ ?_
     rotate_left
     ·intro w'
      go_simp
      with_reducible rfl
     rotate_left
     ·simp only [Act.put,sAx,sBx,sCx,i64_w,i32_w]
      rfl
     refine pure_ (i:=7) (N:=some 68) (v:=?_) (a':=?_) #[qt,qf,qt,qt,qf,qf,qt,qt,qf,qf,qf,qf,qf,qf] rfl rfl (by kernel_rfl) (fun _ _ _ h=>h) (Or.inl ⟨by rfl,?_⟩) ?_ ?_
     rotate_left
     ·intro w'
      go_simp
      with_reducible rfl
     rotate_left
     ·simp only [Act.put,sAx,sBx,sCx,i64_w,i32_w]
      rfl
     refine take_ (i:=1) (N:=some 62) (v:=?_) (a':=?_) #[qt,qt,qt,qt,qf,qf,qt,qt,qf,qf,qf,qf,qf,qf] rfl rfl (by kernel_rfl) (fun _ _ _ h=>h) (Or.inl ⟨by rfl,?_⟩) hHeld ?_ ?_
     rotate_left
     ·intro w' s0
      go_simp
      with_reducible rfl
     rotate_left
     ·simp only [Act.put,sAx,sBx,sCx,i64_w,i32_w]
      rfl
     refine one_ (i:=4) (N:=some 65) #[qt,qt,qt,qt,qt,qf,qt,qt,qf,qf,qf,qf,qf,qf] rfl rfl (by kernel_rfl) (by decide) (fun K hK=>?_)
     refine goes_ Tryz.func16 (by kernel_rfl) rfl #[.int .i64 (wrap64 (now - 3))] (by rfl) rfl rfl (by simp only [List.map_toArray,List.map_cons,List.map_nil];rfl) ?_
     with_reducible refine (HT2.out _).mono ?_
     rintro e w7 ⟨rfl,hb⟩
     refine ⟨_,rfl,?_⟩
     have HI:=mkA (HI.out.below hb)
     clear hb
     refine hK.out _ _ ((blk_cell HI.out.hr 2).trans rfl) (fun hHeld=>?_)
     clear hK K
     refine norm_ (a':=?_) ?_ ?_
     rotate_left
     ·show Act.put _ (some 65) _=_
      simp only [Act.put,sAx,sBx,sCx,i64_w,i32_w]
      rfl
     refine pure_ (i:=5) (N:=some 66) (v:=?_) (a':=?_) #[qt,qt,qt,qt,qt,qt,qt,qt,qf,qf,qf,qf,qf,qf] rfl rfl (by kernel_rfl) (fun _ _ _ h=>h) (Or.inl ⟨by rfl,?_⟩) ?_ ?_
     rotate_left
     ·intro w'
      go_simp
      with_reducible rfl
     rotate_left
     ·simp only [Act.put,sAx,sBx,sCx,i64_w,i32_w]
      rfl
     refine one_ (i:=8) (N:=some 69) #[qt,qt,qt,qt,qt,qt,qt,qt,qt,qf,qf,qf,qf,qf] rfl rfl (by kernel_rfl) (by decide) (fun K hK=>?_)
     refine goes_ Tryz.func16 (by kernel_rfl) rfl #[.int .i64 (wrap64 (now - 100))] (by rfl) rfl rfl (by simp only [List.map_toArray,List.map_cons,List.map_nil];rfl) ?_
     with_reducible refine (HT3.out _).mono ?_
     rintro e w7 ⟨rfl,hb⟩
     refine ⟨_,rfl,?_⟩
     have HI:=mkA (HI.out.below hb)
     clear hb
     refine hK.out _ _ ((blk_cell HI.out.hr 2).trans rfl) (fun hHeld=>?_)
     clear hK K
     refine norm_ (a':=?_) ?_ ?_
     rotate_left
     ·show Act.put _ (some 69) _=_
      simp only [Act.put,sAx,sBx,sCx,i64_w,i32_w]
      rfl
     refine pure_ (i:=9) (N:=some 70) (v:=?_) (a':=?_) #[qt,qt,qt,qt,qt,qt,qt,qt,qt,qt,qf,qf,qf,qf] rfl rfl (by kernel_rfl) (fun _ _ _ h=>h) (Or.inl ⟨by rfl,?_⟩) ?_ ?_
     rotate_left
     ·intro w'
      go_simp
      with_reducible rfl
     rotate_left
     ·simp only [Act.put,sAx,sBx,sCx,i64_w,i32_w]
      rfl
     refine one_ (i:=10) (N:=some 71) #[qt,qt,qt,qt,qt,qt,qt,qt,qt,qt,qt,qf,qf,qf] rfl rfl (by kernel_rfl) (by decide) (fun K hK=>?_)
     refine value_ (w1:=?_) (v:=?_) (by rfl) rfl ?_ ?_
     rotate_left 2
     ·go_simp
      constructor
      ·rfl
      ·rfl
     refine name_K (fun W=>SI w w.heap.size (w.heap.size+1) gR 31 27 #[.int .u8 x0,.int .u8 x1,.int .u8 x2,.int .u8 x3,.int .u8 x4,.int .u8 x5] #[.int .i64 0,.string ⟨#[]⟩,.slice none 0 0,.slice none 0 0] (.int .i64 st) (.string ⟨#[82]⟩) L2 (.slice A n c) W∧Kd.C k41 W (some ⟨w7.heap.size,0,none⟩) 2 [⟨⟨#[68,97,116,101]⟩,(T (wrap64 (now - 3)))⟩,⟨⟨#[76,97,115,116,45,77,111,100,105,102,105,101,100]⟩,(T (wrap64 (now - 100)))⟩]) ⟨HI.out.al _,two_field (heap_alloc_new _ _)⟩ ?_
     rintro w9 ⟨h1,h2⟩
     have HI:=mkA h1
     have HL9:=mkA h2
     clear h1 h2
     refine hK.out _ _ ((blk_cell HI.out.hr 2).trans rfl) (fun hHeld=>?_)
     clear hK K
     refine norm_ (a':=?_) ?_ ?_
     rotate_left
     ·show Act.put _ (some 71) _=_
      simp only [Act.put,sAx,sBx,sCx,i64_w,i32_w]
      rfl
     refine one_ (i:=11) (N:=some 72) #[qt,qt,qt,qt,qt,qt,qt,qt,qt,qt,qt,qt,qf,qf] rfl rfl (by kernel_rfl) (by decide) (fun K hK=>?_)
     refine rows_step k41 (w0:=w) w.heap.size (by rfl) (.tmp 62) (.tmp 71) 22 41 (.agg #[.string ⟨#[]⟩,.string ⟨#[]⟩]) 32 rfl Tryz.underlying22 info41 rfl (by decide) (by decide) (.slice A n c) L2 [⟨⟨#[68,97,116,101]⟩,(T (wrap64 (now - 3)))⟩,⟨⟨#[76,97,115,116,45,77,111,100,105,102,105,101,100]⟩,(T (wrap64 (now - 100)))⟩] (some ⟨w7.heap.size,0,none⟩) _ _ (fun _=>True) (fun _=>False) rfl rfl HI.out.ho HL9.out (fun x cs h=>by obtain rfl:=k41_open h;exact k41_mkM _ _ _ _) (fun _ h=>h.elim) (fun _ _=>trivial) HI.out.bel HI.out.bel.size (hl_ HI.out.hn (by first|decide|simp)) ?_
     intro v10 w10 ho hb hg hat
     have HX:=mkA (HI.out.put (by decide) (by decide) HG.out ho hb hg (hn_ HN.out (by simp)))
     have HX0:=mkA (HI.out.ha1 (by decide) hg)
     have hr10:=HI.out.hr1 (by decide) hg
     have hc10:=(blk_cell hr10 2).trans rfl
     have hf10:=blk_frozen hr10 2
     obtain ⟨A10,n10,c10,rfl⟩:=R_sliceN ho
     clear ho hb hg hat hr10
     refine hK.out _ _ (hc10) (fun hHeld=>?_)
     clear hK K
     refine norm_ (a':=?_) ?_ ?_
     rotate_left
     ·show Act.put _ (some 72) _=_
      simp only [Act.put,sAx,sBx,sCx,i64_w,i32_w]
      rfl
     refine pure_ (i:=12) (N:=some 73) (v:=?_) (a':=?_) #[qt,qt,qt,qt,qt,qt,qt,qt,qt,qt,qt,qt,qt,qf] rfl rfl (by kernel_rfl) (fun _ _ _ h=>h) (Or.inl ⟨by rfl,?_⟩) ?_ ?_
     rotate_left
     ·intro w'
      go_simp
      with_reducible rfl
     rotate_left
     ·simp only [Act.put,sAx,sBx,sCx,i64_w,i32_w]
      rfl
     refine last_ (i:=13) (N:=none) #[qt,qt,qt,qt,qt,qt,qt,qt,qt,qt,qt,qt,qt,qt] rfl rfl (by kernel_rfl) (by decide) (fun K hK=>?_)
     refine skip_ (w1:=?_) (by rfl) rfl ?_ ?_
     rotate_left
     ·go_simp
      rfl
     refine hK.out _ _ ?_
     clear hK K
     refine done_ (by kernel_rfl) ?_
     go_wp2
     go_meet
     case rel=>exact ⟨_,by rw [show rdateF T now (x3 % 6)=[⟨⟨#[68,97,116,101]⟩,(T (wrap64 (now - 3)))⟩,⟨⟨#[76,97,115,116,45,77,111,100,105,102,105,101,100]⟩,(T (wrap64 (now - 100)))⟩] from by rw [HD.out];rfl];exact HX.out⟩
    ·have e0:(x3 % 6 == 0)=false:=(by rw [hd];try rfl);have e1:(x3 % 6 == 1)=false:=(by rw [hd];try rfl);have e2:(x3 % 6 == 2)=false:=(by rw [hd];try rfl);have e3:(x3 % 6 == 3)=true:=(by rw [hd];try rfl);have e4:(x3 % 6 == 4)=false:=(by rw [hd];try rfl)
     have HD:=mkA hd
     clear hd
     have hc:=(blk_cell HI.out.hr 2).trans rfl
     go_upto_region 15 with (fail)
     refine name_world (fun W=>SI w w.heap.size (w.heap.size+1) gR 31 27 #[.int .u8 x0,.int .u8 x1,.int .u8 x2,.int .u8 x3,.int .u8 x4,.int .u8 x5] #[.int .i64 0,.string ⟨#[]⟩,.slice none 0 0,.slice none 0 0] (.int .i64 st) (.string ⟨#[82]⟩) L2 (.slice A n c) W) HI.out ?_
     clear HI hc
     intro w7 hI
     obtain ⟨w7d,hw7,HI⟩:∃ w9,w9=w7.drew∧Aside0 (SI w w.heap.size (w.heap.size+1) gR 31 27 #[.int .u8 x0,.int .u8 x1,.int .u8 x2,.int .u8 x3,.int .u8 x4,.int .u8 x5] #[.int .i64 0,.string ⟨#[]⟩,.slice none 0 0,.slice none 0 0] (.int .i64 st) (.string ⟨#[82]⟩) L2 (.slice A n c) w9):=⟨_,rfl,⟨hI.below (pw_below_drewN (Below.refl _ _) 1)⟩⟩
     clear hI
     refine start_ (n:=13) (S:=fun w'=>w'.cell? ⟨gR,2,none⟩=some (.slice A n c)) (ds:=[12]) #[qf,qf,qf,qf,qf,qf,qf,qf,qf,qf,qf,qf,qf] (by kernel_rfl) rfl rfl ((by rw [← hw7];exact (blk_cell HI.out.hr 2).trans rfl)) (fun hHeld=>?_)
     rw [← hw7] at hHeld ⊢
     clear hw7
     refine pure_ (i:=0) (N:=some 76) (v:=?_) (a':=?_) #[qt,qf,qf,qf,qf,qf,qf,qf,qf,qf,qf,qf,qf] rfl rfl (by kernel_rfl) (fun _ _ _ h=>h) (Or.inl ⟨by rfl,?_⟩) ?_ ?_
     rotate_left
     ·intro w'
      go_simp
      with_reducible rfl
     rotate_left
     ·simp only [Act.put,sAx,sBx,sCx,i64_w,i32_w]
      rfl
     refine pure_ (i:=2) (N:=some 78) (v:=?_) (a':=?_) #[qt,qf,qt,qf,qf,qf,qf,qf,qf,qf,qf,qf,qf] rfl rfl (by kernel_rfl) (fun _ _ _ h=>h) (Or.inl ⟨by rfl,?_⟩) ?_ ?_
     rotate_left
     ·intro w'
      go_simp
      with_reducible rfl
     rotate_left
     ·simp only [Act.put,sAx,sBx,sCx,i64_w,i32_w]
      rfl
     refine pure_ (i:=5) (N:=some 81) (v:=?_) (a':=?_) #[qt,qf,qt,qf,qf,qt,qf,qf,qf,qf,qf,qf,qf] rfl rfl (by kernel_rfl) (fun _ _ _ h=>h) (Or.inl ⟨by rfl,?_⟩) ?_ ?_
     rotate_left
     ·intro w'
      go_simp
      with_reducible rfl
     rotate_left
     ·simp only [Act.put,sAx,sBx,sCx,i64_w,i32_w]
      rfl
     refine pure_ (i:=6) (N:=some 82) (v:=?_) (a':=?_) #[qt,qf,qt,qf,qf,qt,qt,qf,qf,qf,qf,qf,qf] rfl rfl (by kernel_rfl) (fun _ _ _ h=>h) (Or.inl ⟨by rfl,?_⟩) ?_ ?_
     rotate_left
     ·intro w'
      go_simp
      with_reducible rfl
     rotate_left
     ·simp only [Act.put,sAx,sBx,sCx,i64_w,i32_w]
      rfl
     refine take_ (i:=1) (N:=some 77) (v:=?_) (a':=?_) #[qt,qt,qt,qf,qf,qt,qt,qf,qf,qf,qf,qf,qf] rfl rfl (by kernel_rfl) (fun _ _ _ h=>h) (Or.inl ⟨by rfl,?_⟩) hHeld ?_ ?_
     rotate_left
     ·intro w' s0
      go_simp
      with_reducible rfl
     rotate_left
     ·simp only [Act.put,sAx,sBx,sCx,i64_w,i32_w]
      rfl
     refine one_ (i:=3) (N:=some 79) #[qt,qt,qt,qt,qf,qt,qt,qf,qf,qf,qf,qf,qf] rfl rfl (by kernel_rfl) (by decide) (fun K hK=>?_)
     refine goes_ Tryz.func16 (by kernel_rfl) rfl #[.int .i64 now] (by rfl) rfl rfl (by simp only [List.map_toArray,List.map_cons,List.map_nil];rfl) ?_
     with_reducible refine (HT1.out _).mono ?_
     rintro e w7 ⟨rfl,hb⟩
     refine ⟨_,rfl,?_⟩
     have HI:=mkA (HI.out.below hb)
     clear hb
     refine hK.out _ _ ((blk_cell HI.out.hr 2).trans rfl) (fun hHeld=>?_)
     clear hK K
     refine norm_ (a':=?_) ?_ ?_
     rotate_left
     ·show Act.put _ (some 79) _=_
      simp only [Act.put,sAx,sBx,sCx,i64_w,i32_w]
      rfl
     refine pure_ (i:=4) (N:=some 80) (v:=?_) (a':=?_) #[qt,qt,qt,qt,qt,qt,qt,qf,qf,qf,qf,qf,qf] rfl rfl (by kernel_rfl) (fun _ _ _ h=>h) (Or.inl ⟨by rfl,?_⟩) ?_ ?_
     rotate_left
     ·intro w'
      go_simp
      with_reducible rfl
     rotate_left
     ·simp only [Act.put,sAx,sBx,sCx,i64_w,i32_w]
      rfl
     refine one_ (i:=7) (N:=some 83) #[qt,qt,qt,qt,qt,qt,qt,qt,qf,qf,qf,qf,qf] rfl rfl (by kernel_rfl) (by decide) (fun K hK=>?_)
     refine goes_ Tryz.func16 (by kernel_rfl) rfl #[.int .i64 (wrap64 (now+8))] (by rfl) rfl rfl (by simp only [List.map_toArray,List.map_cons,List.map_nil];rfl) ?_
     with_reducible refine (HT4.out _).mono ?_
     rintro e w7 ⟨rfl,hb⟩
     refine ⟨_,rfl,?_⟩
     have HI:=mkA (HI.out.below hb)
     clear hb
     refine hK.out _ _ ((blk_cell HI.out.hr 2).trans rfl) (fun hHeld=>?_)
     clear hK K
     refine norm_ (a':=?_) ?_ ?_
     rotate_left
     ·show Act.put _ (some 83) _=_
      simp only [Act.put,sAx,sBx,sCx,i64_w,i32_w]
      rfl
     refine pure_ (i:=8) (N:=some 84) (v:=?_) (a':=?_) #[qt,qt,qt,qt,qt,qt,qt,qt,qt,qf,qf,qf,qf] rfl rfl (by kernel_rfl) (fun _ _ _ h=>h) (Or.inl ⟨by rfl,?_⟩) ?_ ?_
     rotate_left
     ·intro w'
      go_simp
      with_reducible rfl
     rotate_left
     ·simp only [Act.put,sAx,sBx,sCx,i64_w,i32_w]
      rfl
     refine one_ (i:=9) (N:=some 85) #[qt,qt,qt,qt,qt,qt,qt,qt,qt,qt,qf,qf,qf] rfl rfl (by kernel_rfl) (by decide) (fun K hK=>?_)
     refine value_ (w1:=?_) (v:=?_) (by rfl) rfl ?_ ?_
     rotate_left 2
     ·go_simp
      constructor
      ·rfl
      ·rfl
     refine name_K (fun W=>SI w w.heap.size (w.heap.size+1) gR 31 27 #[.int .u8 x0,.int .u8 x1,.int .u8 x2,.int .u8 x3,.int .u8 x4,.int .u8 x5] #[.int .i64 0,.string ⟨#[]⟩,.slice none 0 0,.slice none 0 0] (.int .i64 st) (.string ⟨#[82]⟩) L2 (.slice A n c) W∧Kd.C k41 W (some ⟨w7.heap.size,0,none⟩) 2 [⟨⟨#[68,97,116,101]⟩,(T now)⟩,⟨⟨#[69,120,112,105,114,101,115]⟩,(T (wrap64 (now+8)))⟩]) ⟨HI.out.al _,two_field (heap_alloc_new _ _)⟩ ?_
     rintro w9 ⟨h1,h2⟩
     have HI:=mkA h1
     have HL9:=mkA h2
     clear h1 h2
     refine hK.out _ _ ((blk_cell HI.out.hr 2).trans rfl) (fun hHeld=>?_)
     clear hK K
     refine norm_ (a':=?_) ?_ ?_
     rotate_left
     ·show Act.put _ (some 85) _=_
      simp only [Act.put,sAx,sBx,sCx,i64_w,i32_w]
      rfl
     refine one_ (i:=10) (N:=some 86) #[qt,qt,qt,qt,qt,qt,qt,qt,qt,qt,qt,qf,qf] rfl rfl (by kernel_rfl) (by decide) (fun K hK=>?_)
     refine rows_step k41 (w0:=w) w.heap.size (by rfl) (.tmp 77) (.tmp 85) 22 41 (.agg #[.string ⟨#[]⟩,.string ⟨#[]⟩]) 32 rfl Tryz.underlying22 info41 rfl (by decide) (by decide) (.slice A n c) L2 [⟨⟨#[68,97,116,101]⟩,(T now)⟩,⟨⟨#[69,120,112,105,114,101,115]⟩,(T (wrap64 (now+8)))⟩] (some ⟨w7.heap.size,0,none⟩) _ _ (fun _=>True) (fun _=>False) rfl rfl HI.out.ho HL9.out (fun x cs h=>by obtain rfl:=k41_open h;exact k41_mkM _ _ _ _) (fun _ h=>h.elim) (fun _ _=>trivial) HI.out.bel HI.out.bel.size (hl_ HI.out.hn (by first|decide|simp)) ?_
     intro v10 w10 ho hb hg hat
     have HX:=mkA (HI.out.put (by decide) (by decide) HG.out ho hb hg (hn_ HN.out (by simp)))
     have HX0:=mkA (HI.out.ha1 (by decide) hg)
     have hr10:=HI.out.hr1 (by decide) hg
     have hc10:=(blk_cell hr10 2).trans rfl
     have hf10:=blk_frozen hr10 2
     obtain ⟨A10,n10,c10,rfl⟩:=R_sliceN ho
     clear ho hb hg hat hr10
     refine hK.out _ _ (hc10) (fun hHeld=>?_)
     clear hK K
     refine norm_ (a':=?_) ?_ ?_
     rotate_left
     ·show Act.put _ (some 86) _=_
      simp only [Act.put,sAx,sBx,sCx,i64_w,i32_w]
      rfl
     refine pure_ (i:=11) (N:=some 87) (v:=?_) (a':=?_) #[qt,qt,qt,qt,qt,qt,qt,qt,qt,qt,qt,qt,qf] rfl rfl (by kernel_rfl) (fun _ _ _ h=>h) (Or.inl ⟨by rfl,?_⟩) ?_ ?_
     rotate_left
     ·intro w'
      go_simp
      with_reducible rfl
     rotate_left
     ·simp only [Act.put,sAx,sBx,sCx,i64_w,i32_w]
      rfl
     refine last_ (i:=12) (N:=none) #[qt,qt,qt,qt,qt,qt,qt,qt,qt,qt,qt,qt,qt] rfl rfl (by kernel_rfl) (by decide) (fun K hK=>?_)
     refine skip_ (w1:=?_) (by rfl) rfl ?_ ?_
     rotate_left
     ·go_simp
      rfl
     refine hK.out _ _ ?_
     clear hK K
     refine done_ (by kernel_rfl) ?_
     go_wp2
     go_meet
     case rel=>exact ⟨_,by rw [show rdateF T now (x3 % 6)=[⟨⟨#[68,97,116,101]⟩,(T now)⟩,⟨⟨#[69,120,112,105,114,101,115]⟩,(T (wrap64 (now+8)))⟩] from by rw [HD.out];rfl];exact HX.out⟩
    ·have e0:(x3 % 6 == 0)=false:=(by rw [hd];try rfl);have e1:(x3 % 6 == 1)=false:=(by rw [hd];try rfl);have e2:(x3 % 6 == 2)=false:=(by rw [hd];try rfl);have e3:(x3 % 6 == 3)=false:=(by rw [hd];try rfl);have e4:(x3 % 6 == 4)=true:=(by rw [hd];try rfl)
     have HD:=mkA hd
     clear hd
     have hc:=(blk_cell HI.out.hr 2).trans rfl
     go_wp2_with (first|((with_reducible refine gate_dst (N:=93) rfl ?_);refine Kd.R_lit k41 (w0:=w) w.heap.size 41 ?hg (N:=93) ?hd (xs:=[⟨⟨#[65,103,101]⟩,⟨#[52]⟩⟩]) (inner:=[.string ⟨#[65,103,101]⟩,.string ⟨#[52]⟩]) (ok:=fun _=>True) (okp:=fun _=>True) ?hr ?hp (fun _ hk=>hk) trivial HI.out.bel HI.out.bel.size (by simp) ?_;(case hd=>rfl);(case hg=>rfl);(case hr=>first|(go_simp;done)|(go_simp;rfl));(case hp=>exact Reps.c2 (k41_mkM _ _ _ ⟨⟨#[65,103,101]⟩,⟨#[52]⟩⟩) (Reps.none _ _));intro v9 w9 ho hb hg hat;have HO9:=mkA ho;have HI9:=mkA (HI.out.grown hb hg);have hc9:=(blk_cell HI9.out.hr 2).trans rfl;obtain ⟨A9,c9,rfl⟩:=Kd.R_slice ho;clear ho hb hg hat)|(at_builtin;(with_reducible refine gate_builtin (b:=.append) (xs:=#[.tmp 91,.tmp 93]) rfl ?_);refine Kd.R_append_rows k41 (w0:=w) w.heap.size rfl (.tmp 91) (.tmp 93) 22 41 (.agg #[.string ⟨#[]⟩,.string ⟨#[]⟩]) 32 rfl Tryz.underlying22 info41 rfl (by decide) (by decide) (.slice A n c) L2 [⟨⟨#[65,103,101]⟩,⟨#[52]⟩⟩] A9 _ c9 (fun _=>True) (fun _=>False) rfl rfl HI9.out.ho (Kd.R_reads' HO9.out).2.2 (fun x cs h=>by obtain rfl:=k41_open h;exact k41_mkM _ _ _ _) (fun _ h=>h.elim) (fun _ _=>trivial) HI9.out.bel HI9.out.bel.size (hl_ HI.out.hn (by simp)) ?_;intro v10 w10 ho hb hg hat;have HX:=mkA (HI9.out.put (by decide) (by decide) HG.out ho hb hg (hn_ HN.out (by simp)));have hr10:=HI9.out.hr1 (by decide) hg;have hc10:=(blk_cell hr10 2).trans rfl;have hf10:=blk_frozen hr10 2;obtain ⟨A10,n10,c10,rfl⟩:=R_sliceN ho;clear hr10 ho hb hg hat)|fail)
     go_meet
     case rel=>exact ⟨_,by rw [show rdateF T now (x3 % 6)=[⟨⟨#[65,103,101]⟩,⟨#[52]⟩⟩] from by rw [HD.out];rfl];exact HX.out⟩
    ·have e0:(x3 % 6 == 0)=false:=(by rw [hd];try rfl);have e1:(x3 % 6 == 1)=false:=(by rw [hd];try rfl);have e2:(x3 % 6 == 2)=false:=(by rw [hd];try rfl);have e3:(x3 % 6 == 3)=false:=(by rw [hd];try rfl);have e4:(x3 % 6 == 4)=false:=(by rw [hd];try rfl)
     have HD:=mkA hd
     clear hd
     go_wp2
     go_meet
     case rel=>exact ⟨_,by rw [show rdateF T now (x3 % 6)=[] from by rw [HD.out];rfl,List.append_nil];exact HI.out⟩
   case rest=>
    obtain ⟨v,hI⟩:=hcut.out
    clear hcut HI
    obtain ⟨L3,hL⟩:∃ L,L=L2++rdateF T now (x3 % 6):=⟨_,rfl⟩
    rw [← hL] at hI
    replace HN:=mkA (show L3.length≤4 from by rw [hL,List.length_append];have h1:=HN.out;have h2:=rdateF_len T now (x3 % 6);omega)
    have HL3:=mkA hL
    obtain ⟨A,n,c,rfl⟩:=R_sliceN hI.ho
    have HI:=mkA hI
    clear hI hL
    have hA:wc.cell? ⟨w.heap.size,4,none⟩=some (.int .u8 x4):=blk_cell HI.out.ha 4
    go_upto_block 1 with (fail)
    clear hA
    obtain ⟨t0,t1⟩:=tm x4 4 h4.1 (by decide)
    go_cut [] (fun wc=>Aside0 (∃ v,SI w w.heap.size (w.heap.size+1) gR 31 27 #[.int .u8 x0,.int .u8 x1,.int .u8 x2,.int .u8 x3,.int .u8 x4,.int .u8 x5] #[.int .i64 0,.string ⟨#[]⟩,.slice none 0 0,.slice none 0 0] (.int .i64 st) (.string ⟨#[82]⟩) (L3++rtagF (x4 % 4)) v wc))
    case first=>
     have hd:x4 % 4=0∨x4 % 4=1∨x4 % 4=2∨x4 % 4=3:=by omega
     clear t0 t1
     rcases hd with hd|hd|hd|hd
     ·have e1:(x4 % 4 == 1)=false:=(by rw [hd];try rfl);have e2:(x4 % 4 == 2)=false:=(by rw [hd];try rfl);have e3:(x4 % 4 == 3)=false:=(by rw [hd];try rfl)
      have HD:=mkA hd
      clear hd
      go_wp2
      go_meet
      case rel=>exact ⟨_,by rw [show rtagF (x4 % 4)=[] from by rw [HD.out];rfl,List.append_nil];exact HI.out⟩
     ·have e1:(x4 % 4 == 1)=true:=(by rw [hd];try rfl);have e2:(x4 % 4 == 2)=false:=(by rw [hd];try rfl);have e3:(x4 % 4 == 3)=false:=(by rw [hd];try rfl)
      have HD:=mkA hd
      clear hd
      have hc:=(blk_cell HI.out.hr 2).trans rfl
      go_wp2_with (first|((with_reducible refine gate_dst (N:=104) rfl ?_);refine Kd.R_lit k41 (w0:=w) w.heap.size 41 ?hg (N:=104) ?hd (xs:=[⟨⟨#[69,84,97,103]⟩,⟨#[34,97,34]⟩⟩]) (inner:=[.string ⟨#[69,84,97,103]⟩,.string ⟨#[34,97,34]⟩]) (ok:=fun _=>True) (okp:=fun _=>True) ?hr ?hp (fun _ hk=>hk) trivial HI.out.bel HI.out.bel.size (by simp) ?_;(case hd=>rfl);(case hg=>rfl);(case hr=>first|(go_simp;done)|(go_simp;rfl));(case hp=>exact Reps.c2 (k41_mkM _ _ _ ⟨⟨#[69,84,97,103]⟩,⟨#[34,97,34]⟩⟩) (Reps.none _ _));intro v9 w9 ho hb hg hat;have HO9:=mkA ho;have HI9:=mkA (HI.out.grown hb hg);have hc9:=(blk_cell HI9.out.hr 2).trans rfl;obtain ⟨A9,c9,rfl⟩:=Kd.R_slice ho;clear ho hb hg hat)|(at_builtin;(with_reducible refine gate_builtin (b:=.append) (xs:=#[.tmp 102,.tmp 104]) rfl ?_);refine Kd.R_append_rows k41 (w0:=w) w.heap.size rfl (.tmp 102) (.tmp 104) 22 41 (.agg #[.string ⟨#[]⟩,.string ⟨#[]⟩]) 32 rfl Tryz.underlying22 info41 rfl (by decide) (by decide) (.slice A n c) L3 [⟨⟨#[69,84,97,103]⟩,⟨#[34,97,34]⟩⟩] A9 _ c9 (fun _=>True) (fun _=>False) rfl rfl HI9.out.ho (Kd.R_reads' HO9.out).2.2 (fun x cs h=>by obtain rfl:=k41_open h;exact k41_mkM _ _ _ _) (fun _ h=>h.elim) (fun _ _=>trivial) HI9.out.bel HI9.out.bel.size (hl_ HI.out.hn (by simp)) ?_;intro v10 w10 ho hb hg hat;have HX:=mkA (HI9.out.put (by decide) (by decide) HG.out ho hb hg (hn_ HN.out (by simp)));have hr10:=HI9.out.hr1 (by decide) hg;have hc10:=(blk_cell hr10 2).trans rfl;have hf10:=blk_frozen hr10 2;obtain ⟨A10,n10,c10,rfl⟩:=R_sliceN ho;clear hr10 ho hb hg hat)|fail)
      go_meet
      case rel=>exact ⟨_,by rw [show rtagF (x4 % 4)=[⟨⟨#[69,84,97,103]⟩,⟨#[34,97,34]⟩⟩] from by rw [HD.out];rfl];exact HX.out⟩
     ·have e1:(x4 % 4 == 1)=false:=(by rw [hd];try rfl);have e2:(x4 % 4 == 2)=true:=(by rw [hd];try rfl);have e3:(x4 % 4 == 3)=false:=(by rw [hd];try rfl)
      have HD:=mkA hd
      clear hd
      have hc:=(blk_cell HI.out.hr 2).trans rfl
      go_wp2_with (first|((with_reducible refine gate_dst (N:=112) rfl ?_);refine Kd.R_lit k41 (w0:=w) w.heap.size 41 ?hg (N:=112) ?hd (xs:=[⟨⟨#[69,84,97,103]⟩,⟨#[87,47,34,98,34]⟩⟩]) (inner:=[.string ⟨#[69,84,97,103]⟩,.string ⟨#[87,47,34,98,34]⟩]) (ok:=fun _=>True) (okp:=fun _=>True) ?hr ?hp (fun _ hk=>hk) trivial HI.out.bel HI.out.bel.size (by simp) ?_;(case hd=>rfl);(case hg=>rfl);(case hr=>first|(go_simp;done)|(go_simp;rfl));(case hp=>exact Reps.c2 (k41_mkM _ _ _ ⟨⟨#[69,84,97,103]⟩,⟨#[87,47,34,98,34]⟩⟩) (Reps.none _ _));intro v9 w9 ho hb hg hat;have HO9:=mkA ho;have HI9:=mkA (HI.out.grown hb hg);have hc9:=(blk_cell HI9.out.hr 2).trans rfl;obtain ⟨A9,c9,rfl⟩:=Kd.R_slice ho;clear ho hb hg hat)|(at_builtin;(with_reducible refine gate_builtin (b:=.append) (xs:=#[.tmp 110,.tmp 112]) rfl ?_);refine Kd.R_append_rows k41 (w0:=w) w.heap.size rfl (.tmp 110) (.tmp 112) 22 41 (.agg #[.string ⟨#[]⟩,.string ⟨#[]⟩]) 32 rfl Tryz.underlying22 info41 rfl (by decide) (by decide) (.slice A n c) L3 [⟨⟨#[69,84,97,103]⟩,⟨#[87,47,34,98,34]⟩⟩] A9 _ c9 (fun _=>True) (fun _=>False) rfl rfl HI9.out.ho (Kd.R_reads' HO9.out).2.2 (fun x cs h=>by obtain rfl:=k41_open h;exact k41_mkM _ _ _ _) (fun _ h=>h.elim) (fun _ _=>trivial) HI9.out.bel HI9.out.bel.size (hl_ HI.out.hn (by simp)) ?_;intro v10 w10 ho hb hg hat;have HX:=mkA (HI9.out.put (by decide) (by decide) HG.out ho hb hg (hn_ HN.out (by simp)));have hr10:=HI9.out.hr1 (by decide) hg;have hc10:=(blk_cell hr10 2).trans rfl;have hf10:=blk_frozen hr10 2;obtain ⟨A10,n10,c10,rfl⟩:=R_sliceN ho;clear hr10 ho hb hg hat)|fail)
      go_meet
      case rel=>exact ⟨_,by rw [show rtagF (x4 % 4)=[⟨⟨#[69,84,97,103]⟩,⟨#[87,47,34,98,34]⟩⟩] from by rw [HD.out];rfl];exact HX.out⟩
     ·have e1:(x4 % 4 == 1)=false:=(by rw [hd];try rfl);have e2:(x4 % 4 == 2)=false:=(by rw [hd];try rfl);have e3:(x4 % 4 == 3)=true:=(by rw [hd];try rfl)
      have HD:=mkA hd
      clear hd
      have hc:=(blk_cell HI.out.hr 2).trans rfl
      go_wp2_with (first|((with_reducible refine gate_dst (N:=121) rfl ?_);refine Kd.R_lit k41 (w0:=w) w.heap.size 41 ?hg (N:=121) ?hd (xs:=[⟨⟨#[67,111,110,110,101,99,116,105,111,110]⟩,⟨#[88,45,89]⟩⟩,⟨⟨#[88,45,89]⟩,⟨#[50]⟩⟩]) (inner:=[.string ⟨#[67,111,110,110,101,99,116,105,111,110]⟩,.string ⟨#[88,45,89]⟩,.string ⟨#[88,45,89]⟩,.string ⟨#[50]⟩]) (ok:=fun _=>True) (okp:=fun _=>True) ?hr ?hp (fun _ hk=>hk) trivial HI.out.bel HI.out.bel.size (by simp) ?_;(case hd=>rfl);(case hg=>rfl);(case hr=>first|(go_simp;done)|(go_simp;rfl));(case hp=>exact Reps.c2 (k41_mkM _ _ _ ⟨⟨#[67,111,110,110,101,99,116,105,111,110]⟩,⟨#[88,45,89]⟩⟩) (Reps.c2 (k41_mkM _ _ _ ⟨⟨#[88,45,89]⟩,⟨#[50]⟩⟩) (Reps.none _ _)));intro v9 w9 ho hb hg hat;have HO9:=mkA ho;have HI9:=mkA (HI.out.grown hb hg);have hc9:=(blk_cell HI9.out.hr 2).trans rfl;obtain ⟨A9,c9,rfl⟩:=Kd.R_slice ho;clear ho hb hg hat)|(at_builtin;(with_reducible refine gate_builtin (b:=.append) (xs:=#[.tmp 118,.tmp 121]) rfl ?_);refine Kd.R_append_rows k41 (w0:=w) w.heap.size rfl (.tmp 118) (.tmp 121) 22 41 (.agg #[.string ⟨#[]⟩,.string ⟨#[]⟩]) 32 rfl Tryz.underlying22 info41 rfl (by decide) (by decide) (.slice A n c) L3 [⟨⟨#[67,111,110,110,101,99,116,105,111,110]⟩,⟨#[88,45,89]⟩⟩,⟨⟨#[88,45,89]⟩,⟨#[50]⟩⟩] A9 _ c9 (fun _=>True) (fun _=>False) rfl rfl HI9.out.ho (Kd.R_reads' HO9.out).2.2 (fun x cs h=>by obtain rfl:=k41_open h;exact k41_mkM _ _ _ _) (fun _ h=>h.elim) (fun _ _=>trivial) HI9.out.bel HI9.out.bel.size (hl_ HI.out.hn (by simp)) ?_;intro v10 w10 ho hb hg hat;have HX:=mkA (HI9.out.put (by decide) (by decide) HG.out ho hb hg (hn_ HN.out (by simp)));have hr10:=HI9.out.hr1 (by decide) hg;have hc10:=(blk_cell hr10 2).trans rfl;have hf10:=blk_frozen hr10 2;obtain ⟨A10,n10,c10,rfl⟩:=R_sliceN ho;clear hr10 ho hb hg hat)|fail)
      go_meet
      case rel=>exact ⟨_,by rw [show rtagF (x4 % 4)=[⟨⟨#[67,111,110,110,101,99,116,105,111,110]⟩,⟨#[88,45,89]⟩⟩,⟨⟨#[88,45,89]⟩,⟨#[50]⟩⟩] from by rw [HD.out];rfl];exact HX.out⟩
    case rest=>
     obtain ⟨v,hI⟩:=hcut.out
     clear hcut HI
     obtain ⟨L4,hL⟩:∃ L,L=L3++rtagF (x4 % 4):=⟨_,rfl⟩
     rw [← hL] at hI
     replace HN:=mkA (show L4.length≤6 from by rw [hL,List.length_append];have h1:=HN.out;have h2:=rtagF_len (x4 % 4);omega)
     have HL4:=mkA hL
     obtain ⟨A,n,c,rfl⟩:=R_sliceN hI.ho
     have HI:=mkA hI
     clear hI hL
     have hc:=(blk_cell HI.out.hr 0).trans rfl
     have HBL:=mkA (fun W=>ambryref10_Bodiless.calls st ⟨#[71,69,84]⟩ (bareB st) W (bare_is st))
     go_upto_if 127 with (first|(go_at_call 17;refine (HBL.out _).mono ?_;rintro e w7 ⟨rfl,hd⟩;have HI:=mkA (HI.out.below (drawn_below0 hd));clear hd hc)|fail)
     go_cut [] (fun wc=>Aside0 (SF w (w.heap.size+1) gR 27 #[.int .i64 0,.string ⟨#[]⟩,.slice none 0 0,.slice none 0 0] (.int .i64 st) (.string ⟨#[82]⟩) L4 (if bareB st=true then [] else abcL.take (x5 % 27).toNat) wc))
     case first=>
      cases hb:bareB st with
      |true=>
       go_wp2
       go_meet
       case rel=>exact ⟨by rw [if_pos hb];exact HI.out.bare⟩
      |false=>
       have hv:=Lib.run_convert_bytes_const (P:=Tryz.prog) w7 23 5 #[Value.int IntKind.u8 97,Value.int IntKind.u8 98,Value.int IntKind.u8 99,Value.int IntKind.u8 100,Value.int IntKind.u8 101,Value.int IntKind.u8 102,Value.int IntKind.u8 103,Value.int IntKind.u8 104,Value.int IntKind.u8 105,Value.int IntKind.u8 106,Value.int IntKind.u8 107,Value.int IntKind.u8 108,Value.int IntKind.u8 109,Value.int IntKind.u8 110,Value.int IntKind.u8 111,Value.int IntKind.u8 112,Value.int IntKind.u8 113,Value.int IntKind.u8 114,Value.int IntKind.u8 115,Value.int IntKind.u8 116,Value.int IntKind.u8 117,Value.int IntKind.u8 118,Value.int IntKind.u8 119,Value.int IntKind.u8 120,Value.int IntKind.u8 121,Value.int IntKind.u8 122] 26 26 Tryz.underlying23 Tryz.underlying5
       have hA:(w7.alloc (Obj.cells #[Value.int IntKind.u8 97,Value.int IntKind.u8 98,Value.int IntKind.u8 99,Value.int IntKind.u8 100,Value.int IntKind.u8 101,Value.int IntKind.u8 102,Value.int IntKind.u8 103,Value.int IntKind.u8 104,Value.int IntKind.u8 105,Value.int IntKind.u8 106,Value.int IntKind.u8 107,Value.int IntKind.u8 108,Value.int IntKind.u8 109,Value.int IntKind.u8 110,Value.int IntKind.u8 111,Value.int IntKind.u8 112,Value.int IntKind.u8 113,Value.int IntKind.u8 114,Value.int IntKind.u8 115,Value.int IntKind.u8 116,Value.int IntKind.u8 117,Value.int IntKind.u8 118,Value.int IntKind.u8 119,Value.int IntKind.u8 120,Value.int IntKind.u8 121,Value.int IntKind.u8 122] 5 (26,27))).cell? ⟨w.heap.size,5,none⟩=some (.int .u8 x5):=blk_cell (HI.out.al _).ha 5
       have hc:(w7.alloc (Obj.cells #[Value.int IntKind.u8 97,Value.int IntKind.u8 98,Value.int IntKind.u8 99,Value.int IntKind.u8 100,Value.int IntKind.u8 101,Value.int IntKind.u8 102,Value.int IntKind.u8 103,Value.int IntKind.u8 104,Value.int IntKind.u8 105,Value.int IntKind.u8 106,Value.int IntKind.u8 107,Value.int IntKind.u8 108,Value.int IntKind.u8 109,Value.int IntKind.u8 110,Value.int IntKind.u8 111,Value.int IntKind.u8 112,Value.int IntKind.u8 113,Value.int IntKind.u8 114,Value.int IntKind.u8 115,Value.int IntKind.u8 116,Value.int IntKind.u8 117,Value.int IntKind.u8 118,Value.int IntKind.u8 119,Value.int IntKind.u8 120,Value.int IntKind.u8 121,Value.int IntKind.u8 122] 5 (26,27))).cell? ⟨gR,3,none⟩=some (.slice none 0 0):=blk_cell (HI.out.al _).hr 3
       have hf:(w7.alloc (Obj.cells #[Value.int IntKind.u8 97,Value.int IntKind.u8 98,Value.int IntKind.u8 99,Value.int IntKind.u8 100,Value.int IntKind.u8 101,Value.int IntKind.u8 102,Value.int IntKind.u8 103,Value.int IntKind.u8 104,Value.int IntKind.u8 105,Value.int IntKind.u8 106,Value.int IntKind.u8 107,Value.int IntKind.u8 108,Value.int IntKind.u8 109,Value.int IntKind.u8 110,Value.int IntKind.u8 111,Value.int IntKind.u8 112,Value.int IntKind.u8 113,Value.int IntKind.u8 114,Value.int IntKind.u8 115,Value.int IntKind.u8 116,Value.int IntKind.u8 117,Value.int IntKind.u8 118,Value.int IntKind.u8 119,Value.int IntKind.u8 120,Value.int IntKind.u8 121,Value.int IntKind.u8 122] 5 (26,27))).frozen? ⟨gR,3,none⟩=false:=blk_frozen (HI.out.al _).hr 3
       have hk:=tm x5 27 h5.1 (by decide)
       have HK:=mkA (show (x5 % 27).toNat≤26 from by omega)
       have hk0:=hk.1
       have hk1:x5 % 27≤26:=by omega
       clear hk
       go_wp2
       go_meet
       case rel=>exact ⟨by rw [if_neg (by rw [hb];decide)];exact (HI.out.al _).body (L:=abcL) (by decide) HG.out _ HI.out.bel.size (heap_alloc_new w7 _) HK.out rfl (by decide)⟩
     case rest=>
      have HF:=mkA hcut.out
      clear hcut HI
      obtain ⟨v,A3,n3,c3,hn3,hr,ho,hc3,hb⟩:=HF.out.hs
      have HN3:=mkA hn3
      clear hn3
      obtain ⟨A,c,rfl⟩:=Kd.R_slice ho
      have HR:=mkA hr
      have HO:=mkA ho
      have HBY:=mkA hb
      have HC3:=mkA hc3
      clear hr ho hb hc3
      obtain ⟨bd,hbd⟩:∃ q,q=(if bareB st=true then [] else abcL.take (x5 % 27).toNat):=⟨_,rfl⟩
      rw [← hbd] at HBY HN3 HF
      have HBD:=mkA hbd
      clear hbd
      have HS4:=mkA (fun (x y z t:Value)=>show (Tryz.prog.info? 27).map (·.size)=some (#[x,y,z,t]:Array Value).size from by kernel_rfl)
      go_wp2_with (first|(with_reducible refine wpList_load_row rfl 27 _ rfl gR rfl 27 #[.int .i64 st,.string ⟨#[82]⟩,.slice A L4.length c,.slice A3 n3 c3] (0,0) _ HR.out Tryz.underlying27 rfl (HS4.out _ _ _ _) ?_)|(with_reducible refine wpList_store_row rfl 27 _ _ rfl (w.heap.size+1) #[.int .i64 st,.string ⟨#[82]⟩,.slice A L4.length c,.slice A3 n3 c3] rfl rfl 27 _ HF.out.hz (HS4.out _ _ _ _) rfl (by simp [Value.oneCell']) ?_))
      have hC:=R_setRow HO.out HF.out.hz rfl (by decide) #[.int .i64 st,.string ⟨#[82]⟩,.slice A L4.length c,.slice A3 n3 c3]
      have hD:∀ W':World,(∀ k,w.heap.size≤k→k < (wc.setRow (w.heap.size+1) #[.int .i64 st,.string ⟨#[82]⟩,.slice A L4.length c,.slice A3 n3 c3]).heap.size→W'.heap[k]?=(wc.setRow (w.heap.size+1) #[.int .i64 st,.string ⟨#[82]⟩,.slice A L4.length c,.slice A3 n3 c3]).heap[k]?)→_:=fun W' hW=>HBY.out W' (fun k h1 h2 h3=>(hW k h1 (by rw [size_setRow];exact h2)).trans (setRow_other _ _ _ _ h3))
      have hn3:=HN3.out
      subst hn3
      have hF:respF T now x0 x1 x2 x3 x4 x5=(st,L4,bd):=by unfold respF;rw [HBD.out,HL4.out,HL3.out,HL2.out,HL1.out,HL0.out,← HST.out,← HSY.out,← HVY.out]
      rw [hF]
      exact bodyPost_ret (results_cell_row rfl _ _ (w.heap.size+1) 27 #[.int .i64 st,.string ⟨#[82]⟩,.slice A L4.length c,.slice A3 bd.length c3] (0,0) _ rfl (setRow_heap _ _ _ _ _ _ HF.out.hz) Tryz.underlying27 rfl (HS4.out _ _ _ _)) rfl ⟨A,c,A3,c3,rfl,fun W' hW=>⟨(Kd.R_reads' (Kd.R_step (Kd.R_bound hC) (fun k hk hlt=>hW k hk.2.1 hlt))).2.2,hD W' hW⟩,(Kd.R_reads' hC).2.1,HC3.out,below_setRow HF.out.bel (by omega) _⟩
end Go.Proofs.YtlnmnjbihgaliaaGreat.Pr
