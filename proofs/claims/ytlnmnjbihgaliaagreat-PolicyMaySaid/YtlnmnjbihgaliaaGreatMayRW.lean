import Derived.Test.YtlnmnjbihgaliaaGreatSeatL
set_option linter.unusedVariables false
set_option linter.unusedSimpArgs false
open Go.RowKit Go.Proofs.YtlnmnjbihgaliaaGreatW.PrintWords Go.Proofs.YtlnmnjbihgaliaaGreatW.PrintMore Go.Proofs.YtlnmnjbihgaliaaGreatW.PrintLast
namespace Go.Proofs.YtlnmnjbihgaliaaGreat.Pr
/-- What the first statement of May makes, in whatever order: two blocks. -/
structure RM(W1:World)(cz:List Value)(tz:TypeId)(x y:Option Nat)(W:World):Prop where
 bel:Below W1.heap.size W1 W
 hx:∀ g,x=some g→W.heap[g]?=some (.cells cz.toArray tz (0,0))∧W1.heap.size≤g
 hy:∀ g,y=some g→W.heap[g]?=some (.cells cz.toArray tz (0,0))∧W1.heap.size≤g
 hn:∀ g h,x=some g→y=some h→g≠h
section
variable {W1 W W2:World} {cz:List Value} {tz:TypeId} {x y:Option Nat}
theorem RM.below(h:RM W1 cz tz x y W)(hb:Below W.heap.size W W2):RM W1 cz tz x y W2:=
 ⟨h.bel.trans (hb.mono h.bel.size),fun g hg=>⟨blk_below (h.hx g hg).1 hb,(h.hx g hg).2⟩,fun g hg=>⟨blk_below (h.hy g hg).1 hb,(h.hy g hg).2⟩,h.hn⟩
theorem RM.litx(h:RM W1 cz tz none y W):RM W1 cz tz (some W.heap.size) y (W.alloc (.cells cz.toArray tz)):=
 ⟨h.bel.alloc h.bel.size _,fun g hg=>by cases hg;exact ⟨heap_alloc_new _ _,h.bel.size⟩,fun g hg=>⟨blk_al (h.hy g hg).1,(h.hy g hg).2⟩,fun g k hg hk=>by cases hg;have:=blk_in (h.hy k hk).1;omega⟩
theorem RM.lity(h:RM W1 cz tz x none W):RM W1 cz tz x (some W.heap.size) (W.alloc (.cells cz.toArray tz)):=
 ⟨h.bel.alloc h.bel.size _,fun g hg=>⟨blk_al (h.hx g hg).1,(h.hx g hg).2⟩,fun g hg=>by cases hg;exact ⟨heap_alloc_new _ _,h.bel.size⟩,fun g k hg hk=>by cases hk;have:=blk_in (h.hx g hg).1;omega⟩
end
def mayS(q0:ByteArray)(r0:Int)(an bn bp al:Bool)(n:Nat):Bool:=!(q0.toList == ([71,69,84]:List UInt8)) || decide (r0 < 200) || (r0 == 206) || (r0 == 304) || an || bn || bp || al || decide ((n:Int) > 60000)
def mayA(sec bu bm:Bool)(bs:Int):Bool:=sec && !bu && !bm && decide (bs < 0)
def mayG(q0:ByteArray)(r0:Int)(an bn bp bu bm:Bool)(ba bs:Int)(sec ends al hh:Bool)(n:Nat):Bool:=
 if mayS q0 r0 an bn bp al n=true then false else if mayA sec bu bm bs=true then false else (bu || decide (ba ≥ 0) || decide (bs ≥ 0) || ends || hh)
set_option maxRecDepth 100000 in
set_option maxHeartbeats 8000000 in
theorem rmay_walk(q0 q1:ByteArray)(A2:Option Addr)(n2 c2:Nat)(v3:Value)(r0:Int)(r1:ByteArray)(B2:Option Addr)(m2 d2:Nat)(B3:Option Addr)(n3 d3:Nat)(s1 s2:ByteArray)(a0 a1 a2 a3 a4 a5 a6 a7:Bool)(a8 a9 a10 a11:Int)(b0 b1 b2 b3 b4 b5 b6 b7:Bool)(b8 b9 b10 b11:Int)(al sec ends hh:Bool)(w:World)(hv3:v3.oneCell'=true)
  (cA:∀ W,Below w.heap.size w W→Calls Tryz.prog 31 #[.slice A2 n2 c2] W fun e w'=>e=.returned (.agg #[.bool a0,.bool a1,.bool a2,.bool a3,.bool a4,.bool a5,.bool a6,.bool a7,.int .i64 a8,.int .i64 a9,.int .i64 a10,.int .i64 a11])∧Below W.heap.size W w')
  (cB:∀ W,Below w.heap.size w W→Calls Tryz.prog 31 #[.slice B2 m2 d2] W fun e w'=>e=.returned (.agg #[.bool b0,.bool b1,.bool b2,.bool b3,.bool b4,.bool b5,.bool b6,.bool b7,.int .i64 b8,.int .i64 b9,.int .i64 b10,.int .i64 b11])∧Below W.heap.size W w')
  (cN:∀ W,Below w.heap.size w W→Calls Tryz.prog 32 #[.agg #[.int .i64 r0,.string r1,.slice B2 m2 d2,.slice B3 n3 d3]] W fun e w'=>∃ v,e=.returned (.tuple #[v,.bool al])∧Below W.heap.size W w')
  (cG:∀ W,Below w.heap.size w W→Calls Tryz.prog 33 #[.slice A2 n2 c2,.string ⟨#[65,117,116,104,111,114,105,122,97,116,105,111,110]⟩] W fun e w'=>e=.returned (.tuple #[.string s1,.bool sec])∧Below W.heap.size W w')
  (cE:∀ W,Below w.heap.size w W→Calls Tryz.prog 33 #[.slice B2 m2 d2,.string ⟨#[69,120,112,105,114,101,115]⟩] W fun e w'=>e=.returned (.tuple #[.string s2,.bool ends])∧Below W.heap.size W w')
  (cH:∀ W,Calls Tryz.prog 34 #[.int .i64 r0] W fun e w'=>e=.returned (.bool hh)∧Below W.heap.size W w') :
  Calls Tryz.prog 10 #[.agg #[.string q0,.string q1,.slice A2 n2 c2,v3],.agg #[.int .i64 r0,.string r1,.slice B2 m2 d2,.slice B3 n3 d3]] w fun e w'=>e=.returned (.bool (mayG q0 r0 a0 b0 b2 b3 b4 b8 b9 sec ends al hh n3))∧Below w.heap.size w w':=by
 have HcA:=mkA cA
 have HcB:=mkA cB
 have HcN:=mkA cN
 have HcG:=mkA cG
 have HcE:=mkA cE
 have HcH:=mkA cH
 clear cA cB cN cG cE cH
 go_enter Tryz.func10,Tryz.ntmps10
 go_upto_region 1 with (fail)
 refine name_world (fun W=>((W.heap[w.heap.size]?=some (.cells #[.string q0,.string q1,.slice A2 n2 c2,v3] 25 (0,0))∧W.heap[w.heap.size+1]?=some (.cells #[.int .i64 r0,.string r1,.slice B2 m2 d2,.slice B3 n3 d3] 27 (0,0)))∧Below w.heap.size w W)∧W.heap.size=w.heap.size+2) ⟨⟨⟨blk_al (heap_alloc_new w _),new2 _ _ _⟩,(((Below.refl w.heap.size w).alloc (Nat.le_refl _) _).alloc (by simp) _)⟩,by simp⟩ ?_
 rintro W1 ⟨HI,hS⟩
 have HS:=mkA hS
 replace HI:=mkA HI
 clear hS
 obtain ⟨W1d,hw1,HM⟩:∃ w9,w9=W1.drew∧Aside0 (RM W1 [.bool false,.bool false,.bool false,.bool false,.bool false,.bool false,.bool false,.bool false,.int .i64 0,.int .i64 0,.int .i64 0,.int .i64 0] 51 none none w9):=⟨_,rfl,⟨pw_below_drewN (Below.refl _ _) 1,fun g h=>(by cases h),fun g h=>(by cases h),fun g k h=>(by cases h)⟩⟩
 refine start_ (n:=10) (S:=fun w'=>w'.cell? ⟨w.heap.size,2,none⟩=some (.slice A2 n2 c2)∧w'.cell? ⟨w.heap.size+1,2,none⟩=some (.slice B2 m2 d2)) (ds:=[]) #[qf,qf,qf,qf,qf,qf,qf,qf,qf,qf] (by kernel_rfl) rfl rfl ⟨(by rw [← hw1];exact ((blk_cell (blk_below HI.out.1.1 HM.out.bel) 2).trans rfl)),(by rw [← hw1];exact ((blk_cell (blk_below HI.out.1.2 HM.out.bel) 2).trans rfl))⟩ (fun hHeld=>?_)
 rw [← hw1] at hHeld ⊢
 clear hw1
 refine pure_ (i:=0) (N:=some 13) (v:=?_) (a':=?_) #[qt,qf,qf,qf,qf,qf,qf,qf,qf,qf] rfl rfl (by kernel_rfl) (fun _ _ _ h=>h) (Or.inl ⟨by rfl,?_⟩) ?_ ?_
 rotate_left
 ·intro w'
  go_simp
  with_reducible rfl
 rotate_left
 ·simp only [Act.put,sAx,sBx,sCx,i64_w,i32_w]
  rfl
 refine pure_ (i:=3) (N:=some 16) (v:=?_) (a':=?_) #[qt,qf,qf,qt,qf,qf,qf,qf,qf,qf] rfl rfl (by kernel_rfl) (fun _ _ _ h=>h) (Or.inl ⟨by rfl,?_⟩) ?_ ?_
 rotate_left
 ·intro w'
  go_simp
  with_reducible rfl
 rotate_left
 ·simp only [Act.put,sAx,sBx,sCx,i64_w,i32_w]
  rfl
 refine take_ (i:=1) (N:=some 14) (v:=?_) (a':=?_) #[qt,qt,qf,qt,qf,qf,qf,qf,qf,qf] rfl rfl (by kernel_rfl) (fun _ _ _ h=>h) (Or.inl ⟨by rfl,?_⟩) hHeld ?_ ?_
 rotate_left
 ·rintro w' ⟨s0,s1⟩
  go_simp
  with_reducible rfl
 rotate_left
 ·simp only [Act.put,sAx,sBx,sCx,i64_w,i32_w]
  rfl
 refine take_ (i:=4) (N:=some 17) (v:=?_) (a':=?_) #[qt,qt,qf,qt,qt,qf,qf,qf,qf,qf] rfl rfl (by kernel_rfl) (fun _ _ _ h=>h) (Or.inl ⟨by rfl,?_⟩) hHeld ?_ ?_
 rotate_left
 ·rintro w' ⟨s0,s1⟩
  go_simp
  with_reducible rfl
 rotate_left
 ·simp only [Act.put,sAx,sBx,sCx,i64_w,i32_w]
  rfl
 refine join_ (σ:=Nat × Nat) 2 #[qt,qt,qt,qt,qt,qt,qt,qt,qf,qf] (fun s=>[(15,.agg #[.bool a0,.bool a1,.bool a2,.bool a3,.bool a4,.bool a5,.bool a6,.bool a7,.int .i64 a8,.int .i64 a9,.int .i64 a10,.int .i64 a11]),(18,.agg #[.bool b0,.bool b1,.bool b2,.bool b3,.bool b4,.bool b5,.bool b6,.bool b7,.int .i64 b8,.int .i64 b9,.int .i64 b10,.int .i64 b11]),(5,.pointer (some ⟨s.1,0,none⟩)),(6,.pointer (some ⟨s.2,0,none⟩))]) (fun s=>RM W1 [.bool false,.bool false,.bool false,.bool false,.bool false,.bool false,.bool false,.bool false,.int .i64 0,.int .i64 0,.int .i64 0,.int .i64 0] 51 (some s.1) (some s.2)) ?_ ?_
 rotate_left
 ·intro hJ2_5_6_7
  refine join_ (σ:=Nat) 3 #[qt,qt,qt,qt,qt,qt,qt,qf,qf,qf] (fun gx=>[(15,.agg #[.bool a0,.bool a1,.bool a2,.bool a3,.bool a4,.bool a5,.bool a6,.bool a7,.int .i64 a8,.int .i64 a9,.int .i64 a10,.int .i64 a11]),(18,.agg #[.bool b0,.bool b1,.bool b2,.bool b3,.bool b4,.bool b5,.bool b6,.bool b7,.int .i64 b8,.int .i64 b9,.int .i64 b10,.int .i64 b11]),(5,.pointer (some ⟨gx,0,none⟩))]) (fun gx=>RM W1 [.bool false,.bool false,.bool false,.bool false,.bool false,.bool false,.bool false,.bool false,.int .i64 0,.int .i64 0,.int .i64 0,.int .i64 0] 51 (some gx) none) ?_ ?_
  rotate_left
  ·intro hJ2_5_6
   refine join_ (σ:=Nat) 3 #[qt,qt,qt,qt,qt,qt,qf,qt,qf,qf] (fun gy=>[(15,.agg #[.bool a0,.bool a1,.bool a2,.bool a3,.bool a4,.bool a5,.bool a6,.bool a7,.int .i64 a8,.int .i64 a9,.int .i64 a10,.int .i64 a11]),(18,.agg #[.bool b0,.bool b1,.bool b2,.bool b3,.bool b4,.bool b5,.bool b6,.bool b7,.int .i64 b8,.int .i64 b9,.int .i64 b10,.int .i64 b11]),(6,.pointer (some ⟨gy,0,none⟩))]) (fun gy=>RM W1 [.bool false,.bool false,.bool false,.bool false,.bool false,.bool false,.bool false,.bool false,.int .i64 0,.int .i64 0,.int .i64 0,.int .i64 0] 51 none (some gy)) ?_ ?_
   rotate_left
   ·intro hJ2_5_7
    refine join_ (σ:=Nat × Nat) 3 #[qt,qt,qt,qt,qt,qf,qt,qt,qf,qf] (fun s=>[(15,.agg #[.bool a0,.bool a1,.bool a2,.bool a3,.bool a4,.bool a5,.bool a6,.bool a7,.int .i64 a8,.int .i64 a9,.int .i64 a10,.int .i64 a11]),(5,.pointer (some ⟨s.1,0,none⟩)),(6,.pointer (some ⟨s.2,0,none⟩))]) (fun s=>RM W1 [.bool false,.bool false,.bool false,.bool false,.bool false,.bool false,.bool false,.bool false,.int .i64 0,.int .i64 0,.int .i64 0,.int .i64 0] 51 (some s.1) (some s.2)) ?_ ?_
    rotate_left
    ·intro hJ2_6_7
     refine join_ (σ:=Unit) 4 #[qt,qt,qt,qt,qt,qt,qf,qf,qf,qf] (fun _=>[(15,.agg #[.bool a0,.bool a1,.bool a2,.bool a3,.bool a4,.bool a5,.bool a6,.bool a7,.int .i64 a8,.int .i64 a9,.int .i64 a10,.int .i64 a11]),(18,.agg #[.bool b0,.bool b1,.bool b2,.bool b3,.bool b4,.bool b5,.bool b6,.bool b7,.int .i64 b8,.int .i64 b9,.int .i64 b10,.int .i64 b11])]) (fun _=>RM W1 [.bool false,.bool false,.bool false,.bool false,.bool false,.bool false,.bool false,.bool false,.int .i64 0,.int .i64 0,.int .i64 0,.int .i64 0] 51 none none) ?_ ?_
     rotate_left
     ·intro hJ2_5
      refine join_ (σ:=Nat) 4 #[qt,qt,qt,qt,qt,qf,qt,qf,qf,qf] (fun gx=>[(15,.agg #[.bool a0,.bool a1,.bool a2,.bool a3,.bool a4,.bool a5,.bool a6,.bool a7,.int .i64 a8,.int .i64 a9,.int .i64 a10,.int .i64 a11]),(5,.pointer (some ⟨gx,0,none⟩))]) (fun gx=>RM W1 [.bool false,.bool false,.bool false,.bool false,.bool false,.bool false,.bool false,.bool false,.int .i64 0,.int .i64 0,.int .i64 0,.int .i64 0] 51 (some gx) none) ?_ ?_
      rotate_left
      ·intro hJ2_6
       refine join_ (σ:=Nat) 4 #[qt,qt,qt,qt,qt,qf,qf,qt,qf,qf] (fun gy=>[(15,.agg #[.bool a0,.bool a1,.bool a2,.bool a3,.bool a4,.bool a5,.bool a6,.bool a7,.int .i64 a8,.int .i64 a9,.int .i64 a10,.int .i64 a11]),(6,.pointer (some ⟨gy,0,none⟩))]) (fun gy=>RM W1 [.bool false,.bool false,.bool false,.bool false,.bool false,.bool false,.bool false,.bool false,.int .i64 0,.int .i64 0,.int .i64 0,.int .i64 0] 51 none (some gy)) ?_ ?_
       rotate_left
       ·intro hJ2_7
        refine join_ (σ:=Nat × Nat) 4 #[qt,qt,qf,qt,qt,qf,qt,qt,qf,qf] (fun s=>[(5,.pointer (some ⟨s.1,0,none⟩)),(6,.pointer (some ⟨s.2,0,none⟩))]) (fun s=>RM W1 [.bool false,.bool false,.bool false,.bool false,.bool false,.bool false,.bool false,.bool false,.int .i64 0,.int .i64 0,.int .i64 0,.int .i64 0] 51 (some s.1) (some s.2)) ?_ ?_
        rotate_left
        ·intro hJ6_7
         refine join_ (σ:=Unit) 5 #[qt,qt,qt,qt,qt,qf,qf,qf,qf,qf] (fun _=>[(15,.agg #[.bool a0,.bool a1,.bool a2,.bool a3,.bool a4,.bool a5,.bool a6,.bool a7,.int .i64 a8,.int .i64 a9,.int .i64 a10,.int .i64 a11])]) (fun _=>RM W1 [.bool false,.bool false,.bool false,.bool false,.bool false,.bool false,.bool false,.bool false,.int .i64 0,.int .i64 0,.int .i64 0,.int .i64 0] 51 none none) ?_ ?_
         rotate_left
         ·intro hJ2
          refine join_ (σ:=Nat) 5 #[qt,qt,qf,qt,qt,qf,qt,qf,qf,qf] (fun gx=>[(5,.pointer (some ⟨gx,0,none⟩))]) (fun gx=>RM W1 [.bool false,.bool false,.bool false,.bool false,.bool false,.bool false,.bool false,.bool false,.int .i64 0,.int .i64 0,.int .i64 0,.int .i64 0] 51 (some gx) none) ?_ ?_
          rotate_left
          ·intro hJ6
           refine join_ (σ:=Nat) 5 #[qt,qt,qf,qt,qt,qf,qf,qt,qf,qf] (fun gy=>[(6,.pointer (some ⟨gy,0,none⟩))]) (fun gy=>RM W1 [.bool false,.bool false,.bool false,.bool false,.bool false,.bool false,.bool false,.bool false,.int .i64 0,.int .i64 0,.int .i64 0,.int .i64 0] 51 none (some gy)) ?_ ?_
           rotate_left
           ·intro hJ7
            refine three_ (i:=2) (j:=6) (k:=7) (Ni:=some 15) (Nj:=some 5) (Nk:=some 6) #[qt,qt,qt,qt,qt,qf,qf,qf,qf,qf] #[qt,qt,qf,qt,qt,qf,qt,qf,qf,qf] #[qt,qt,qf,qt,qt,qf,qf,qt,qf,qf] rfl rfl rfl rfl rfl rfl (by kernel_rfl) (by decide) (by decide) (by decide) (fun K hK=>?_) (fun K hK=>?_) (fun K hK=>?_)
            ·skip
             refine goes_ Tryz.func31 (by kernel_rfl) rfl #[.slice A2 n2 c2] (by rfl) rfl rfl (by simp only [List.map_toArray,List.map_cons,List.map_nil];rfl) ?_
             with_reducible refine (HcA.out _ (HI.out.2.trans (HM.out.bel.mono (by rw [HS.out];omega)))).mono ?_
             rintro e w5 ⟨rfl,hb⟩
             refine ⟨_,rfl,?_⟩
             have HM:=mkA (HM.out.below hb)
             clear hb
             refine hK.out _ _ ⟨((blk_cell (blk_below HI.out.1.1 HM.out.bel) 2).trans rfl),((blk_cell (blk_below HI.out.1.2 HM.out.bel) 2).trans rfl)⟩ (fun hHeld=>?_)
             clear hK K
             refine norm_ (a':=?_) ?_ ?_
             rotate_left
             ·show Act.put _ (some 15) _=_
              simp only [Act.put,sAx,sBx,sCx,i64_w,i32_w]
              rfl
             exact norm_ (by first|(simp only [putAll,Act.put,sAx,sBx,sCx];done)|(simp only [putAll,Act.put,sAx,sBx,sCx];rfl)) (hJ2 () _ HM.out)
            ·skip
             refine value_ (w1:=?_) (v:=?_) (by rfl) rfl ?_ ?_
             rotate_left 2
             ·go_simp
              constructor
              ·rfl
              ·rfl
             refine name_K (fun W=>RM W1 [.bool false,.bool false,.bool false,.bool false,.bool false,.bool false,.bool false,.bool false,.int .i64 0,.int .i64 0,.int .i64 0,.int .i64 0] 51 (some W1d.heap.size) none W) HM.out.litx ?_
             intro w5 hm
             have HM:=mkA hm
             clear hm
             refine hK.out _ _ ⟨((blk_cell (blk_below HI.out.1.1 HM.out.bel) 2).trans rfl),((blk_cell (blk_below HI.out.1.2 HM.out.bel) 2).trans rfl)⟩ (fun hHeld=>?_)
             clear hK K
             refine norm_ (a':=?_) ?_ ?_
             rotate_left
             ·show Act.put _ (some 5) _=_
              simp only [Act.put,sAx,sBx,sCx,i64_w,i32_w]
              rfl
             exact norm_ (by first|(simp only [putAll,Act.put,sAx,sBx,sCx];done)|(simp only [putAll,Act.put,sAx,sBx,sCx];rfl)) (hJ6 _ _ HM.out)
            ·skip
             refine value_ (w1:=?_) (v:=?_) (by rfl) rfl ?_ ?_
             rotate_left 2
             ·go_simp
              constructor
              ·rfl
              ·rfl
             refine name_K (fun W=>RM W1 [.bool false,.bool false,.bool false,.bool false,.bool false,.bool false,.bool false,.bool false,.int .i64 0,.int .i64 0,.int .i64 0,.int .i64 0] 51 none (some W1d.heap.size) W) HM.out.lity ?_
             intro w5 hm
             have HM:=mkA hm
             clear hm
             refine hK.out _ _ ⟨((blk_cell (blk_below HI.out.1.1 HM.out.bel) 2).trans rfl),((blk_cell (blk_below HI.out.1.2 HM.out.bel) 2).trans rfl)⟩ (fun hHeld=>?_)
             clear hK K
             refine norm_ (a':=?_) ?_ ?_
             rotate_left
             ·show Act.put _ (some 6) _=_
              simp only [Act.put,sAx,sBx,sCx,i64_w,i32_w]
              rfl
             exact norm_ (by first|(simp only [putAll,Act.put,sAx,sBx,sCx];done)|(simp only [putAll,Act.put,sAx,sBx,sCx];rfl)) (hJ7 _ _ HM.out)
           ·skip
            rintro gy w4 hm
            have HM:=mkA (show RM W1 [.bool false,.bool false,.bool false,.bool false,.bool false,.bool false,.bool false,.bool false,.int .i64 0,.int .i64 0,.int .i64 0,.int .i64 0] 51 none (some gy) w4 from hm)
            clear hm
            have hHeld:w4.cell? ⟨w.heap.size,2,none⟩=some (.slice A2 n2 c2)∧w4.cell? ⟨w.heap.size+1,2,none⟩=some (.slice B2 m2 d2):=⟨((blk_cell (blk_below HI.out.1.1 HM.out.bel) 2).trans rfl),((blk_cell (blk_below HI.out.1.2 HM.out.bel) 2).trans rfl)⟩
            refine norm_ (a':=?_) ?_ ?_
            rotate_left
            ·simp only [putAll,Act.put,sAx,sBx,sCx]
             rfl
            refine two_ (i:=2) (j:=6) (Ni:=some 15) (Nj:=some 5) #[qt,qt,qt,qt,qt,qf,qf,qt,qf,qf] #[qt,qt,qf,qt,qt,qf,qt,qt,qf,qf] rfl rfl rfl rfl (by kernel_rfl) (by decide) (by decide) (fun K hK=>?_) (fun K hK=>?_)
            ·skip
             refine goes_ Tryz.func31 (by kernel_rfl) rfl #[.slice A2 n2 c2] (by rfl) rfl rfl (by simp only [List.map_toArray,List.map_cons,List.map_nil];rfl) ?_
             with_reducible refine (HcA.out _ (HI.out.2.trans (HM.out.bel.mono (by rw [HS.out];omega)))).mono ?_
             rintro e w5 ⟨rfl,hb⟩
             refine ⟨_,rfl,?_⟩
             have HM:=mkA (HM.out.below hb)
             clear hb
             refine hK.out _ _ ⟨((blk_cell (blk_below HI.out.1.1 HM.out.bel) 2).trans rfl),((blk_cell (blk_below HI.out.1.2 HM.out.bel) 2).trans rfl)⟩ (fun hHeld=>?_)
             clear hK K
             refine norm_ (a':=?_) ?_ ?_
             rotate_left
             ·show Act.put _ (some 15) _=_
              simp only [Act.put,sAx,sBx,sCx,i64_w,i32_w]
              rfl
             exact norm_ (by first|(simp only [putAll,Act.put,sAx,sBx,sCx];done)|(simp only [putAll,Act.put,sAx,sBx,sCx];rfl)) (hJ2_7 gy _ HM.out)
            ·skip
             refine value_ (w1:=?_) (v:=?_) (by rfl) rfl ?_ ?_
             rotate_left 2
             ·go_simp
              constructor
              ·rfl
              ·rfl
             refine name_K (fun W=>RM W1 [.bool false,.bool false,.bool false,.bool false,.bool false,.bool false,.bool false,.bool false,.int .i64 0,.int .i64 0,.int .i64 0,.int .i64 0] 51 (some w4.heap.size) (some gy) W) HM.out.litx ?_
             intro w5 hm
             have HM:=mkA hm
             clear hm
             refine hK.out _ _ ⟨((blk_cell (blk_below HI.out.1.1 HM.out.bel) 2).trans rfl),((blk_cell (blk_below HI.out.1.2 HM.out.bel) 2).trans rfl)⟩ (fun hHeld=>?_)
             clear hK K
             refine norm_ (a':=?_) ?_ ?_
             rotate_left
             ·show Act.put _ (some 5) _=_
              simp only [Act.put,sAx,sBx,sCx,i64_w,i32_w]
              rfl
             exact norm_ (by first|(simp only [putAll,Act.put,sAx,sBx,sCx];done)|(simp only [putAll,Act.put,sAx,sBx,sCx];rfl)) (hJ6_7 (_,gy) _ HM.out)
          ·skip
           rintro gx w4 hm
           have HM:=mkA (show RM W1 [.bool false,.bool false,.bool false,.bool false,.bool false,.bool false,.bool false,.bool false,.int .i64 0,.int .i64 0,.int .i64 0,.int .i64 0] 51 (some gx) none w4 from hm)
           clear hm
           have hHeld:w4.cell? ⟨w.heap.size,2,none⟩=some (.slice A2 n2 c2)∧w4.cell? ⟨w.heap.size+1,2,none⟩=some (.slice B2 m2 d2):=⟨((blk_cell (blk_below HI.out.1.1 HM.out.bel) 2).trans rfl),((blk_cell (blk_below HI.out.1.2 HM.out.bel) 2).trans rfl)⟩
           refine norm_ (a':=?_) ?_ ?_
           rotate_left
           ·simp only [putAll,Act.put,sAx,sBx,sCx]
            rfl
           refine two_ (i:=2) (j:=7) (Ni:=some 15) (Nj:=some 6) #[qt,qt,qt,qt,qt,qf,qt,qf,qf,qf] #[qt,qt,qf,qt,qt,qf,qt,qt,qf,qf] rfl rfl rfl rfl (by kernel_rfl) (by decide) (by decide) (fun K hK=>?_) (fun K hK=>?_)
           ·skip
            refine goes_ Tryz.func31 (by kernel_rfl) rfl #[.slice A2 n2 c2] (by rfl) rfl rfl (by simp only [List.map_toArray,List.map_cons,List.map_nil];rfl) ?_
            with_reducible refine (HcA.out _ (HI.out.2.trans (HM.out.bel.mono (by rw [HS.out];omega)))).mono ?_
            rintro e w5 ⟨rfl,hb⟩
            refine ⟨_,rfl,?_⟩
            have HM:=mkA (HM.out.below hb)
            clear hb
            refine hK.out _ _ ⟨((blk_cell (blk_below HI.out.1.1 HM.out.bel) 2).trans rfl),((blk_cell (blk_below HI.out.1.2 HM.out.bel) 2).trans rfl)⟩ (fun hHeld=>?_)
            clear hK K
            refine norm_ (a':=?_) ?_ ?_
            rotate_left
            ·show Act.put _ (some 15) _=_
             simp only [Act.put,sAx,sBx,sCx,i64_w,i32_w]
             rfl
            exact norm_ (by first|(simp only [putAll,Act.put,sAx,sBx,sCx];done)|(simp only [putAll,Act.put,sAx,sBx,sCx];rfl)) (hJ2_6 gx _ HM.out)
           ·skip
            refine value_ (w1:=?_) (v:=?_) (by rfl) rfl ?_ ?_
            rotate_left 2
            ·go_simp
             constructor
             ·rfl
             ·rfl
            refine name_K (fun W=>RM W1 [.bool false,.bool false,.bool false,.bool false,.bool false,.bool false,.bool false,.bool false,.int .i64 0,.int .i64 0,.int .i64 0,.int .i64 0] 51 (some gx) (some w4.heap.size) W) HM.out.lity ?_
            intro w5 hm
            have HM:=mkA hm
            clear hm
            refine hK.out _ _ ⟨((blk_cell (blk_below HI.out.1.1 HM.out.bel) 2).trans rfl),((blk_cell (blk_below HI.out.1.2 HM.out.bel) 2).trans rfl)⟩ (fun hHeld=>?_)
            clear hK K
            refine norm_ (a':=?_) ?_ ?_
            rotate_left
            ·show Act.put _ (some 6) _=_
             simp only [Act.put,sAx,sBx,sCx,i64_w,i32_w]
             rfl
            exact norm_ (by first|(simp only [putAll,Act.put,sAx,sBx,sCx];done)|(simp only [putAll,Act.put,sAx,sBx,sCx];rfl)) (hJ6_7 (gx,_) _ HM.out)
         ·skip
          rintro _ w4 hm
          have HM:=mkA (show RM W1 [.bool false,.bool false,.bool false,.bool false,.bool false,.bool false,.bool false,.bool false,.int .i64 0,.int .i64 0,.int .i64 0,.int .i64 0] 51 none none w4 from hm)
          clear hm
          have hHeld:w4.cell? ⟨w.heap.size,2,none⟩=some (.slice A2 n2 c2)∧w4.cell? ⟨w.heap.size+1,2,none⟩=some (.slice B2 m2 d2):=⟨((blk_cell (blk_below HI.out.1.1 HM.out.bel) 2).trans rfl),((blk_cell (blk_below HI.out.1.2 HM.out.bel) 2).trans rfl)⟩
          refine norm_ (a':=?_) ?_ ?_
          rotate_left
          ·simp only [putAll,Act.put,sAx,sBx,sCx]
           rfl
          refine three_ (i:=5) (j:=6) (k:=7) (Ni:=some 18) (Nj:=some 5) (Nk:=some 6) #[qt,qt,qt,qt,qt,qt,qf,qf,qf,qf] #[qt,qt,qt,qt,qt,qf,qt,qf,qf,qf] #[qt,qt,qt,qt,qt,qf,qf,qt,qf,qf] rfl rfl rfl rfl rfl rfl (by kernel_rfl) (by decide) (by decide) (by decide) (fun K hK=>?_) (fun K hK=>?_) (fun K hK=>?_)
          ·skip
           refine goes_ Tryz.func31 (by kernel_rfl) rfl #[.slice B2 m2 d2] (by rfl) rfl rfl (by simp only [List.map_toArray,List.map_cons,List.map_nil];rfl) ?_
           with_reducible refine (HcB.out _ (HI.out.2.trans (HM.out.bel.mono (by rw [HS.out];omega)))).mono ?_
           rintro e w5 ⟨rfl,hb⟩
           refine ⟨_,rfl,?_⟩
           have HM:=mkA (HM.out.below hb)
           clear hb
           refine hK.out _ _ ⟨((blk_cell (blk_below HI.out.1.1 HM.out.bel) 2).trans rfl),((blk_cell (blk_below HI.out.1.2 HM.out.bel) 2).trans rfl)⟩ (fun hHeld=>?_)
           clear hK K
           refine norm_ (a':=?_) ?_ ?_
           rotate_left
           ·show Act.put _ (some 18) _=_
            simp only [Act.put,sAx,sBx,sCx,i64_w,i32_w]
            rfl
           exact norm_ (by first|(simp only [putAll,Act.put,sAx,sBx,sCx];done)|(simp only [putAll,Act.put,sAx,sBx,sCx];rfl)) (hJ2_5 () _ HM.out)
          ·skip
           refine value_ (w1:=?_) (v:=?_) (by rfl) rfl ?_ ?_
           rotate_left 2
           ·go_simp
            constructor
            ·rfl
            ·rfl
           refine name_K (fun W=>RM W1 [.bool false,.bool false,.bool false,.bool false,.bool false,.bool false,.bool false,.bool false,.int .i64 0,.int .i64 0,.int .i64 0,.int .i64 0] 51 (some w4.heap.size) none W) HM.out.litx ?_
           intro w5 hm
           have HM:=mkA hm
           clear hm
           refine hK.out _ _ ⟨((blk_cell (blk_below HI.out.1.1 HM.out.bel) 2).trans rfl),((blk_cell (blk_below HI.out.1.2 HM.out.bel) 2).trans rfl)⟩ (fun hHeld=>?_)
           clear hK K
           refine norm_ (a':=?_) ?_ ?_
           rotate_left
           ·show Act.put _ (some 5) _=_
            simp only [Act.put,sAx,sBx,sCx,i64_w,i32_w]
            rfl
           exact norm_ (by first|(simp only [putAll,Act.put,sAx,sBx,sCx];done)|(simp only [putAll,Act.put,sAx,sBx,sCx];rfl)) (hJ2_6 _ _ HM.out)
          ·skip
           refine value_ (w1:=?_) (v:=?_) (by rfl) rfl ?_ ?_
           rotate_left 2
           ·go_simp
            constructor
            ·rfl
            ·rfl
           refine name_K (fun W=>RM W1 [.bool false,.bool false,.bool false,.bool false,.bool false,.bool false,.bool false,.bool false,.int .i64 0,.int .i64 0,.int .i64 0,.int .i64 0] 51 none (some w4.heap.size) W) HM.out.lity ?_
           intro w5 hm
           have HM:=mkA hm
           clear hm
           refine hK.out _ _ ⟨((blk_cell (blk_below HI.out.1.1 HM.out.bel) 2).trans rfl),((blk_cell (blk_below HI.out.1.2 HM.out.bel) 2).trans rfl)⟩ (fun hHeld=>?_)
           clear hK K
           refine norm_ (a':=?_) ?_ ?_
           rotate_left
           ·show Act.put _ (some 6) _=_
            simp only [Act.put,sAx,sBx,sCx,i64_w,i32_w]
            rfl
           exact norm_ (by first|(simp only [putAll,Act.put,sAx,sBx,sCx];done)|(simp only [putAll,Act.put,sAx,sBx,sCx];rfl)) (hJ2_7 _ _ HM.out)
        ·skip
         rintro ⟨gx,gy⟩ w4 hm
         have HM:=mkA (show RM W1 [.bool false,.bool false,.bool false,.bool false,.bool false,.bool false,.bool false,.bool false,.int .i64 0,.int .i64 0,.int .i64 0,.int .i64 0] 51 (some gx) (some gy) w4 from hm)
         clear hm
         have hHeld:w4.cell? ⟨w.heap.size,2,none⟩=some (.slice A2 n2 c2)∧w4.cell? ⟨w.heap.size+1,2,none⟩=some (.slice B2 m2 d2):=⟨((blk_cell (blk_below HI.out.1.1 HM.out.bel) 2).trans rfl),((blk_cell (blk_below HI.out.1.2 HM.out.bel) 2).trans rfl)⟩
         refine norm_ (a':=?_) ?_ ?_
         rotate_left
         ·simp only [putAll,Act.put,sAx,sBx,sCx]
          rfl
         refine one_ (i:=2) (N:=some 15) #[qt,qt,qt,qt,qt,qf,qt,qt,qf,qf] rfl rfl (by kernel_rfl) (by decide) (fun K hK=>?_)
         refine goes_ Tryz.func31 (by kernel_rfl) rfl #[.slice A2 n2 c2] (by rfl) rfl rfl (by simp only [List.map_toArray,List.map_cons,List.map_nil];rfl) ?_
         with_reducible refine (HcA.out _ (HI.out.2.trans (HM.out.bel.mono (by rw [HS.out];omega)))).mono ?_
         rintro e w5 ⟨rfl,hb⟩
         refine ⟨_,rfl,?_⟩
         have HM:=mkA (HM.out.below hb)
         clear hb
         refine hK.out _ _ ⟨((blk_cell (blk_below HI.out.1.1 HM.out.bel) 2).trans rfl),((blk_cell (blk_below HI.out.1.2 HM.out.bel) 2).trans rfl)⟩ (fun hHeld=>?_)
         clear hK K
         refine norm_ (a':=?_) ?_ ?_
         rotate_left
         ·show Act.put _ (some 15) _=_
          simp only [Act.put,sAx,sBx,sCx,i64_w,i32_w]
          rfl
         exact norm_ (by first|(simp only [putAll,Act.put,sAx,sBx,sCx];done)|(simp only [putAll,Act.put,sAx,sBx,sCx];rfl)) (hJ2_6_7 (gx,gy) _ HM.out)
       ·skip
        rintro gy w4 hm
        have HM:=mkA (show RM W1 [.bool false,.bool false,.bool false,.bool false,.bool false,.bool false,.bool false,.bool false,.int .i64 0,.int .i64 0,.int .i64 0,.int .i64 0] 51 none (some gy) w4 from hm)
        clear hm
        have hHeld:w4.cell? ⟨w.heap.size,2,none⟩=some (.slice A2 n2 c2)∧w4.cell? ⟨w.heap.size+1,2,none⟩=some (.slice B2 m2 d2):=⟨((blk_cell (blk_below HI.out.1.1 HM.out.bel) 2).trans rfl),((blk_cell (blk_below HI.out.1.2 HM.out.bel) 2).trans rfl)⟩
        refine norm_ (a':=?_) ?_ ?_
        rotate_left
        ·simp only [putAll,Act.put,sAx,sBx,sCx]
         rfl
        refine two_ (i:=5) (j:=6) (Ni:=some 18) (Nj:=some 5) #[qt,qt,qt,qt,qt,qt,qf,qt,qf,qf] #[qt,qt,qt,qt,qt,qf,qt,qt,qf,qf] rfl rfl rfl rfl (by kernel_rfl) (by decide) (by decide) (fun K hK=>?_) (fun K hK=>?_)
        ·skip
         refine goes_ Tryz.func31 (by kernel_rfl) rfl #[.slice B2 m2 d2] (by rfl) rfl rfl (by simp only [List.map_toArray,List.map_cons,List.map_nil];rfl) ?_
         with_reducible refine (HcB.out _ (HI.out.2.trans (HM.out.bel.mono (by rw [HS.out];omega)))).mono ?_
         rintro e w5 ⟨rfl,hb⟩
         refine ⟨_,rfl,?_⟩
         have HM:=mkA (HM.out.below hb)
         clear hb
         refine hK.out _ _ ⟨((blk_cell (blk_below HI.out.1.1 HM.out.bel) 2).trans rfl),((blk_cell (blk_below HI.out.1.2 HM.out.bel) 2).trans rfl)⟩ (fun hHeld=>?_)
         clear hK K
         refine norm_ (a':=?_) ?_ ?_
         rotate_left
         ·show Act.put _ (some 18) _=_
          simp only [Act.put,sAx,sBx,sCx,i64_w,i32_w]
          rfl
         exact norm_ (by first|(simp only [putAll,Act.put,sAx,sBx,sCx];done)|(simp only [putAll,Act.put,sAx,sBx,sCx];rfl)) (hJ2_5_7 gy _ HM.out)
        ·skip
         refine value_ (w1:=?_) (v:=?_) (by rfl) rfl ?_ ?_
         rotate_left 2
         ·go_simp
          constructor
          ·rfl
          ·rfl
         refine name_K (fun W=>RM W1 [.bool false,.bool false,.bool false,.bool false,.bool false,.bool false,.bool false,.bool false,.int .i64 0,.int .i64 0,.int .i64 0,.int .i64 0] 51 (some w4.heap.size) (some gy) W) HM.out.litx ?_
         intro w5 hm
         have HM:=mkA hm
         clear hm
         refine hK.out _ _ ⟨((blk_cell (blk_below HI.out.1.1 HM.out.bel) 2).trans rfl),((blk_cell (blk_below HI.out.1.2 HM.out.bel) 2).trans rfl)⟩ (fun hHeld=>?_)
         clear hK K
         refine norm_ (a':=?_) ?_ ?_
         rotate_left
         ·show Act.put _ (some 5) _=_
          simp only [Act.put,sAx,sBx,sCx,i64_w,i32_w]
          rfl
         exact norm_ (by first|(simp only [putAll,Act.put,sAx,sBx,sCx];done)|(simp only [putAll,Act.put,sAx,sBx,sCx];rfl)) (hJ2_6_7 (_,gy) _ HM.out)
      ·skip
       rintro gx w4 hm
       have HM:=mkA (show RM W1 [.bool false,.bool false,.bool false,.bool false,.bool false,.bool false,.bool false,.bool false,.int .i64 0,.int .i64 0,.int .i64 0,.int .i64 0] 51 (some gx) none w4 from hm)
       clear hm
       have hHeld:w4.cell? ⟨w.heap.size,2,none⟩=some (.slice A2 n2 c2)∧w4.cell? ⟨w.heap.size+1,2,none⟩=some (.slice B2 m2 d2):=⟨((blk_cell (blk_below HI.out.1.1 HM.out.bel) 2).trans rfl),((blk_cell (blk_below HI.out.1.2 HM.out.bel) 2).trans rfl)⟩
       refine norm_ (a':=?_) ?_ ?_
       rotate_left
       ·simp only [putAll,Act.put,sAx,sBx,sCx]
        rfl
       refine two_ (i:=5) (j:=7) (Ni:=some 18) (Nj:=some 6) #[qt,qt,qt,qt,qt,qt,qt,qf,qf,qf] #[qt,qt,qt,qt,qt,qf,qt,qt,qf,qf] rfl rfl rfl rfl (by kernel_rfl) (by decide) (by decide) (fun K hK=>?_) (fun K hK=>?_)
       ·skip
        refine goes_ Tryz.func31 (by kernel_rfl) rfl #[.slice B2 m2 d2] (by rfl) rfl rfl (by simp only [List.map_toArray,List.map_cons,List.map_nil];rfl) ?_
        with_reducible refine (HcB.out _ (HI.out.2.trans (HM.out.bel.mono (by rw [HS.out];omega)))).mono ?_
        rintro e w5 ⟨rfl,hb⟩
        refine ⟨_,rfl,?_⟩
        have HM:=mkA (HM.out.below hb)
        clear hb
        refine hK.out _ _ ⟨((blk_cell (blk_below HI.out.1.1 HM.out.bel) 2).trans rfl),((blk_cell (blk_below HI.out.1.2 HM.out.bel) 2).trans rfl)⟩ (fun hHeld=>?_)
        clear hK K
        refine norm_ (a':=?_) ?_ ?_
        rotate_left
        ·show Act.put _ (some 18) _=_
         simp only [Act.put,sAx,sBx,sCx,i64_w,i32_w]
         rfl
        exact norm_ (by first|(simp only [putAll,Act.put,sAx,sBx,sCx];done)|(simp only [putAll,Act.put,sAx,sBx,sCx];rfl)) (hJ2_5_6 gx _ HM.out)
       ·skip
        refine value_ (w1:=?_) (v:=?_) (by rfl) rfl ?_ ?_
        rotate_left 2
        ·go_simp
         constructor
         ·rfl
         ·rfl
        refine name_K (fun W=>RM W1 [.bool false,.bool false,.bool false,.bool false,.bool false,.bool false,.bool false,.bool false,.int .i64 0,.int .i64 0,.int .i64 0,.int .i64 0] 51 (some gx) (some w4.heap.size) W) HM.out.lity ?_
        intro w5 hm
        have HM:=mkA hm
        clear hm
        refine hK.out _ _ ⟨((blk_cell (blk_below HI.out.1.1 HM.out.bel) 2).trans rfl),((blk_cell (blk_below HI.out.1.2 HM.out.bel) 2).trans rfl)⟩ (fun hHeld=>?_)
        clear hK K
        refine norm_ (a':=?_) ?_ ?_
        rotate_left
        ·show Act.put _ (some 6) _=_
         simp only [Act.put,sAx,sBx,sCx,i64_w,i32_w]
         rfl
        exact norm_ (by first|(simp only [putAll,Act.put,sAx,sBx,sCx];done)|(simp only [putAll,Act.put,sAx,sBx,sCx];rfl)) (hJ2_6_7 (gx,_) _ HM.out)
     ·skip
      rintro _ w4 hm
      have HM:=mkA (show RM W1 [.bool false,.bool false,.bool false,.bool false,.bool false,.bool false,.bool false,.bool false,.int .i64 0,.int .i64 0,.int .i64 0,.int .i64 0] 51 none none w4 from hm)
      clear hm
      have hHeld:w4.cell? ⟨w.heap.size,2,none⟩=some (.slice A2 n2 c2)∧w4.cell? ⟨w.heap.size+1,2,none⟩=some (.slice B2 m2 d2):=⟨((blk_cell (blk_below HI.out.1.1 HM.out.bel) 2).trans rfl),((blk_cell (blk_below HI.out.1.2 HM.out.bel) 2).trans rfl)⟩
      refine norm_ (a':=?_) ?_ ?_
      rotate_left
      ·simp only [putAll,Act.put,sAx,sBx,sCx]
       rfl
      refine two_ (i:=6) (j:=7) (Ni:=some 5) (Nj:=some 6) #[qt,qt,qt,qt,qt,qt,qt,qf,qf,qf] #[qt,qt,qt,qt,qt,qt,qf,qt,qf,qf] rfl rfl rfl rfl (by kernel_rfl) (by decide) (by decide) (fun K hK=>?_) (fun K hK=>?_)
      ·skip
       refine value_ (w1:=?_) (v:=?_) (by rfl) rfl ?_ ?_
       rotate_left 2
       ·go_simp
        constructor
        ·rfl
        ·rfl
       refine name_K (fun W=>RM W1 [.bool false,.bool false,.bool false,.bool false,.bool false,.bool false,.bool false,.bool false,.int .i64 0,.int .i64 0,.int .i64 0,.int .i64 0] 51 (some w4.heap.size) none W) HM.out.litx ?_
       intro w5 hm
       have HM:=mkA hm
       clear hm
       refine hK.out _ _ ⟨((blk_cell (blk_below HI.out.1.1 HM.out.bel) 2).trans rfl),((blk_cell (blk_below HI.out.1.2 HM.out.bel) 2).trans rfl)⟩ (fun hHeld=>?_)
       clear hK K
       refine norm_ (a':=?_) ?_ ?_
       rotate_left
       ·show Act.put _ (some 5) _=_
        simp only [Act.put,sAx,sBx,sCx,i64_w,i32_w]
        rfl
       exact norm_ (by first|(simp only [putAll,Act.put,sAx,sBx,sCx];done)|(simp only [putAll,Act.put,sAx,sBx,sCx];rfl)) (hJ2_5_6 _ _ HM.out)
      ·skip
       refine value_ (w1:=?_) (v:=?_) (by rfl) rfl ?_ ?_
       rotate_left 2
       ·go_simp
        constructor
        ·rfl
        ·rfl
       refine name_K (fun W=>RM W1 [.bool false,.bool false,.bool false,.bool false,.bool false,.bool false,.bool false,.bool false,.int .i64 0,.int .i64 0,.int .i64 0,.int .i64 0] 51 none (some w4.heap.size) W) HM.out.lity ?_
       intro w5 hm
       have HM:=mkA hm
       clear hm
       refine hK.out _ _ ⟨((blk_cell (blk_below HI.out.1.1 HM.out.bel) 2).trans rfl),((blk_cell (blk_below HI.out.1.2 HM.out.bel) 2).trans rfl)⟩ (fun hHeld=>?_)
       clear hK K
       refine norm_ (a':=?_) ?_ ?_
       rotate_left
       ·show Act.put _ (some 6) _=_
        simp only [Act.put,sAx,sBx,sCx,i64_w,i32_w]
        rfl
       exact norm_ (by first|(simp only [putAll,Act.put,sAx,sBx,sCx];done)|(simp only [putAll,Act.put,sAx,sBx,sCx];rfl)) (hJ2_5_7 _ _ HM.out)
    ·skip
     rintro ⟨gx,gy⟩ w4 hm
     have HM:=mkA (show RM W1 [.bool false,.bool false,.bool false,.bool false,.bool false,.bool false,.bool false,.bool false,.int .i64 0,.int .i64 0,.int .i64 0,.int .i64 0] 51 (some gx) (some gy) w4 from hm)
     clear hm
     have hHeld:w4.cell? ⟨w.heap.size,2,none⟩=some (.slice A2 n2 c2)∧w4.cell? ⟨w.heap.size+1,2,none⟩=some (.slice B2 m2 d2):=⟨((blk_cell (blk_below HI.out.1.1 HM.out.bel) 2).trans rfl),((blk_cell (blk_below HI.out.1.2 HM.out.bel) 2).trans rfl)⟩
     refine norm_ (a':=?_) ?_ ?_
     rotate_left
     ·simp only [putAll,Act.put,sAx,sBx,sCx]
      rfl
     refine one_ (i:=5) (N:=some 18) #[qt,qt,qt,qt,qt,qt,qt,qt,qf,qf] rfl rfl (by kernel_rfl) (by decide) (fun K hK=>?_)
     refine goes_ Tryz.func31 (by kernel_rfl) rfl #[.slice B2 m2 d2] (by rfl) rfl rfl (by simp only [List.map_toArray,List.map_cons,List.map_nil];rfl) ?_
     with_reducible refine (HcB.out _ (HI.out.2.trans (HM.out.bel.mono (by rw [HS.out];omega)))).mono ?_
     rintro e w5 ⟨rfl,hb⟩
     refine ⟨_,rfl,?_⟩
     have HM:=mkA (HM.out.below hb)
     clear hb
     refine hK.out _ _ ⟨((blk_cell (blk_below HI.out.1.1 HM.out.bel) 2).trans rfl),((blk_cell (blk_below HI.out.1.2 HM.out.bel) 2).trans rfl)⟩ (fun hHeld=>?_)
     clear hK K
     refine norm_ (a':=?_) ?_ ?_
     rotate_left
     ·show Act.put _ (some 18) _=_
      simp only [Act.put,sAx,sBx,sCx,i64_w,i32_w]
      rfl
     exact norm_ (by first|(simp only [putAll,Act.put,sAx,sBx,sCx];done)|(simp only [putAll,Act.put,sAx,sBx,sCx];rfl)) (hJ2_5_6_7 (gx,gy) _ HM.out)
   ·skip
    rintro gy w4 hm
    have HM:=mkA (show RM W1 [.bool false,.bool false,.bool false,.bool false,.bool false,.bool false,.bool false,.bool false,.int .i64 0,.int .i64 0,.int .i64 0,.int .i64 0] 51 none (some gy) w4 from hm)
    clear hm
    have hHeld:w4.cell? ⟨w.heap.size,2,none⟩=some (.slice A2 n2 c2)∧w4.cell? ⟨w.heap.size+1,2,none⟩=some (.slice B2 m2 d2):=⟨((blk_cell (blk_below HI.out.1.1 HM.out.bel) 2).trans rfl),((blk_cell (blk_below HI.out.1.2 HM.out.bel) 2).trans rfl)⟩
    refine norm_ (a':=?_) ?_ ?_
    rotate_left
    ·simp only [putAll,Act.put,sAx,sBx,sCx]
     rfl
    refine one_ (i:=6) (N:=some 5) #[qt,qt,qt,qt,qt,qt,qt,qt,qf,qf] rfl rfl (by kernel_rfl) (by decide) (fun K hK=>?_)
    refine value_ (w1:=?_) (v:=?_) (by rfl) rfl ?_ ?_
    rotate_left 2
    ·go_simp
     constructor
     ·rfl
     ·rfl
    refine name_K (fun W=>RM W1 [.bool false,.bool false,.bool false,.bool false,.bool false,.bool false,.bool false,.bool false,.int .i64 0,.int .i64 0,.int .i64 0,.int .i64 0] 51 (some w4.heap.size) (some gy) W) HM.out.litx ?_
    intro w5 hm
    have HM:=mkA hm
    clear hm
    refine hK.out _ _ ⟨((blk_cell (blk_below HI.out.1.1 HM.out.bel) 2).trans rfl),((blk_cell (blk_below HI.out.1.2 HM.out.bel) 2).trans rfl)⟩ (fun hHeld=>?_)
    clear hK K
    refine norm_ (a':=?_) ?_ ?_
    rotate_left
    ·show Act.put _ (some 5) _=_
     simp only [Act.put,sAx,sBx,sCx,i64_w,i32_w]
     rfl
    exact norm_ (by first|(simp only [putAll,Act.put,sAx,sBx,sCx];done)|(simp only [putAll,Act.put,sAx,sBx,sCx];rfl)) (hJ2_5_6_7 (_,gy) _ HM.out)
  ·skip
   rintro gx w4 hm
   have HM:=mkA (show RM W1 [.bool false,.bool false,.bool false,.bool false,.bool false,.bool false,.bool false,.bool false,.int .i64 0,.int .i64 0,.int .i64 0,.int .i64 0] 51 (some gx) none w4 from hm)
   clear hm
   have hHeld:w4.cell? ⟨w.heap.size,2,none⟩=some (.slice A2 n2 c2)∧w4.cell? ⟨w.heap.size+1,2,none⟩=some (.slice B2 m2 d2):=⟨((blk_cell (blk_below HI.out.1.1 HM.out.bel) 2).trans rfl),((blk_cell (blk_below HI.out.1.2 HM.out.bel) 2).trans rfl)⟩
   refine norm_ (a':=?_) ?_ ?_
   rotate_left
   ·simp only [putAll,Act.put,sAx,sBx,sCx]
    rfl
   refine one_ (i:=7) (N:=some 6) #[qt,qt,qt,qt,qt,qt,qt,qt,qf,qf] rfl rfl (by kernel_rfl) (by decide) (fun K hK=>?_)
   refine value_ (w1:=?_) (v:=?_) (by rfl) rfl ?_ ?_
   rotate_left 2
   ·go_simp
    constructor
    ·rfl
    ·rfl
   refine name_K (fun W=>RM W1 [.bool false,.bool false,.bool false,.bool false,.bool false,.bool false,.bool false,.bool false,.int .i64 0,.int .i64 0,.int .i64 0,.int .i64 0] 51 (some gx) (some w4.heap.size) W) HM.out.lity ?_
   intro w5 hm
   have HM:=mkA hm
   clear hm
   refine hK.out _ _ ⟨((blk_cell (blk_below HI.out.1.1 HM.out.bel) 2).trans rfl),((blk_cell (blk_below HI.out.1.2 HM.out.bel) 2).trans rfl)⟩ (fun hHeld=>?_)
   clear hK K
   refine norm_ (a':=?_) ?_ ?_
   rotate_left
   ·show Act.put _ (some 6) _=_
    simp only [Act.put,sAx,sBx,sCx,i64_w,i32_w]
    rfl
   exact norm_ (by first|(simp only [putAll,Act.put,sAx,sBx,sCx];done)|(simp only [putAll,Act.put,sAx,sBx,sCx];rfl)) (hJ2_5_6_7 (gx,_) _ HM.out)
 rintro ⟨gx,gy⟩ w4 hm
 have HM:=mkA (show RM W1 [.bool false,.bool false,.bool false,.bool false,.bool false,.bool false,.bool false,.bool false,.int .i64 0,.int .i64 0,.int .i64 0,.int .i64 0] 51 (some gx) (some gy) w4 from hm)
 clear hm
 have hHeld:w4.cell? ⟨w.heap.size,2,none⟩=some (.slice A2 n2 c2)∧w4.cell? ⟨w.heap.size+1,2,none⟩=some (.slice B2 m2 d2):=⟨((blk_cell (blk_below HI.out.1.1 HM.out.bel) 2).trans rfl),((blk_cell (blk_below HI.out.1.2 HM.out.bel) 2).trans rfl)⟩
 refine norm_ (a':=?_) ?_ ?_
 rotate_left
 ·simp only [putAll,Act.put,sAx,sBx,sCx]
  rfl
 refine one_ (i:=8) (N:=none) #[qt,qt,qt,qt,qt,qt,qt,qt,qt,qf] rfl rfl (by kernel_rfl) (by decide) (fun K hK=>?_)
 have HGX:=mkA (show w.heap.size≠gx∧w.heap.size+1≠gx from by have:=(HM.out.hx _ rfl).2;rw [HS.out] at this;omega)
 have HGY:=mkA (show w.heap.size≠gy∧w.heap.size+1≠gy from by have:=(HM.out.hy _ rfl).2;rw [HS.out] at this;omega)
 refine store_row_step (by rfl) 51 (.tmp 5) (.tmp 15) rfl gx #[.bool a0,.bool a1,.bool a2,.bool a3,.bool a4,.bool a5,.bool a6,.bool a7,.int .i64 a8,.int .i64 a9,.int .i64 a10,.int .i64 a11] rfl rfl 51 _ (HM.out.hx _ rfl).1 (by kernel_rfl) rfl (by simp [Value.oneCell']) rfl ?_
 refine name_K (fun W=>((W.heap[w.heap.size]?=some (.cells #[.string q0,.string q1,.slice A2 n2 c2,v3] 25 (0,0))∧W.heap[w.heap.size+1]?=some (.cells #[.int .i64 r0,.string r1,.slice B2 m2 d2,.slice B3 n3 d3] 27 (0,0)))∧Below w.heap.size w W)∧W.heap[gx]?=some (.cells #[.bool a0,.bool a1,.bool a2,.bool a3,.bool a4,.bool a5,.bool a6,.bool a7,.int .i64 a8,.int .i64 a9,.int .i64 a10,.int .i64 a11] 51 (0,0))∧W.heap[gy]?=some (.cells [.bool false,.bool false,.bool false,.bool false,.bool false,.bool false,.bool false,.bool false,.int .i64 0,.int .i64 0,.int .i64 0,.int .i64 0].toArray 51 (0,0))) ⟨⟨⟨(setRow_other _ _ _ _ HGX.out.1).trans (blk_below HI.out.1.1 HM.out.bel),(setRow_other _ _ _ _ HGX.out.2).trans (blk_below HI.out.1.2 HM.out.bel)⟩,below_setRow (HI.out.2.trans (HM.out.bel.mono (by rw [HS.out];omega))) (by have:=(HM.out.hx _ rfl).2;rw [HS.out] at this;omega) _⟩,setRow_heap _ _ _ _ _ _ (HM.out.hx _ rfl).1,(setRow_other _ _ _ _ (fun e=>HM.out.hn _ _ rfl rfl e.symm)).trans (HM.out.hy _ rfl).1⟩ ?_
 rintro w6 hm
 have HT:=mkA hm
 clear hm
 refine hK.out _ _ ⟨((blk_cell HT.out.1.1.1 2).trans rfl),((blk_cell HT.out.1.1.2 2).trans rfl)⟩ (fun hHeld=>?_)
 clear hK K
 refine one_ (i:=9) (N:=none) #[qt,qt,qt,qt,qt,qt,qt,qt,qt,qt] rfl rfl (by kernel_rfl) (by decide) (fun K hK=>?_)
 refine store_row_step (by rfl) 51 (.tmp 6) (.tmp 18) rfl gy #[.bool b0,.bool b1,.bool b2,.bool b3,.bool b4,.bool b5,.bool b6,.bool b7,.int .i64 b8,.int .i64 b9,.int .i64 b10,.int .i64 b11] rfl rfl 51 _ HT.out.2.2 (by kernel_rfl) rfl (by simp [Value.oneCell']) rfl ?_
 refine name_K (fun W=>((W.heap[w.heap.size]?=some (.cells #[.string q0,.string q1,.slice A2 n2 c2,v3] 25 (0,0))∧W.heap[w.heap.size+1]?=some (.cells #[.int .i64 r0,.string r1,.slice B2 m2 d2,.slice B3 n3 d3] 27 (0,0)))∧Below w.heap.size w W)∧W.heap[gx]?=some (.cells #[.bool a0,.bool a1,.bool a2,.bool a3,.bool a4,.bool a5,.bool a6,.bool a7,.int .i64 a8,.int .i64 a9,.int .i64 a10,.int .i64 a11] 51 (0,0))∧W.heap[gy]?=some (.cells #[.bool b0,.bool b1,.bool b2,.bool b3,.bool b4,.bool b5,.bool b6,.bool b7,.int .i64 b8,.int .i64 b9,.int .i64 b10,.int .i64 b11] 51 (0,0))) ⟨⟨⟨(setRow_other _ _ _ _ HGY.out.1).trans HT.out.1.1.1,(setRow_other _ _ _ _ HGY.out.2).trans HT.out.1.1.2⟩,below_setRow HT.out.1.2 (by have:=(HM.out.hy _ rfl).2;rw [HS.out] at this;omega) _⟩,(setRow_other _ _ _ _ (HM.out.hn _ _ rfl rfl)).trans HT.out.2.1,setRow_heap _ _ _ _ _ _ HT.out.2.2⟩ ?_
 rintro w6 hm
 have HT:=mkA hm
 clear hm
 refine hK.out _ _ ⟨((blk_cell HT.out.1.1.1 2).trans rfl),((blk_cell HT.out.1.1.2 2).trans rfl)⟩ (fun hHeld=>?_)
 clear hK K
 refine done_ (by kernel_rfl) ?_
 clear hHeld HM HGX HGY HI HS
 have HS4:=mkA (fun (x y z t:Value)=>show (Tryz.prog.info? 27).map (·.size)=some (#[x,y,z,t]:Array Value).size from by kernel_rfl)
 have HB:=mkA (Below.refl w6.heap.size w6)
 go_upto_region 3 with (first|(with_reducible refine wpList_load_row rfl 27 _ rfl (w.heap.size+1) rfl 27 #[.int .i64 r0,.string r1,.slice B2 m2 d2,.slice B3 n3 d3] (0,0) _ (blk_below HT.out.1.1.2 HB.out) Tryz.underlying27 rfl (HS4.out _ _ _ _) ?_)|(go_at_call 32;refine (HcN.out _ (HT.out.1.2.trans (HB.out.mono HT.out.1.2.size))).mono ?_;rintro e w7 ⟨v7,rfl,hb⟩;have HB:=mkA (HB.out.trans (hb.mono HB.out.size));clear hb;have hc:=(blk_cell (blk_below HT.out.1.1.1 HB.out) 2).trans rfl)|fail)
 go_upto_region 4 with (first|(go_at_call 33;refine (HcG.out _ (HT.out.1.2.trans (HB.out.mono HT.out.1.2.size))).mono ?_;rintro e w8 ⟨rfl,hb⟩;have HB:=mkA (HB.out.trans (hb.mono HB.out.size));clear hb;clear hc;have hc:=(blk_cell (blk_below HT.out.1.1.2 HB.out) 2).trans rfl)|fail)
 go_upto_if 36 with (first|(go_at_call 33;refine (HcE.out _ (HT.out.1.2.trans (HB.out.mono HT.out.1.2.size))).mono ?_;rintro e w9 ⟨rfl,hb⟩;have HB:=mkA (HB.out.trans (hb.mono HB.out.size));clear hb;clear hc;have g0:=(blk_cell (blk_below HT.out.1.1.1 HB.out) 0).trans rfl;have g1:=(blk_cell (blk_below HT.out.1.1.2 HB.out) 0).trans rfl;have g2:=(blk_cell (blk_below HT.out.1.1.2 HB.out) 3).trans rfl;have g3:=(blk_cell (blk_below HT.out.2.1 HB.out) 0).trans rfl;have g4:=(blk_cell (blk_below HT.out.2.2 HB.out) 0).trans rfl;have g5:=(blk_cell (blk_below HT.out.2.2 HB.out) 2).trans rfl;have g6:=(blk_cell (blk_below HT.out.2.2 HB.out) 3).trans rfl;have g7:=(blk_cell (blk_below HT.out.2.2 HB.out) 4).trans rfl;have g8:=(blk_cell (blk_below HT.out.2.2 HB.out) 8).trans rfl;have g9:=(blk_cell (blk_below HT.out.2.2 HB.out) 9).trans rfl)|fail)
 go_cut [36] (fun v36 wc=>v36=.bool (mayS q0 r0 a0 b0 b2 al n3)∧wc=w9)
 case first=>
  clear g6 g7 g8 g9
  cases e0:(q0.toList == ([71,69,84]:List UInt8)) with
  |false=>
   go_wp2
   go_meet
   case rel=>exact ⟨by (first|rfl|simp [mayS,e0]),rfl⟩
  |true=>
   by_cases e1:r0 < 200
   ·have d1:decide (r0 < 200)=true:=decide_eq_true e1
    go_wp2
    go_meet
    case rel=>exact ⟨by (first|rfl|simp [mayS,e0,e1]),rfl⟩
   ·have d1:decide (r0 < 200)=false:=decide_eq_false e1
    cases e2:(r0 == 206) with
    |true=>
     go_wp2
     go_meet
     case rel=>exact ⟨by (first|rfl|simp [mayS,e0,e1,e2]),rfl⟩
    |false=>
     cases e3:(r0 == 304) with
     |true=>
      go_wp2
      go_meet
      case rel=>exact ⟨by (first|rfl|simp [mayS,e0,e1,e2,e3]),rfl⟩
     |false=>
      cases a0 with
      |true=>
       go_wp2
       go_meet
       case rel=>exact ⟨by (first|rfl|simp [mayS,e0,e1,e2,e3]),rfl⟩
      |false=>
       cases b0 with
       |true=>
        go_wp2
        go_meet
        case rel=>exact ⟨by (first|rfl|simp [mayS,e0,e1,e2,e3]),rfl⟩
       |false=>
        cases b2 with
        |true=>
         go_wp2
         go_meet
         case rel=>exact ⟨by (first|rfl|simp [mayS,e0,e1,e2,e3]),rfl⟩
        |false=>
         cases al with
         |true=>
          go_wp2
          go_meet
          case rel=>exact ⟨by (first|rfl|simp [mayS,e0,e1,e2,e3]),rfl⟩
         |false=>
          by_cases e8:(n3:Int) > 60000
          ·have d8:decide (60000 < (n3:Int))=true:=decide_eq_true e8;have d8n:decide (60000 < n3)=true:=decide_eq_true (by omega)
           go_wp2
           go_meet
           case rel=>exact ⟨by (first|rfl|simp [mayS,e0,e1,e2,e3,e8]),rfl⟩
          ·have d8:decide (60000 < (n3:Int))=false:=decide_eq_false e8;have d8n:decide (60000 < n3)=false:=decide_eq_false (by omega)
           go_wp2
           go_meet
           case rel=>exact ⟨by (first|rfl|simp [mayS,e0,e1,e2,e3,e8]),rfl⟩
 case rest=>
  obtain ⟨rfl,rfl⟩:=hcut
  have HBW:=mkA (HT.out.1.2.trans (HB.out.mono HT.out.1.2.size))
  cases hS:mayS q0 r0 a0 b0 b2 al n3 with
  |true=>
   go_wp2
   go_ret
   exact ⟨by unfold mayG;rw [if_pos hS];rfl,HBW.out⟩
  |false=>
   go_upto_region 15 with (fail)
   go_cut [60] (fun v60 wc2=>v60=.bool (mayA sec b3 b4 b9)∧wc2=wc)
   case first=>
    cases sec with
    |false=>
     go_wp2
     go_meet
     case rel=>exact ⟨by (first|rfl|simp [mayA,]),rfl⟩
    |true=>
     cases b3 with
     |true=>
      go_wp2
      go_meet
      case rel=>exact ⟨by (first|rfl|simp [mayA,]),rfl⟩
     |false=>
      cases b4 with
      |true=>
       go_wp2
       go_meet
       case rel=>exact ⟨by (first|rfl|simp [mayA,]),rfl⟩
      |false=>
       by_cases e9:b9 < 0
       ·have d9:decide (b9 < 0)=true:=decide_eq_true e9
        go_wp2
        go_meet
        case rel=>exact ⟨by (first|rfl|simp [mayA,e9]),rfl⟩
       ·have d9:decide (b9 < 0)=false:=decide_eq_false e9
        go_wp2
        go_meet
        case rel=>exact ⟨by (first|rfl|simp [mayA,e9]),rfl⟩
   case rest=>
    obtain ⟨rfl,rfl⟩:=hcut
    cases hA:mayA sec b3 b4 b9 with
    |true=>
     go_wp2
     go_ret
     exact ⟨by unfold mayG;rw [if_neg (by rw [hS];decide),if_pos hA];rfl,HBW.out⟩
    |false=>
     have HG:=mkA (show mayG q0 r0 a0 b0 b2 b3 b4 b8 b9 sec ends al hh n3=(b3 || decide (b8 ≥ 0) || decide (b9 ≥ 0) || ends || hh) from by unfold mayG;rw [if_neg (by rw [hS];decide),if_neg (by rw [hA];decide)])
     clear hS hA g0 g2 g3 g4 g5 g7
     cases b3 with
     |true=>
      have HV:=mkA (show (true || decide (b8 ≥ 0) || decide (b9 ≥ 0) || ends || hh)=true from by simp [])
      go_wp2
      go_ret
      exact ⟨by rw [HG.out,HV.out];rfl,HBW.out⟩
     |false=>
      by_cases e8:b8 ≥ 0
      ·have d8:decide (0≤b8)=true:=decide_eq_true e8
       have HV:=mkA (show (false || decide (b8 ≥ 0) || decide (b9 ≥ 0) || ends || hh)=true from by simp [e8])
       go_wp2
       go_ret
       exact ⟨by rw [HG.out,HV.out];rfl,HBW.out⟩
      ·have d8:decide (0≤b8)=false:=decide_eq_false e8
       by_cases e9:b9 ≥ 0
       ·have d9:decide (0≤b9)=true:=decide_eq_true e9
        have HV:=mkA (show (false || decide (b8 ≥ 0) || decide (b9 ≥ 0) || ends || hh)=true from by simp [e8,e9])
        go_wp2
        go_ret
        exact ⟨by rw [HG.out,HV.out];rfl,HBW.out⟩
       ·have d9:decide (0≤b9)=false:=decide_eq_false e9
        cases ends with
        |true=>
         have HV:=mkA (show (false || decide (b8 ≥ 0) || decide (b9 ≥ 0) || true || hh)=true from by simp [e8,e9])
         go_wp2
         go_ret
         exact ⟨by rw [HG.out,HV.out];rfl,HBW.out⟩
        |false=>
         have HV:=mkA (show (false || decide (b8 ≥ 0) || decide (b9 ≥ 0) || false || hh)=hh from by simp [e8,e9])
         go_wp2_with (first|(go_at_call 34;refine (HcH.out _).mono ?_;rintro e w10 ⟨rfl,hb⟩;have HBX:=mkA (HBW.out.trans (hb.mono HBW.out.size));clear hb)|fail)
         go_ret
         exact ⟨by rw [HG.out,HV.out];rfl,HBX.out⟩
end Go.Proofs.YtlnmnjbihgaliaaGreat.Pr
