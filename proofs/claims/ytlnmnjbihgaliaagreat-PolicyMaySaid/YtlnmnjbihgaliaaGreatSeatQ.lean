import Derived.Test.YtlnmnjbihgaliaaGreatSeatL
set_option linter.unusedVariables false
set_option linter.unusedSimpArgs false
open Go.RowKit Go.Proofs.YtlnmnjbihgaliaaGreatW.PrintWords Go.Proofs.YtlnmnjbihgaliaaGreatW.PrintMore Go.Proofs.YtlnmnjbihgaliaaGreatW.PrintLast
namespace Go.Proofs.YtlnmnjbihgaliaaGreat.Pr
def methL:List ByteArray:=[⟨#[71,69,84]⟩,⟨#[71,69,84]⟩,⟨#[71,69,84]⟩,⟨#[71,69,84]⟩,⟨#[71,69,84]⟩,⟨#[72,69,65,68]⟩,⟨#[80,79,83,84]⟩,⟨#[68,69,76,69,84,69]⟩,⟨#[71,69,84]⟩,⟨#[71,69,84]⟩]
def targL:List ByteArray:=[⟨#[47]⟩,⟨#[47,97]⟩,⟨#[47,98]⟩,⟨#[47,99,63,100]⟩]
def hostL:List ByteArray:=[⟨#[104]⟩,⟨#[72]⟩,⟨#[103]⟩]
def qsaysL:List ByteArray:=[⟨#[]⟩,⟨#[]⟩,⟨#[]⟩,⟨#[]⟩,⟨#[110,111,45,99,97,99,104,101]⟩,⟨#[110,111,45,115,116,111,114,101]⟩,⟨#[109,97,120,45,97,103,101,61,53]⟩,⟨#[109,97,120,45,115,116,97,108,101]⟩,⟨#[109,97,120,45,115,116,97,108,101,61,57]⟩,⟨#[109,105,110,45,102,114,101,115,104,61,52]⟩,⟨#[111,110,108,121,45,105,102,45,99,97,99,104,101,100]⟩,⟨#[109,97,120,45,97,103,101,61,48]⟩]
def digL:List Int:=[48,49,50,51,52,53,54,55,56,57]
def qvaryF(d:Int):List S41:=if d=1 then [⟨⟨#[65,99,99,101,112,116]⟩,⟨#[120]⟩⟩] else if d=2 then [⟨⟨#[97,99,99,101,112,116]⟩,⟨#[120,44,32,32,121]⟩⟩] else if d=3 then [⟨⟨#[65,99,99,101,112,116]⟩,⟨#[120]⟩⟩,⟨⟨#[76,97,110,103]⟩,⟨#[101,110]⟩⟩] else []
def qcondF(T:Int→ByteArray)(d:Int):List S41:=if d=1 then [⟨⟨#[73,102,45,78,111,110,101,45,77,97,116,99,104]⟩,⟨#[34,97,34]⟩⟩] else if d=2 then [⟨⟨#[73,102,45,77,111,100,105,102,105,101,100,45,83,105,110,99,101]⟩,(T 999999950)⟩] else if d=3 then [⟨⟨#[67,111,110,110,101,99,116,105,111,110]⟩,⟨#[99,108,111,115,101]⟩⟩] else if d=4 then [⟨⟨#[65,117,116,104,111,114,105,122,97,116,105,111,110]⟩,⟨#[109,101]⟩⟩] else if d=5 then [⟨⟨#[67,111,110,110,101,99,116,105,111,110]⟩,⟨#[88,45,72,111,112]⟩⟩,⟨⟨#[88,45,72,111,112]⟩,⟨#[49]⟩⟩,⟨⟨#[86,105,97]⟩,⟨#[49,46,48,32,122]⟩⟩] else if d=6 then [⟨⟨#[82,97,110,103,101]⟩,⟨#[98,121,116,101,115,61,48,45,49]⟩⟩] else []
theorem qvaryF_len(d:Int):(qvaryF d).length≤2:=by unfold qvaryF;(repeat' split) <;> simp
theorem qcondF_len(T:Int→ByteArray)(d:Int):(qcondF T d).length≤3:=by unfold qcondF;(repeat' split) <;> simp
def reqF(T:Int→ByteArray)(x0 x1 x2 x3 x4 x5:Int):ByteArray × ByteArray × List S41 × List Int:=
 (methL.getD (x1 % 10).toNat ⟨#[]⟩,targL.getD (x0 % 4).toNat ⟨#[]⟩,[⟨⟨#[72,111,115,116]⟩,hostL.getD (x0 / 4 % 3).toNat ⟨#[]⟩⟩]++optF ⟨#[67,97,99,104,101,45,67,111,110,116,114,111,108]⟩ (qsaysL.getD (x2 % 12).toNat ⟨#[]⟩)++qvaryF (x3 % 6)++qcondF T (x4 % 9),if (methL.getD (x1 % 10).toNat ⟨#[]⟩).toList=([80,79,83,84]:List UInt8) then digL.take (x5 % 11).toNat else [])
set_option maxRecDepth 100000 in
set_option maxHeartbeats 8000000 in
theorem seatQ_calls(T:Int→ByteArray)(x0 x1 x2 x3 x4 x5:Int)(w:World)(h0:0≤x0∧x0≤255)(h1:0≤x1∧x1≤255)(h2:0≤x2∧x2≤255)(h3:0≤x3∧x3≤255)(h4:0≤x4∧x4≤255)(h5:0≤x5∧x5≤255)
  (hT:∀ W,Calls Tryz.prog 16 #[.int .i64 999999950] W fun e w'=>e=.returned (.string (T 999999950))∧Below W.heap.size W w') :
  Calls Tryz.prog 7 #[.agg #[.int .u8 x0,.int .u8 x1,.int .u8 x2,.int .u8 x3,.int .u8 x4,.int .u8 x5]] w fun e w'=>∃ A c A3 c3,e=.returned (.agg #[.string (reqF T x0 x1 x2 x3 x4 x5).1,.string (reqF T x0 x1 x2 x3 x4 x5).2.1,.slice A (reqF T x0 x1 x2 x3 x4 x5).2.2.1.length c,.slice A3 (reqF T x0 x1 x2 x3 x4 x5).2.2.2.length c3])∧(∀ W':World,(∀ k,w.heap.size≤k→k < w'.heap.size→W'.heap[k]?=w'.heap[k]?)→Kd.C k41 W' A (reqF T x0 x1 x2 x3 x4 x5).2.2.1.length (reqF T x0 x1 x2 x3 x4 x5).2.2.1∧Kd.C (Kd.int .u8) W' A3 (reqF T x0 x1 x2 x3 x4 x5).2.2.2.length (reqF T x0 x1 x2 x3 x4 x5).2.2.2)∧(reqF T x0 x1 x2 x3 x4 x5).2.2.1.length≤c∧(reqF T x0 x1 x2 x3 x4 x5).2.2.2.length≤c3∧Below w.heap.size w w':=by
 have HT1:=mkA hT
 clear hT
 go_enter Tryz.func7,Tryz.ntmps7
 go_upto_region 1 with (fail)
 refine name_world (fun W=>((W.heap[w.heap.size]?=some (.cells #[.int .u8 x0,.int .u8 x1,.int .u8 x2,.int .u8 x3,.int .u8 x4,.int .u8 x5] 29 (0,0))∧W.heap[w.heap.size+1]?=some (.cells #[.string ⟨#[]⟩,.string ⟨#[]⟩,.slice none 0 0,.slice none 0 0] 25 (0,0)))∧Below w.heap.size w W)∧W.heap.size=w.heap.size+2) ⟨⟨⟨blk_al (heap_alloc_new w _),new2 _ _ _⟩,(((Below.refl w.heap.size w).alloc (Nat.le_refl _) _).alloc (by simp) _)⟩,by simp⟩ ?_
 rintro W1 ⟨HI,hS⟩
 have HS:=mkA hS
 replace HI:=mkA HI
 clear hS
 have HB0:=mkA (tm x1 10 h1.1 (by decide))
 have HB1:=mkA (tm x0 4 h0.1 (by decide))
 obtain ⟨m,hx⟩:∃ q,q=methL.getD (x1 % 10).toNat ⟨#[]⟩:=⟨_,rfl⟩
 have HM:=mkA hx
 clear hx
 obtain ⟨tg,hx⟩:∃ q,q=targL.getD (x0 % 4).toNat ⟨#[]⟩:=⟨_,rfl⟩
 have HTG:=mkA hx
 clear hx
 have HS0:=mkA (show RQ W1 (methL.map Value.string) (targL.map Value.string) [.string ⟨#[]⟩,.string ⟨#[]⟩,.slice none 0 0,.slice none 0 0] 25 none none none W1.drew from ⟨pw_below_drewN (Below.refl _ _) 1,fun g h=>(by cases h),fun g h=>(by cases h),fun g h=>(by cases h)⟩)
 have e1:Int.tmod x1 10=x1 % 10:=Int.tmod_eq_emod_of_nonneg h1.1
 have e0:Int.tmod x0 4=x0 % 4:=Int.tmod_eq_emod_of_nonneg h0.1
 have b1:0≤x1 % 10:=HB0.out.1
 have b2:x1 % 10 < 10:=HB0.out.2
 have b3:0≤x0 % 4:=HB1.out.1
 have b4:x0 % 4 < 4:=HB1.out.2
 skip
 obtain ⟨W1d,hw1,HS0⟩:∃ w9,w9=W1.drew∧Aside0 (RQ W1 (methL.map Value.string) (targL.map Value.string) [.string ⟨#[]⟩,.string ⟨#[]⟩,.slice none 0 0,.slice none 0 0] 25 none none none w9):=⟨_,rfl,HS0⟩
 refine start_ (n:=15) (S:=fun w'=>w'.cell? ⟨w.heap.size,0,none⟩=some (.int .u8 x0)∧w'.cell? ⟨w.heap.size,1,none⟩=some (.int .u8 x1)) (ds:=[14]) #[qf,qf,qf,qf,qf,qf,qf,qf,qf,qf,qf,qf,qf,qf,qf] (by kernel_rfl) rfl rfl ⟨(by rw [← hw1];exact (blk_cell (blk_below HI.out.1.1 HS0.out.bel) 0)),(by rw [← hw1];exact (blk_cell (blk_below HI.out.1.1 HS0.out.bel) 1))⟩ (fun hHeld=>?_)
 rw [← hw1] at hHeld ⊢
 clear hw1
 refine pure_ (i:=1) (N:=some 6) (v:=?_) (a':=?_) #[qf,qt,qf,qf,qf,qf,qf,qf,qf,qf,qf,qf,qf,qf,qf] rfl rfl (by kernel_rfl) (fun _ _ _ h=>h) (Or.inl ⟨by rfl,?_⟩) ?_ ?_
 rotate_left
 ·intro w'
  go_simp
  with_reducible rfl
 rotate_left
 ·simp only [Act.put,sAx,sBx,sCx,i64_w,i32_w]
  rfl
 refine pure_ (i:=7) (N:=some 12) (v:=?_) (a':=?_) #[qf,qt,qf,qf,qf,qf,qf,qt,qf,qf,qf,qf,qf,qf,qf] rfl rfl (by kernel_rfl) (fun _ _ _ h=>h) (Or.inl ⟨by rfl,?_⟩) ?_ ?_
 rotate_left
 ·intro w'
  go_simp
  with_reducible rfl
 rotate_left
 ·simp only [Act.put,sAx,sBx,sCx,i64_w,i32_w]
  rfl
 refine take_ (i:=2) (N:=some 7) (v:=?_) (a':=?_) #[qf,qt,qt,qf,qf,qf,qf,qt,qf,qf,qf,qf,qf,qf,qf] rfl rfl (by kernel_rfl) (fun _ _ _ h=>h) (Or.inl ⟨by rfl,?_⟩) hHeld ?_ ?_
 rotate_left
 ·rintro w' ⟨s0,s1⟩
  go_simp
  with_reducible rfl
 rotate_left
 ·simp only [Act.put,sAx,sBx,sCx,i64_w,i32_w]
  rfl
 refine pure_ (i:=3) (N:=some 8) (v:=?_) (a':=?_) #[qf,qt,qt,qt,qf,qf,qf,qt,qf,qf,qf,qf,qf,qf,qf] rfl rfl (by kernel_rfl) (fun _ _ _ h=>h) (Or.inl ⟨by rfl,?_⟩) ?_ ?_
 rotate_left
 ·intro w'
  go_simp
  with_reducible rfl
 rotate_left
 ·simp only [Act.put,sAx,sBx,sCx,i64_w,i32_w]
  rfl
 refine take_ (i:=8) (N:=some 13) (v:=?_) (a':=?_) #[qf,qt,qt,qt,qf,qf,qf,qt,qt,qf,qf,qf,qf,qf,qf] rfl rfl (by kernel_rfl) (fun _ _ _ h=>h) (Or.inl ⟨by rfl,?_⟩) hHeld ?_ ?_
 rotate_left
 ·rintro w' ⟨s0,s1⟩
  go_simp
  with_reducible rfl
 rotate_left
 ·simp only [Act.put,sAx,sBx,sCx,i64_w,i32_w]
  rfl
 refine pure_ (i:=9) (N:=some 14) (v:=?_) (a':=?_) #[qf,qt,qt,qt,qf,qf,qf,qt,qt,qt,qf,qf,qf,qf,qf] rfl rfl (by kernel_rfl) (fun _ _ _ h=>h) (Or.inl ⟨by rfl,?_⟩) ?_ ?_
 rotate_left
 ·intro w'
  go_simp
  with_reducible rfl
 rotate_left
 ·simp only [Act.put,sAx,sBx,sCx,i64_w,i32_w]
  rfl
 refine join_ (σ:=Nat × Nat × Nat) 1 #[qt,qt,qt,qt,qt,qt,qt,qt,qt,qt,qt,qt,qt,qt,qf] (fun s=>[(5,.slice (some ⟨s.1,0,none⟩) 10 10),(9,.pointer (some ⟨s.1,(x1 % 10).toNat,none⟩)),(10,.string m),(11,.slice (some ⟨s.2.1,0,none⟩) 4 4),(15,.pointer (some ⟨s.2.1,(x0 % 4).toNat,none⟩)),(16,.string tg),(17,.agg #[.string m,.string tg,.slice none 0 0,.slice none 0 0]),(3,.pointer (some ⟨s.2.2,0,none⟩))]) (fun s=>RQ W1 (methL.map Value.string) (targL.map Value.string) [.string ⟨#[]⟩,.string ⟨#[]⟩,.slice none 0 0,.slice none 0 0] 25 (some s.1) (some s.2.1) (some s.2.2)) ?_ ?_
 rotate_left
 ·intro hJ0_5_6_11_13
  refine join_ (σ:=Nat × Nat) 2 #[qt,qt,qt,qt,qt,qt,qt,qt,qt,qt,qt,qt,qt,qf,qf] (fun s=>[(5,.slice (some ⟨s.1,0,none⟩) 10 10),(9,.pointer (some ⟨s.1,(x1 % 10).toNat,none⟩)),(10,.string m),(11,.slice (some ⟨s.2,0,none⟩) 4 4),(15,.pointer (some ⟨s.2,(x0 % 4).toNat,none⟩)),(16,.string tg),(17,.agg #[.string m,.string tg,.slice none 0 0,.slice none 0 0])]) (fun s=>RQ W1 (methL.map Value.string) (targL.map Value.string) [.string ⟨#[]⟩,.string ⟨#[]⟩,.slice none 0 0,.slice none 0 0] 25 (some s.1) (some s.2) none) ?_ ?_
  rotate_left
  ·intro hJ0_5_6_11
   refine join_ (σ:=Nat × Nat × Nat) 3 #[qt,qt,qt,qt,qt,qt,qt,qt,qt,qt,qt,qf,qf,qt,qf] (fun s=>[(5,.slice (some ⟨s.1,0,none⟩) 10 10),(9,.pointer (some ⟨s.1,(x1 % 10).toNat,none⟩)),(10,.string m),(11,.slice (some ⟨s.2.1,0,none⟩) 4 4),(15,.pointer (some ⟨s.2.1,(x0 % 4).toNat,none⟩)),(3,.pointer (some ⟨s.2.2,0,none⟩))]) (fun s=>RQ W1 (methL.map Value.string) (targL.map Value.string) [.string ⟨#[]⟩,.string ⟨#[]⟩,.slice none 0 0,.slice none 0 0] 25 (some s.1) (some s.2.1) (some s.2.2)) ?_ ?_
   rotate_left
   ·intro hJ0_5_6_13
    refine join_ (σ:=Nat × Nat × Nat) 3 #[qt,qt,qt,qt,qt,qf,qt,qt,qt,qt,qt,qt,qf,qt,qf] (fun s=>[(5,.slice (some ⟨s.1,0,none⟩) 10 10),(9,.pointer (some ⟨s.1,(x1 % 10).toNat,none⟩)),(11,.slice (some ⟨s.2.1,0,none⟩) 4 4),(15,.pointer (some ⟨s.2.1,(x0 % 4).toNat,none⟩)),(16,.string tg),(3,.pointer (some ⟨s.2.2,0,none⟩))]) (fun s=>RQ W1 (methL.map Value.string) (targL.map Value.string) [.string ⟨#[]⟩,.string ⟨#[]⟩,.slice none 0 0,.slice none 0 0] 25 (some s.1) (some s.2.1) (some s.2.2)) ?_ ?_
    rotate_left
    ·intro hJ0_6_11_13
     refine join_ (σ:=Nat × Nat) 4 #[qt,qt,qt,qt,qt,qt,qt,qt,qt,qt,qt,qf,qf,qf,qf] (fun s=>[(5,.slice (some ⟨s.1,0,none⟩) 10 10),(9,.pointer (some ⟨s.1,(x1 % 10).toNat,none⟩)),(10,.string m),(11,.slice (some ⟨s.2,0,none⟩) 4 4),(15,.pointer (some ⟨s.2,(x0 % 4).toNat,none⟩))]) (fun s=>RQ W1 (methL.map Value.string) (targL.map Value.string) [.string ⟨#[]⟩,.string ⟨#[]⟩,.slice none 0 0,.slice none 0 0] 25 (some s.1) (some s.2) none) ?_ ?_
     rotate_left
     ·intro hJ0_5_6
      refine join_ (σ:=Nat × Nat) 5 #[qt,qt,qt,qt,qt,qt,qf,qt,qt,qt,qf,qf,qf,qt,qf] (fun s=>[(5,.slice (some ⟨s.1,0,none⟩) 10 10),(9,.pointer (some ⟨s.1,(x1 % 10).toNat,none⟩)),(10,.string m),(3,.pointer (some ⟨s.2,0,none⟩))]) (fun s=>RQ W1 (methL.map Value.string) (targL.map Value.string) [.string ⟨#[]⟩,.string ⟨#[]⟩,.slice none 0 0,.slice none 0 0] 25 (some s.1) none (some s.2)) ?_ ?_
      rotate_left
      ·intro hJ0_5_13
       refine join_ (σ:=Nat × Nat) 4 #[qt,qt,qt,qt,qt,qf,qt,qt,qt,qt,qt,qt,qf,qf,qf] (fun s=>[(5,.slice (some ⟨s.1,0,none⟩) 10 10),(9,.pointer (some ⟨s.1,(x1 % 10).toNat,none⟩)),(11,.slice (some ⟨s.2,0,none⟩) 4 4),(15,.pointer (some ⟨s.2,(x0 % 4).toNat,none⟩)),(16,.string tg)]) (fun s=>RQ W1 (methL.map Value.string) (targL.map Value.string) [.string ⟨#[]⟩,.string ⟨#[]⟩,.slice none 0 0,.slice none 0 0] 25 (some s.1) (some s.2) none) ?_ ?_
       rotate_left
       ·intro hJ0_6_11
        refine join_ (σ:=Nat × Nat × Nat) 4 #[qt,qt,qt,qt,qt,qf,qt,qt,qt,qt,qt,qf,qf,qt,qf] (fun s=>[(5,.slice (some ⟨s.1,0,none⟩) 10 10),(9,.pointer (some ⟨s.1,(x1 % 10).toNat,none⟩)),(11,.slice (some ⟨s.2.1,0,none⟩) 4 4),(15,.pointer (some ⟨s.2.1,(x0 % 4).toNat,none⟩)),(3,.pointer (some ⟨s.2.2,0,none⟩))]) (fun s=>RQ W1 (methL.map Value.string) (targL.map Value.string) [.string ⟨#[]⟩,.string ⟨#[]⟩,.slice none 0 0,.slice none 0 0] 25 (some s.1) (some s.2.1) (some s.2.2)) ?_ ?_
        rotate_left
        ·intro hJ0_6_13
         refine join_ (σ:=Nat × Nat) 5 #[qf,qt,qt,qt,qf,qf,qt,qt,qt,qt,qt,qt,qf,qt,qf] (fun s=>[(11,.slice (some ⟨s.1,0,none⟩) 4 4),(15,.pointer (some ⟨s.1,(x0 % 4).toNat,none⟩)),(16,.string tg),(3,.pointer (some ⟨s.2,0,none⟩))]) (fun s=>RQ W1 (methL.map Value.string) (targL.map Value.string) [.string ⟨#[]⟩,.string ⟨#[]⟩,.slice none 0 0,.slice none 0 0] 25 none (some s.1) (some s.2)) ?_ ?_
         rotate_left
         ·intro hJ6_11_13
          refine join_ (σ:=Nat) 6 #[qt,qt,qt,qt,qt,qt,qf,qt,qt,qt,qf,qf,qf,qf,qf] (fun g0=>[(5,.slice (some ⟨g0,0,none⟩) 10 10),(9,.pointer (some ⟨g0,(x1 % 10).toNat,none⟩)),(10,.string m)]) (fun g0=>RQ W1 (methL.map Value.string) (targL.map Value.string) [.string ⟨#[]⟩,.string ⟨#[]⟩,.slice none 0 0,.slice none 0 0] 25 (some g0) none none) ?_ ?_
          rotate_left
          ·intro hJ0_5
           refine join_ (σ:=Nat × Nat) 5 #[qt,qt,qt,qt,qt,qf,qt,qt,qt,qt,qt,qf,qf,qf,qf] (fun s=>[(5,.slice (some ⟨s.1,0,none⟩) 10 10),(9,.pointer (some ⟨s.1,(x1 % 10).toNat,none⟩)),(11,.slice (some ⟨s.2,0,none⟩) 4 4),(15,.pointer (some ⟨s.2,(x0 % 4).toNat,none⟩))]) (fun s=>RQ W1 (methL.map Value.string) (targL.map Value.string) [.string ⟨#[]⟩,.string ⟨#[]⟩,.slice none 0 0,.slice none 0 0] 25 (some s.1) (some s.2) none) ?_ ?_
           rotate_left
           ·intro hJ0_6
            refine join_ (σ:=Nat × Nat) 6 #[qt,qt,qt,qt,qt,qf,qf,qt,qt,qt,qf,qf,qf,qt,qf] (fun s=>[(5,.slice (some ⟨s.1,0,none⟩) 10 10),(9,.pointer (some ⟨s.1,(x1 % 10).toNat,none⟩)),(3,.pointer (some ⟨s.2,0,none⟩))]) (fun s=>RQ W1 (methL.map Value.string) (targL.map Value.string) [.string ⟨#[]⟩,.string ⟨#[]⟩,.slice none 0 0,.slice none 0 0] 25 (some s.1) none (some s.2)) ?_ ?_
            rotate_left
            ·intro hJ0_13
             refine join_ (σ:=Nat) 6 #[qf,qt,qt,qt,qf,qf,qt,qt,qt,qt,qt,qt,qf,qf,qf] (fun g6=>[(11,.slice (some ⟨g6,0,none⟩) 4 4),(15,.pointer (some ⟨g6,(x0 % 4).toNat,none⟩)),(16,.string tg)]) (fun g6=>RQ W1 (methL.map Value.string) (targL.map Value.string) [.string ⟨#[]⟩,.string ⟨#[]⟩,.slice none 0 0,.slice none 0 0] 25 none (some g6) none) ?_ ?_
             rotate_left
             ·intro hJ6_11
              refine join_ (σ:=Nat × Nat) 6 #[qf,qt,qt,qt,qf,qf,qt,qt,qt,qt,qt,qf,qf,qt,qf] (fun s=>[(11,.slice (some ⟨s.1,0,none⟩) 4 4),(15,.pointer (some ⟨s.1,(x0 % 4).toNat,none⟩)),(3,.pointer (some ⟨s.2,0,none⟩))]) (fun s=>RQ W1 (methL.map Value.string) (targL.map Value.string) [.string ⟨#[]⟩,.string ⟨#[]⟩,.slice none 0 0,.slice none 0 0] 25 none (some s.1) (some s.2)) ?_ ?_
              rotate_left
              ·intro hJ6_13
               refine join_ (σ:=Nat) 7 #[qt,qt,qt,qt,qt,qf,qf,qt,qt,qt,qf,qf,qf,qf,qf] (fun g0=>[(5,.slice (some ⟨g0,0,none⟩) 10 10),(9,.pointer (some ⟨g0,(x1 % 10).toNat,none⟩))]) (fun g0=>RQ W1 (methL.map Value.string) (targL.map Value.string) [.string ⟨#[]⟩,.string ⟨#[]⟩,.slice none 0 0,.slice none 0 0] 25 (some g0) none none) ?_ ?_
               rotate_left
               ·intro hJ0
                refine join_ (σ:=Nat) 7 #[qf,qt,qt,qt,qf,qf,qt,qt,qt,qt,qt,qf,qf,qf,qf] (fun g6=>[(11,.slice (some ⟨g6,0,none⟩) 4 4),(15,.pointer (some ⟨g6,(x0 % 4).toNat,none⟩))]) (fun g6=>RQ W1 (methL.map Value.string) (targL.map Value.string) [.string ⟨#[]⟩,.string ⟨#[]⟩,.slice none 0 0,.slice none 0 0] 25 none (some g6) none) ?_ ?_
                rotate_left
                ·intro hJ6
                 refine join_ (σ:=Nat) 8 #[qf,qt,qt,qt,qf,qf,qf,qt,qt,qt,qf,qf,qf,qt,qf] (fun g3=>[(3,.pointer (some ⟨g3,0,none⟩))]) (fun g3=>RQ W1 (methL.map Value.string) (targL.map Value.string) [.string ⟨#[]⟩,.string ⟨#[]⟩,.slice none 0 0,.slice none 0 0] 25 none none (some g3)) ?_ ?_
                 rotate_left
                 ·intro hJ13
                  refine three_ (i:=0) (j:=6) (k:=13) (Ni:=some 5) (Nj:=some 11) (Nk:=some 3) #[qt,qt,qt,qt,qf,qf,qf,qt,qt,qt,qf,qf,qf,qf,qf] #[qf,qt,qt,qt,qf,qf,qt,qt,qt,qt,qf,qf,qf,qf,qf] #[qf,qt,qt,qt,qf,qf,qf,qt,qt,qt,qf,qf,qf,qt,qf] rfl rfl rfl rfl rfl rfl (by kernel_rfl) (by decide) (by decide) (by decide) (fun K hK=>?_) (fun K hK=>?_) (fun K hK=>?_)
                  ·skip
                   refine value_ (w1:=?_) (v:=?_) (by rfl) rfl ?_ ?_
                   rotate_left 2
                   ·go_simp
                    constructor
                    ·rfl
                    ·rfl
                   refine name_K (fun W=>RQ W1 (methL.map Value.string) (targL.map Value.string) [.string ⟨#[]⟩,.string ⟨#[]⟩,.slice none 0 0,.slice none 0 0] 25 (some W1d.heap.size) none none W) HS0.out.litx ?_
                   intro w5 hm
                   have HS0:=mkA hm
                   clear hm
                   refine hK.out _ _ ⟨(blk_cell (blk_below HI.out.1.1 HS0.out.bel) 0),(blk_cell (blk_below HI.out.1.1 HS0.out.bel) 1)⟩ (fun hHeld=>?_)
                   clear hK K
                   refine norm_ (a':=?_) ?_ ?_
                   rotate_left
                   ·show Act.put _ (some 5) _=_
                    simp only [Act.put,sAx,sBx,sCx,i64_w,i32_w]
                    rfl
                   refine pure_ (i:=4) (N:=some 9) (v:=?_) (a':=?_) #[qt,qt,qt,qt,qt,qf,qf,qt,qt,qt,qf,qf,qf,qf,qf] rfl rfl (by kernel_rfl) (fun _ _ _ h=>h) (Or.inl ⟨by rfl,?_⟩) ?_ ?_
                   rotate_left
                   ·intro w'
                    go_simp
                    with_reducible rfl
                   rotate_left
                   ·simp only [Act.put,sAx,sBx,sCx,i64_w,i32_w]
                    rfl
                   exact norm_ (by first|(simp only [putAll,Act.put,sAx,sBx,sCx];done)|(simp only [putAll,Act.put,sAx,sBx,sCx];rfl)) (hJ0 _ _ HS0.out)
                  ·skip
                   refine value_ (w1:=?_) (v:=?_) (by rfl) rfl ?_ ?_
                   rotate_left 2
                   ·go_simp
                    constructor
                    ·rfl
                    ·rfl
                   refine name_K (fun W=>RQ W1 (methL.map Value.string) (targL.map Value.string) [.string ⟨#[]⟩,.string ⟨#[]⟩,.slice none 0 0,.slice none 0 0] 25 none (some W1d.heap.size) none W) HS0.out.lity ?_
                   intro w5 hm
                   have HS0:=mkA hm
                   clear hm
                   refine hK.out _ _ ⟨(blk_cell (blk_below HI.out.1.1 HS0.out.bel) 0),(blk_cell (blk_below HI.out.1.1 HS0.out.bel) 1)⟩ (fun hHeld=>?_)
                   clear hK K
                   refine norm_ (a':=?_) ?_ ?_
                   rotate_left
                   ·show Act.put _ (some 11) _=_
                    simp only [Act.put,sAx,sBx,sCx,i64_w,i32_w]
                    rfl
                   refine pure_ (i:=10) (N:=some 15) (v:=?_) (a':=?_) #[qf,qt,qt,qt,qf,qf,qt,qt,qt,qt,qt,qf,qf,qf,qf] rfl rfl (by kernel_rfl) (fun _ _ _ h=>h) (Or.inl ⟨by rfl,?_⟩) ?_ ?_
                   rotate_left
                   ·intro w'
                    go_simp
                    with_reducible rfl
                   rotate_left
                   ·simp only [Act.put,sAx,sBx,sCx,i64_w,i32_w]
                    rfl
                   exact norm_ (by first|(simp only [putAll,Act.put,sAx,sBx,sCx];done)|(simp only [putAll,Act.put,sAx,sBx,sCx];rfl)) (hJ6 _ _ HS0.out)
                  ·skip
                   refine value_ (w1:=?_) (v:=?_) (by rfl) rfl ?_ ?_
                   rotate_left 2
                   ·go_simp
                    constructor
                    ·rfl
                    ·rfl
                   refine name_K (fun W=>RQ W1 (methL.map Value.string) (targL.map Value.string) [.string ⟨#[]⟩,.string ⟨#[]⟩,.slice none 0 0,.slice none 0 0] 25 none none (some W1d.heap.size) W) HS0.out.litz ?_
                   intro w5 hm
                   have HS0:=mkA hm
                   clear hm
                   refine hK.out _ _ ⟨(blk_cell (blk_below HI.out.1.1 HS0.out.bel) 0),(blk_cell (blk_below HI.out.1.1 HS0.out.bel) 1)⟩ (fun hHeld=>?_)
                   clear hK K
                   refine norm_ (a':=?_) ?_ ?_
                   rotate_left
                   ·show Act.put _ (some 3) _=_
                    simp only [Act.put,sAx,sBx,sCx,i64_w,i32_w]
                    rfl
                   exact norm_ (by first|(simp only [putAll,Act.put,sAx,sBx,sCx];done)|(simp only [putAll,Act.put,sAx,sBx,sCx];rfl)) (hJ13 _ _ HS0.out)
                 ·skip
                  rintro g3 w4 hm
                  have HS0:=mkA (show RQ W1 (methL.map Value.string) (targL.map Value.string) [.string ⟨#[]⟩,.string ⟨#[]⟩,.slice none 0 0,.slice none 0 0] 25 none none (some g3) w4 from hm)
                  clear hm
                  have hHeld:w4.cell? ⟨w.heap.size,0,none⟩=some (.int .u8 x0)∧w4.cell? ⟨w.heap.size,1,none⟩=some (.int .u8 x1):=⟨(blk_cell (blk_below HI.out.1.1 HS0.out.bel) 0),(blk_cell (blk_below HI.out.1.1 HS0.out.bel) 1)⟩
                  refine norm_ (a':=?_) ?_ ?_
                  rotate_left
                  ·simp only [putAll,Act.put,sAx,sBx,sCx]
                   rfl
                  refine two_ (i:=0) (j:=6) (Ni:=some 5) (Nj:=some 11) #[qt,qt,qt,qt,qf,qf,qf,qt,qt,qt,qf,qf,qf,qt,qf] #[qf,qt,qt,qt,qf,qf,qt,qt,qt,qt,qf,qf,qf,qt,qf] rfl rfl rfl rfl (by kernel_rfl) (by decide) (by decide) (fun K hK=>?_) (fun K hK=>?_)
                  ·skip
                   refine value_ (w1:=?_) (v:=?_) (by rfl) rfl ?_ ?_
                   rotate_left 2
                   ·go_simp
                    constructor
                    ·rfl
                    ·rfl
                   refine name_K (fun W=>RQ W1 (methL.map Value.string) (targL.map Value.string) [.string ⟨#[]⟩,.string ⟨#[]⟩,.slice none 0 0,.slice none 0 0] 25 (some w4.heap.size) none (some g3) W) HS0.out.litx ?_
                   intro w5 hm
                   have HS0:=mkA hm
                   clear hm
                   refine hK.out _ _ ⟨(blk_cell (blk_below HI.out.1.1 HS0.out.bel) 0),(blk_cell (blk_below HI.out.1.1 HS0.out.bel) 1)⟩ (fun hHeld=>?_)
                   clear hK K
                   refine norm_ (a':=?_) ?_ ?_
                   rotate_left
                   ·show Act.put _ (some 5) _=_
                    simp only [Act.put,sAx,sBx,sCx,i64_w,i32_w]
                    rfl
                   refine pure_ (i:=4) (N:=some 9) (v:=?_) (a':=?_) #[qt,qt,qt,qt,qt,qf,qf,qt,qt,qt,qf,qf,qf,qt,qf] rfl rfl (by kernel_rfl) (fun _ _ _ h=>h) (Or.inl ⟨by rfl,?_⟩) ?_ ?_
                   rotate_left
                   ·intro w'
                    go_simp
                    with_reducible rfl
                   rotate_left
                   ·simp only [Act.put,sAx,sBx,sCx,i64_w,i32_w]
                    rfl
                   exact norm_ (by first|(simp only [putAll,Act.put,sAx,sBx,sCx];done)|(simp only [putAll,Act.put,sAx,sBx,sCx];rfl)) (hJ0_13 (_,g3) _ HS0.out)
                  ·skip
                   refine value_ (w1:=?_) (v:=?_) (by rfl) rfl ?_ ?_
                   rotate_left 2
                   ·go_simp
                    constructor
                    ·rfl
                    ·rfl
                   refine name_K (fun W=>RQ W1 (methL.map Value.string) (targL.map Value.string) [.string ⟨#[]⟩,.string ⟨#[]⟩,.slice none 0 0,.slice none 0 0] 25 none (some w4.heap.size) (some g3) W) HS0.out.lity ?_
                   intro w5 hm
                   have HS0:=mkA hm
                   clear hm
                   refine hK.out _ _ ⟨(blk_cell (blk_below HI.out.1.1 HS0.out.bel) 0),(blk_cell (blk_below HI.out.1.1 HS0.out.bel) 1)⟩ (fun hHeld=>?_)
                   clear hK K
                   refine norm_ (a':=?_) ?_ ?_
                   rotate_left
                   ·show Act.put _ (some 11) _=_
                    simp only [Act.put,sAx,sBx,sCx,i64_w,i32_w]
                    rfl
                   refine pure_ (i:=10) (N:=some 15) (v:=?_) (a':=?_) #[qf,qt,qt,qt,qf,qf,qt,qt,qt,qt,qt,qf,qf,qt,qf] rfl rfl (by kernel_rfl) (fun _ _ _ h=>h) (Or.inl ⟨by rfl,?_⟩) ?_ ?_
                   rotate_left
                   ·intro w'
                    go_simp
                    with_reducible rfl
                   rotate_left
                   ·simp only [Act.put,sAx,sBx,sCx,i64_w,i32_w]
                    rfl
                   exact norm_ (by first|(simp only [putAll,Act.put,sAx,sBx,sCx];done)|(simp only [putAll,Act.put,sAx,sBx,sCx];rfl)) (hJ6_13 (_,g3) _ HS0.out)
                ·skip
                 rintro g6 w4 hm
                 have HS0:=mkA (show RQ W1 (methL.map Value.string) (targL.map Value.string) [.string ⟨#[]⟩,.string ⟨#[]⟩,.slice none 0 0,.slice none 0 0] 25 none (some g6) none w4 from hm)
                 clear hm
                 have hHeld:w4.cell? ⟨w.heap.size,0,none⟩=some (.int .u8 x0)∧w4.cell? ⟨w.heap.size,1,none⟩=some (.int .u8 x1):=⟨(blk_cell (blk_below HI.out.1.1 HS0.out.bel) 0),(blk_cell (blk_below HI.out.1.1 HS0.out.bel) 1)⟩
                 refine norm_ (a':=?_) ?_ ?_
                 rotate_left
                 ·simp only [putAll,Act.put,sAx,sBx,sCx]
                  rfl
                 refine three_ (i:=0) (j:=11) (k:=13) (Ni:=some 5) (Nj:=some 16) (Nk:=some 3) #[qt,qt,qt,qt,qf,qf,qt,qt,qt,qt,qt,qf,qf,qf,qf] #[qf,qt,qt,qt,qf,qf,qt,qt,qt,qt,qt,qt,qf,qf,qf] #[qf,qt,qt,qt,qf,qf,qt,qt,qt,qt,qt,qf,qf,qt,qf] rfl rfl rfl rfl rfl rfl (by kernel_rfl) (by decide) (by decide) (by decide) (fun K hK=>?_) (fun K hK=>?_) (fun K hK=>?_)
                 ·skip
                  refine value_ (w1:=?_) (v:=?_) (by rfl) rfl ?_ ?_
                  rotate_left 2
                  ·go_simp
                   constructor
                   ·rfl
                   ·rfl
                  refine name_K (fun W=>RQ W1 (methL.map Value.string) (targL.map Value.string) [.string ⟨#[]⟩,.string ⟨#[]⟩,.slice none 0 0,.slice none 0 0] 25 (some w4.heap.size) (some g6) none W) HS0.out.litx ?_
                  intro w5 hm
                  have HS0:=mkA hm
                  clear hm
                  refine hK.out _ _ ⟨(blk_cell (blk_below HI.out.1.1 HS0.out.bel) 0),(blk_cell (blk_below HI.out.1.1 HS0.out.bel) 1)⟩ (fun hHeld=>?_)
                  clear hK K
                  refine norm_ (a':=?_) ?_ ?_
                  rotate_left
                  ·show Act.put _ (some 5) _=_
                   simp only [Act.put,sAx,sBx,sCx,i64_w,i32_w]
                   rfl
                  refine pure_ (i:=4) (N:=some 9) (v:=?_) (a':=?_) #[qt,qt,qt,qt,qt,qf,qt,qt,qt,qt,qt,qf,qf,qf,qf] rfl rfl (by kernel_rfl) (fun _ _ _ h=>h) (Or.inl ⟨by rfl,?_⟩) ?_ ?_
                  rotate_left
                  ·intro w'
                   go_simp
                   with_reducible rfl
                  rotate_left
                  ·simp only [Act.put,sAx,sBx,sCx,i64_w,i32_w]
                   rfl
                  exact norm_ (by first|(simp only [putAll,Act.put,sAx,sBx,sCx];done)|(simp only [putAll,Act.put,sAx,sBx,sCx];rfl)) (hJ0_6 (_,g6) _ HS0.out)
                 ·skip
                  have hl:w4.cell? ⟨g6,(x0 % 4).toNat,none⟩=some (.string tg):=by rw [HTG.out];exact row_str (HS0.out.hy _ rfl) _ _ HB1.out.1 HB1.out.2
                  refine value_ (w1:=?_) (v:=?_) (by rfl) rfl ?_ ?_
                  rotate_left 2
                  ·go_simp
                   constructor
                   ·rfl
                   ·rfl
                  clear hl
                  refine hK.out _ _ ⟨(blk_cell (blk_below HI.out.1.1 HS0.out.bel) 0),(blk_cell (blk_below HI.out.1.1 HS0.out.bel) 1)⟩ (fun hHeld=>?_)
                  clear hK K
                  refine norm_ (a':=?_) ?_ ?_
                  rotate_left
                  ·show Act.put _ (some 16) _=_
                   simp only [Act.put,sAx,sBx,sCx,i64_w,i32_w]
                   rfl
                  exact norm_ (by first|(simp only [putAll,Act.put,sAx,sBx,sCx];done)|(simp only [putAll,Act.put,sAx,sBx,sCx];rfl)) (hJ6_11 g6 _ HS0.out)
                 ·skip
                  refine value_ (w1:=?_) (v:=?_) (by rfl) rfl ?_ ?_
                  rotate_left 2
                  ·go_simp
                   constructor
                   ·rfl
                   ·rfl
                  refine name_K (fun W=>RQ W1 (methL.map Value.string) (targL.map Value.string) [.string ⟨#[]⟩,.string ⟨#[]⟩,.slice none 0 0,.slice none 0 0] 25 none (some g6) (some w4.heap.size) W) HS0.out.litz ?_
                  intro w5 hm
                  have HS0:=mkA hm
                  clear hm
                  refine hK.out _ _ ⟨(blk_cell (blk_below HI.out.1.1 HS0.out.bel) 0),(blk_cell (blk_below HI.out.1.1 HS0.out.bel) 1)⟩ (fun hHeld=>?_)
                  clear hK K
                  refine norm_ (a':=?_) ?_ ?_
                  rotate_left
                  ·show Act.put _ (some 3) _=_
                   simp only [Act.put,sAx,sBx,sCx,i64_w,i32_w]
                   rfl
                  exact norm_ (by first|(simp only [putAll,Act.put,sAx,sBx,sCx];done)|(simp only [putAll,Act.put,sAx,sBx,sCx];rfl)) (hJ6_13 (g6,_) _ HS0.out)
               ·skip
                rintro g0 w4 hm
                have HS0:=mkA (show RQ W1 (methL.map Value.string) (targL.map Value.string) [.string ⟨#[]⟩,.string ⟨#[]⟩,.slice none 0 0,.slice none 0 0] 25 (some g0) none none w4 from hm)
                clear hm
                have hHeld:w4.cell? ⟨w.heap.size,0,none⟩=some (.int .u8 x0)∧w4.cell? ⟨w.heap.size,1,none⟩=some (.int .u8 x1):=⟨(blk_cell (blk_below HI.out.1.1 HS0.out.bel) 0),(blk_cell (blk_below HI.out.1.1 HS0.out.bel) 1)⟩
                refine norm_ (a':=?_) ?_ ?_
                rotate_left
                ·simp only [putAll,Act.put,sAx,sBx,sCx]
                 rfl
                refine three_ (i:=5) (j:=6) (k:=13) (Ni:=some 10) (Nj:=some 11) (Nk:=some 3) #[qt,qt,qt,qt,qt,qt,qf,qt,qt,qt,qf,qf,qf,qf,qf] #[qt,qt,qt,qt,qt,qf,qt,qt,qt,qt,qf,qf,qf,qf,qf] #[qt,qt,qt,qt,qt,qf,qf,qt,qt,qt,qf,qf,qf,qt,qf] rfl rfl rfl rfl rfl rfl (by kernel_rfl) (by decide) (by decide) (by decide) (fun K hK=>?_) (fun K hK=>?_) (fun K hK=>?_)
                ·skip
                 have hl:w4.cell? ⟨g0,(x1 % 10).toNat,none⟩=some (.string m):=by rw [HM.out];exact row_str (HS0.out.hx _ rfl) _ _ HB0.out.1 HB0.out.2
                 refine value_ (w1:=?_) (v:=?_) (by rfl) rfl ?_ ?_
                 rotate_left 2
                 ·go_simp
                  constructor
                  ·rfl
                  ·rfl
                 clear hl
                 refine hK.out _ _ ⟨(blk_cell (blk_below HI.out.1.1 HS0.out.bel) 0),(blk_cell (blk_below HI.out.1.1 HS0.out.bel) 1)⟩ (fun hHeld=>?_)
                 clear hK K
                 refine norm_ (a':=?_) ?_ ?_
                 rotate_left
                 ·show Act.put _ (some 10) _=_
                  simp only [Act.put,sAx,sBx,sCx,i64_w,i32_w]
                  rfl
                 exact norm_ (by first|(simp only [putAll,Act.put,sAx,sBx,sCx];done)|(simp only [putAll,Act.put,sAx,sBx,sCx];rfl)) (hJ0_5 g0 _ HS0.out)
                ·skip
                 refine value_ (w1:=?_) (v:=?_) (by rfl) rfl ?_ ?_
                 rotate_left 2
                 ·go_simp
                  constructor
                  ·rfl
                  ·rfl
                 refine name_K (fun W=>RQ W1 (methL.map Value.string) (targL.map Value.string) [.string ⟨#[]⟩,.string ⟨#[]⟩,.slice none 0 0,.slice none 0 0] 25 (some g0) (some w4.heap.size) none W) HS0.out.lity ?_
                 intro w5 hm
                 have HS0:=mkA hm
                 clear hm
                 refine hK.out _ _ ⟨(blk_cell (blk_below HI.out.1.1 HS0.out.bel) 0),(blk_cell (blk_below HI.out.1.1 HS0.out.bel) 1)⟩ (fun hHeld=>?_)
                 clear hK K
                 refine norm_ (a':=?_) ?_ ?_
                 rotate_left
                 ·show Act.put _ (some 11) _=_
                  simp only [Act.put,sAx,sBx,sCx,i64_w,i32_w]
                  rfl
                 refine pure_ (i:=10) (N:=some 15) (v:=?_) (a':=?_) #[qt,qt,qt,qt,qt,qf,qt,qt,qt,qt,qt,qf,qf,qf,qf] rfl rfl (by kernel_rfl) (fun _ _ _ h=>h) (Or.inl ⟨by rfl,?_⟩) ?_ ?_
                 rotate_left
                 ·intro w'
                  go_simp
                  with_reducible rfl
                 rotate_left
                 ·simp only [Act.put,sAx,sBx,sCx,i64_w,i32_w]
                  rfl
                 exact norm_ (by first|(simp only [putAll,Act.put,sAx,sBx,sCx];done)|(simp only [putAll,Act.put,sAx,sBx,sCx];rfl)) (hJ0_6 (g0,_) _ HS0.out)
                ·skip
                 refine value_ (w1:=?_) (v:=?_) (by rfl) rfl ?_ ?_
                 rotate_left 2
                 ·go_simp
                  constructor
                  ·rfl
                  ·rfl
                 refine name_K (fun W=>RQ W1 (methL.map Value.string) (targL.map Value.string) [.string ⟨#[]⟩,.string ⟨#[]⟩,.slice none 0 0,.slice none 0 0] 25 (some g0) none (some w4.heap.size) W) HS0.out.litz ?_
                 intro w5 hm
                 have HS0:=mkA hm
                 clear hm
                 refine hK.out _ _ ⟨(blk_cell (blk_below HI.out.1.1 HS0.out.bel) 0),(blk_cell (blk_below HI.out.1.1 HS0.out.bel) 1)⟩ (fun hHeld=>?_)
                 clear hK K
                 refine norm_ (a':=?_) ?_ ?_
                 rotate_left
                 ·show Act.put _ (some 3) _=_
                  simp only [Act.put,sAx,sBx,sCx,i64_w,i32_w]
                  rfl
                 exact norm_ (by first|(simp only [putAll,Act.put,sAx,sBx,sCx];done)|(simp only [putAll,Act.put,sAx,sBx,sCx];rfl)) (hJ0_13 (g0,_) _ HS0.out)
              ·skip
               rintro ⟨g6,g3⟩ w4 hm
               have HS0:=mkA (show RQ W1 (methL.map Value.string) (targL.map Value.string) [.string ⟨#[]⟩,.string ⟨#[]⟩,.slice none 0 0,.slice none 0 0] 25 none (some g6) (some g3) w4 from hm)
               clear hm
               have hHeld:w4.cell? ⟨w.heap.size,0,none⟩=some (.int .u8 x0)∧w4.cell? ⟨w.heap.size,1,none⟩=some (.int .u8 x1):=⟨(blk_cell (blk_below HI.out.1.1 HS0.out.bel) 0),(blk_cell (blk_below HI.out.1.1 HS0.out.bel) 1)⟩
               refine norm_ (a':=?_) ?_ ?_
               rotate_left
               ·simp only [putAll,Act.put,sAx,sBx,sCx]
                rfl
               refine two_ (i:=0) (j:=11) (Ni:=some 5) (Nj:=some 16) #[qt,qt,qt,qt,qf,qf,qt,qt,qt,qt,qt,qf,qf,qt,qf] #[qf,qt,qt,qt,qf,qf,qt,qt,qt,qt,qt,qt,qf,qt,qf] rfl rfl rfl rfl (by kernel_rfl) (by decide) (by decide) (fun K hK=>?_) (fun K hK=>?_)
               ·skip
                refine value_ (w1:=?_) (v:=?_) (by rfl) rfl ?_ ?_
                rotate_left 2
                ·go_simp
                 constructor
                 ·rfl
                 ·rfl
                refine name_K (fun W=>RQ W1 (methL.map Value.string) (targL.map Value.string) [.string ⟨#[]⟩,.string ⟨#[]⟩,.slice none 0 0,.slice none 0 0] 25 (some w4.heap.size) (some g6) (some g3) W) HS0.out.litx ?_
                intro w5 hm
                have HS0:=mkA hm
                clear hm
                refine hK.out _ _ ⟨(blk_cell (blk_below HI.out.1.1 HS0.out.bel) 0),(blk_cell (blk_below HI.out.1.1 HS0.out.bel) 1)⟩ (fun hHeld=>?_)
                clear hK K
                refine norm_ (a':=?_) ?_ ?_
                rotate_left
                ·show Act.put _ (some 5) _=_
                 simp only [Act.put,sAx,sBx,sCx,i64_w,i32_w]
                 rfl
                refine pure_ (i:=4) (N:=some 9) (v:=?_) (a':=?_) #[qt,qt,qt,qt,qt,qf,qt,qt,qt,qt,qt,qf,qf,qt,qf] rfl rfl (by kernel_rfl) (fun _ _ _ h=>h) (Or.inl ⟨by rfl,?_⟩) ?_ ?_
                rotate_left
                ·intro w'
                 go_simp
                 with_reducible rfl
                rotate_left
                ·simp only [Act.put,sAx,sBx,sCx,i64_w,i32_w]
                 rfl
                exact norm_ (by first|(simp only [putAll,Act.put,sAx,sBx,sCx];done)|(simp only [putAll,Act.put,sAx,sBx,sCx];rfl)) (hJ0_6_13 (_,g6,g3) _ HS0.out)
               ·skip
                have hl:w4.cell? ⟨g6,(x0 % 4).toNat,none⟩=some (.string tg):=by rw [HTG.out];exact row_str (HS0.out.hy _ rfl) _ _ HB1.out.1 HB1.out.2
                refine value_ (w1:=?_) (v:=?_) (by rfl) rfl ?_ ?_
                rotate_left 2
                ·go_simp
                 constructor
                 ·rfl
                 ·rfl
                clear hl
                refine hK.out _ _ ⟨(blk_cell (blk_below HI.out.1.1 HS0.out.bel) 0),(blk_cell (blk_below HI.out.1.1 HS0.out.bel) 1)⟩ (fun hHeld=>?_)
                clear hK K
                refine norm_ (a':=?_) ?_ ?_
                rotate_left
                ·show Act.put _ (some 16) _=_
                 simp only [Act.put,sAx,sBx,sCx,i64_w,i32_w]
                 rfl
                exact norm_ (by first|(simp only [putAll,Act.put,sAx,sBx,sCx];done)|(simp only [putAll,Act.put,sAx,sBx,sCx];rfl)) (hJ6_11_13 (g6,g3) _ HS0.out)
             ·skip
              rintro g6 w4 hm
              have HS0:=mkA (show RQ W1 (methL.map Value.string) (targL.map Value.string) [.string ⟨#[]⟩,.string ⟨#[]⟩,.slice none 0 0,.slice none 0 0] 25 none (some g6) none w4 from hm)
              clear hm
              have hHeld:w4.cell? ⟨w.heap.size,0,none⟩=some (.int .u8 x0)∧w4.cell? ⟨w.heap.size,1,none⟩=some (.int .u8 x1):=⟨(blk_cell (blk_below HI.out.1.1 HS0.out.bel) 0),(blk_cell (blk_below HI.out.1.1 HS0.out.bel) 1)⟩
              refine norm_ (a':=?_) ?_ ?_
              rotate_left
              ·simp only [putAll,Act.put,sAx,sBx,sCx]
               rfl
              refine two_ (i:=0) (j:=13) (Ni:=some 5) (Nj:=some 3) #[qt,qt,qt,qt,qf,qf,qt,qt,qt,qt,qt,qt,qf,qf,qf] #[qf,qt,qt,qt,qf,qf,qt,qt,qt,qt,qt,qt,qf,qt,qf] rfl rfl rfl rfl (by kernel_rfl) (by decide) (by decide) (fun K hK=>?_) (fun K hK=>?_)
              ·skip
               refine value_ (w1:=?_) (v:=?_) (by rfl) rfl ?_ ?_
               rotate_left 2
               ·go_simp
                constructor
                ·rfl
                ·rfl
               refine name_K (fun W=>RQ W1 (methL.map Value.string) (targL.map Value.string) [.string ⟨#[]⟩,.string ⟨#[]⟩,.slice none 0 0,.slice none 0 0] 25 (some w4.heap.size) (some g6) none W) HS0.out.litx ?_
               intro w5 hm
               have HS0:=mkA hm
               clear hm
               refine hK.out _ _ ⟨(blk_cell (blk_below HI.out.1.1 HS0.out.bel) 0),(blk_cell (blk_below HI.out.1.1 HS0.out.bel) 1)⟩ (fun hHeld=>?_)
               clear hK K
               refine norm_ (a':=?_) ?_ ?_
               rotate_left
               ·show Act.put _ (some 5) _=_
                simp only [Act.put,sAx,sBx,sCx,i64_w,i32_w]
                rfl
               refine pure_ (i:=4) (N:=some 9) (v:=?_) (a':=?_) #[qt,qt,qt,qt,qt,qf,qt,qt,qt,qt,qt,qt,qf,qf,qf] rfl rfl (by kernel_rfl) (fun _ _ _ h=>h) (Or.inl ⟨by rfl,?_⟩) ?_ ?_
               rotate_left
               ·intro w'
                go_simp
                with_reducible rfl
               rotate_left
               ·simp only [Act.put,sAx,sBx,sCx,i64_w,i32_w]
                rfl
               exact norm_ (by first|(simp only [putAll,Act.put,sAx,sBx,sCx];done)|(simp only [putAll,Act.put,sAx,sBx,sCx];rfl)) (hJ0_6_11 (_,g6) _ HS0.out)
              ·skip
               refine value_ (w1:=?_) (v:=?_) (by rfl) rfl ?_ ?_
               rotate_left 2
               ·go_simp
                constructor
                ·rfl
                ·rfl
               refine name_K (fun W=>RQ W1 (methL.map Value.string) (targL.map Value.string) [.string ⟨#[]⟩,.string ⟨#[]⟩,.slice none 0 0,.slice none 0 0] 25 none (some g6) (some w4.heap.size) W) HS0.out.litz ?_
               intro w5 hm
               have HS0:=mkA hm
               clear hm
               refine hK.out _ _ ⟨(blk_cell (blk_below HI.out.1.1 HS0.out.bel) 0),(blk_cell (blk_below HI.out.1.1 HS0.out.bel) 1)⟩ (fun hHeld=>?_)
               clear hK K
               refine norm_ (a':=?_) ?_ ?_
               rotate_left
               ·show Act.put _ (some 3) _=_
                simp only [Act.put,sAx,sBx,sCx,i64_w,i32_w]
                rfl
               exact norm_ (by first|(simp only [putAll,Act.put,sAx,sBx,sCx];done)|(simp only [putAll,Act.put,sAx,sBx,sCx];rfl)) (hJ6_11_13 (g6,_) _ HS0.out)
            ·skip
             rintro ⟨g0,g3⟩ w4 hm
             have HS0:=mkA (show RQ W1 (methL.map Value.string) (targL.map Value.string) [.string ⟨#[]⟩,.string ⟨#[]⟩,.slice none 0 0,.slice none 0 0] 25 (some g0) none (some g3) w4 from hm)
             clear hm
             have hHeld:w4.cell? ⟨w.heap.size,0,none⟩=some (.int .u8 x0)∧w4.cell? ⟨w.heap.size,1,none⟩=some (.int .u8 x1):=⟨(blk_cell (blk_below HI.out.1.1 HS0.out.bel) 0),(blk_cell (blk_below HI.out.1.1 HS0.out.bel) 1)⟩
             refine norm_ (a':=?_) ?_ ?_
             rotate_left
             ·simp only [putAll,Act.put,sAx,sBx,sCx]
              rfl
             refine two_ (i:=5) (j:=6) (Ni:=some 10) (Nj:=some 11) #[qt,qt,qt,qt,qt,qt,qf,qt,qt,qt,qf,qf,qf,qt,qf] #[qt,qt,qt,qt,qt,qf,qt,qt,qt,qt,qf,qf,qf,qt,qf] rfl rfl rfl rfl (by kernel_rfl) (by decide) (by decide) (fun K hK=>?_) (fun K hK=>?_)
             ·skip
              have hl:w4.cell? ⟨g0,(x1 % 10).toNat,none⟩=some (.string m):=by rw [HM.out];exact row_str (HS0.out.hx _ rfl) _ _ HB0.out.1 HB0.out.2
              refine value_ (w1:=?_) (v:=?_) (by rfl) rfl ?_ ?_
              rotate_left 2
              ·go_simp
               constructor
               ·rfl
               ·rfl
              clear hl
              refine hK.out _ _ ⟨(blk_cell (blk_below HI.out.1.1 HS0.out.bel) 0),(blk_cell (blk_below HI.out.1.1 HS0.out.bel) 1)⟩ (fun hHeld=>?_)
              clear hK K
              refine norm_ (a':=?_) ?_ ?_
              rotate_left
              ·show Act.put _ (some 10) _=_
               simp only [Act.put,sAx,sBx,sCx,i64_w,i32_w]
               rfl
              exact norm_ (by first|(simp only [putAll,Act.put,sAx,sBx,sCx];done)|(simp only [putAll,Act.put,sAx,sBx,sCx];rfl)) (hJ0_5_13 (g0,g3) _ HS0.out)
             ·skip
              refine value_ (w1:=?_) (v:=?_) (by rfl) rfl ?_ ?_
              rotate_left 2
              ·go_simp
               constructor
               ·rfl
               ·rfl
              refine name_K (fun W=>RQ W1 (methL.map Value.string) (targL.map Value.string) [.string ⟨#[]⟩,.string ⟨#[]⟩,.slice none 0 0,.slice none 0 0] 25 (some g0) (some w4.heap.size) (some g3) W) HS0.out.lity ?_
              intro w5 hm
              have HS0:=mkA hm
              clear hm
              refine hK.out _ _ ⟨(blk_cell (blk_below HI.out.1.1 HS0.out.bel) 0),(blk_cell (blk_below HI.out.1.1 HS0.out.bel) 1)⟩ (fun hHeld=>?_)
              clear hK K
              refine norm_ (a':=?_) ?_ ?_
              rotate_left
              ·show Act.put _ (some 11) _=_
               simp only [Act.put,sAx,sBx,sCx,i64_w,i32_w]
               rfl
              refine pure_ (i:=10) (N:=some 15) (v:=?_) (a':=?_) #[qt,qt,qt,qt,qt,qf,qt,qt,qt,qt,qt,qf,qf,qt,qf] rfl rfl (by kernel_rfl) (fun _ _ _ h=>h) (Or.inl ⟨by rfl,?_⟩) ?_ ?_
              rotate_left
              ·intro w'
               go_simp
               with_reducible rfl
              rotate_left
              ·simp only [Act.put,sAx,sBx,sCx,i64_w,i32_w]
               rfl
              exact norm_ (by first|(simp only [putAll,Act.put,sAx,sBx,sCx];done)|(simp only [putAll,Act.put,sAx,sBx,sCx];rfl)) (hJ0_6_13 (g0,_,g3) _ HS0.out)
           ·skip
            rintro ⟨g0,g6⟩ w4 hm
            have HS0:=mkA (show RQ W1 (methL.map Value.string) (targL.map Value.string) [.string ⟨#[]⟩,.string ⟨#[]⟩,.slice none 0 0,.slice none 0 0] 25 (some g0) (some g6) none w4 from hm)
            clear hm
            have hHeld:w4.cell? ⟨w.heap.size,0,none⟩=some (.int .u8 x0)∧w4.cell? ⟨w.heap.size,1,none⟩=some (.int .u8 x1):=⟨(blk_cell (blk_below HI.out.1.1 HS0.out.bel) 0),(blk_cell (blk_below HI.out.1.1 HS0.out.bel) 1)⟩
            refine norm_ (a':=?_) ?_ ?_
            rotate_left
            ·simp only [putAll,Act.put,sAx,sBx,sCx]
             rfl
            refine three_ (i:=5) (j:=11) (k:=13) (Ni:=some 10) (Nj:=some 16) (Nk:=some 3) #[qt,qt,qt,qt,qt,qt,qt,qt,qt,qt,qt,qf,qf,qf,qf] #[qt,qt,qt,qt,qt,qf,qt,qt,qt,qt,qt,qt,qf,qf,qf] #[qt,qt,qt,qt,qt,qf,qt,qt,qt,qt,qt,qf,qf,qt,qf] rfl rfl rfl rfl rfl rfl (by kernel_rfl) (by decide) (by decide) (by decide) (fun K hK=>?_) (fun K hK=>?_) (fun K hK=>?_)
            ·skip
             have hl:w4.cell? ⟨g0,(x1 % 10).toNat,none⟩=some (.string m):=by rw [HM.out];exact row_str (HS0.out.hx _ rfl) _ _ HB0.out.1 HB0.out.2
             refine value_ (w1:=?_) (v:=?_) (by rfl) rfl ?_ ?_
             rotate_left 2
             ·go_simp
              constructor
              ·rfl
              ·rfl
             clear hl
             refine hK.out _ _ ⟨(blk_cell (blk_below HI.out.1.1 HS0.out.bel) 0),(blk_cell (blk_below HI.out.1.1 HS0.out.bel) 1)⟩ (fun hHeld=>?_)
             clear hK K
             refine norm_ (a':=?_) ?_ ?_
             rotate_left
             ·show Act.put _ (some 10) _=_
              simp only [Act.put,sAx,sBx,sCx,i64_w,i32_w]
              rfl
             exact norm_ (by first|(simp only [putAll,Act.put,sAx,sBx,sCx];done)|(simp only [putAll,Act.put,sAx,sBx,sCx];rfl)) (hJ0_5_6 (g0,g6) _ HS0.out)
            ·skip
             have hl:w4.cell? ⟨g6,(x0 % 4).toNat,none⟩=some (.string tg):=by rw [HTG.out];exact row_str (HS0.out.hy _ rfl) _ _ HB1.out.1 HB1.out.2
             refine value_ (w1:=?_) (v:=?_) (by rfl) rfl ?_ ?_
             rotate_left 2
             ·go_simp
              constructor
              ·rfl
              ·rfl
             clear hl
             refine hK.out _ _ ⟨(blk_cell (blk_below HI.out.1.1 HS0.out.bel) 0),(blk_cell (blk_below HI.out.1.1 HS0.out.bel) 1)⟩ (fun hHeld=>?_)
             clear hK K
             refine norm_ (a':=?_) ?_ ?_
             rotate_left
             ·show Act.put _ (some 16) _=_
              simp only [Act.put,sAx,sBx,sCx,i64_w,i32_w]
              rfl
             exact norm_ (by first|(simp only [putAll,Act.put,sAx,sBx,sCx];done)|(simp only [putAll,Act.put,sAx,sBx,sCx];rfl)) (hJ0_6_11 (g0,g6) _ HS0.out)
            ·skip
             refine value_ (w1:=?_) (v:=?_) (by rfl) rfl ?_ ?_
             rotate_left 2
             ·go_simp
              constructor
              ·rfl
              ·rfl
             refine name_K (fun W=>RQ W1 (methL.map Value.string) (targL.map Value.string) [.string ⟨#[]⟩,.string ⟨#[]⟩,.slice none 0 0,.slice none 0 0] 25 (some g0) (some g6) (some w4.heap.size) W) HS0.out.litz ?_
             intro w5 hm
             have HS0:=mkA hm
             clear hm
             refine hK.out _ _ ⟨(blk_cell (blk_below HI.out.1.1 HS0.out.bel) 0),(blk_cell (blk_below HI.out.1.1 HS0.out.bel) 1)⟩ (fun hHeld=>?_)
             clear hK K
             refine norm_ (a':=?_) ?_ ?_
             rotate_left
             ·show Act.put _ (some 3) _=_
              simp only [Act.put,sAx,sBx,sCx,i64_w,i32_w]
              rfl
             exact norm_ (by first|(simp only [putAll,Act.put,sAx,sBx,sCx];done)|(simp only [putAll,Act.put,sAx,sBx,sCx];rfl)) (hJ0_6_13 (g0,g6,_) _ HS0.out)
          ·skip
           rintro g0 w4 hm
           have HS0:=mkA (show RQ W1 (methL.map Value.string) (targL.map Value.string) [.string ⟨#[]⟩,.string ⟨#[]⟩,.slice none 0 0,.slice none 0 0] 25 (some g0) none none w4 from hm)
           clear hm
           have hHeld:w4.cell? ⟨w.heap.size,0,none⟩=some (.int .u8 x0)∧w4.cell? ⟨w.heap.size,1,none⟩=some (.int .u8 x1):=⟨(blk_cell (blk_below HI.out.1.1 HS0.out.bel) 0),(blk_cell (blk_below HI.out.1.1 HS0.out.bel) 1)⟩
           refine norm_ (a':=?_) ?_ ?_
           rotate_left
           ·simp only [putAll,Act.put,sAx,sBx,sCx]
            rfl
           refine two_ (i:=6) (j:=13) (Ni:=some 11) (Nj:=some 3) #[qt,qt,qt,qt,qt,qt,qt,qt,qt,qt,qf,qf,qf,qf,qf] #[qt,qt,qt,qt,qt,qt,qf,qt,qt,qt,qf,qf,qf,qt,qf] rfl rfl rfl rfl (by kernel_rfl) (by decide) (by decide) (fun K hK=>?_) (fun K hK=>?_)
           ·skip
            refine value_ (w1:=?_) (v:=?_) (by rfl) rfl ?_ ?_
            rotate_left 2
            ·go_simp
             constructor
             ·rfl
             ·rfl
            refine name_K (fun W=>RQ W1 (methL.map Value.string) (targL.map Value.string) [.string ⟨#[]⟩,.string ⟨#[]⟩,.slice none 0 0,.slice none 0 0] 25 (some g0) (some w4.heap.size) none W) HS0.out.lity ?_
            intro w5 hm
            have HS0:=mkA hm
            clear hm
            refine hK.out _ _ ⟨(blk_cell (blk_below HI.out.1.1 HS0.out.bel) 0),(blk_cell (blk_below HI.out.1.1 HS0.out.bel) 1)⟩ (fun hHeld=>?_)
            clear hK K
            refine norm_ (a':=?_) ?_ ?_
            rotate_left
            ·show Act.put _ (some 11) _=_
             simp only [Act.put,sAx,sBx,sCx,i64_w,i32_w]
             rfl
            refine pure_ (i:=10) (N:=some 15) (v:=?_) (a':=?_) #[qt,qt,qt,qt,qt,qt,qt,qt,qt,qt,qt,qf,qf,qf,qf] rfl rfl (by kernel_rfl) (fun _ _ _ h=>h) (Or.inl ⟨by rfl,?_⟩) ?_ ?_
            rotate_left
            ·intro w'
             go_simp
             with_reducible rfl
            rotate_left
            ·simp only [Act.put,sAx,sBx,sCx,i64_w,i32_w]
             rfl
            exact norm_ (by first|(simp only [putAll,Act.put,sAx,sBx,sCx];done)|(simp only [putAll,Act.put,sAx,sBx,sCx];rfl)) (hJ0_5_6 (g0,_) _ HS0.out)
           ·skip
            refine value_ (w1:=?_) (v:=?_) (by rfl) rfl ?_ ?_
            rotate_left 2
            ·go_simp
             constructor
             ·rfl
             ·rfl
            refine name_K (fun W=>RQ W1 (methL.map Value.string) (targL.map Value.string) [.string ⟨#[]⟩,.string ⟨#[]⟩,.slice none 0 0,.slice none 0 0] 25 (some g0) none (some w4.heap.size) W) HS0.out.litz ?_
            intro w5 hm
            have HS0:=mkA hm
            clear hm
            refine hK.out _ _ ⟨(blk_cell (blk_below HI.out.1.1 HS0.out.bel) 0),(blk_cell (blk_below HI.out.1.1 HS0.out.bel) 1)⟩ (fun hHeld=>?_)
            clear hK K
            refine norm_ (a':=?_) ?_ ?_
            rotate_left
            ·show Act.put _ (some 3) _=_
             simp only [Act.put,sAx,sBx,sCx,i64_w,i32_w]
             rfl
            exact norm_ (by first|(simp only [putAll,Act.put,sAx,sBx,sCx];done)|(simp only [putAll,Act.put,sAx,sBx,sCx];rfl)) (hJ0_5_13 (g0,_) _ HS0.out)
         ·skip
          rintro ⟨g6,g3⟩ w4 hm
          have HS0:=mkA (show RQ W1 (methL.map Value.string) (targL.map Value.string) [.string ⟨#[]⟩,.string ⟨#[]⟩,.slice none 0 0,.slice none 0 0] 25 none (some g6) (some g3) w4 from hm)
          clear hm
          have hHeld:w4.cell? ⟨w.heap.size,0,none⟩=some (.int .u8 x0)∧w4.cell? ⟨w.heap.size,1,none⟩=some (.int .u8 x1):=⟨(blk_cell (blk_below HI.out.1.1 HS0.out.bel) 0),(blk_cell (blk_below HI.out.1.1 HS0.out.bel) 1)⟩
          refine norm_ (a':=?_) ?_ ?_
          rotate_left
          ·simp only [putAll,Act.put,sAx,sBx,sCx]
           rfl
          refine one_ (i:=0) (N:=some 5) #[qt,qt,qt,qt,qf,qf,qt,qt,qt,qt,qt,qt,qf,qt,qf] rfl rfl (by kernel_rfl) (by decide) (fun K hK=>?_)
          refine value_ (w1:=?_) (v:=?_) (by rfl) rfl ?_ ?_
          rotate_left 2
          ·go_simp
           constructor
           ·rfl
           ·rfl
          refine name_K (fun W=>RQ W1 (methL.map Value.string) (targL.map Value.string) [.string ⟨#[]⟩,.string ⟨#[]⟩,.slice none 0 0,.slice none 0 0] 25 (some w4.heap.size) (some g6) (some g3) W) HS0.out.litx ?_
          intro w5 hm
          have HS0:=mkA hm
          clear hm
          refine hK.out _ _ ⟨(blk_cell (blk_below HI.out.1.1 HS0.out.bel) 0),(blk_cell (blk_below HI.out.1.1 HS0.out.bel) 1)⟩ (fun hHeld=>?_)
          clear hK K
          refine norm_ (a':=?_) ?_ ?_
          rotate_left
          ·show Act.put _ (some 5) _=_
           simp only [Act.put,sAx,sBx,sCx,i64_w,i32_w]
           rfl
          refine pure_ (i:=4) (N:=some 9) (v:=?_) (a':=?_) #[qt,qt,qt,qt,qt,qf,qt,qt,qt,qt,qt,qt,qf,qt,qf] rfl rfl (by kernel_rfl) (fun _ _ _ h=>h) (Or.inl ⟨by rfl,?_⟩) ?_ ?_
          rotate_left
          ·intro w'
           go_simp
           with_reducible rfl
          rotate_left
          ·simp only [Act.put,sAx,sBx,sCx,i64_w,i32_w]
           rfl
          exact norm_ (by first|(simp only [putAll,Act.put,sAx,sBx,sCx];done)|(simp only [putAll,Act.put,sAx,sBx,sCx];rfl)) (hJ0_6_11_13 (_,g6,g3) _ HS0.out)
        ·skip
         rintro ⟨g0,g6,g3⟩ w4 hm
         have HS0:=mkA (show RQ W1 (methL.map Value.string) (targL.map Value.string) [.string ⟨#[]⟩,.string ⟨#[]⟩,.slice none 0 0,.slice none 0 0] 25 (some g0) (some g6) (some g3) w4 from hm)
         clear hm
         have hHeld:w4.cell? ⟨w.heap.size,0,none⟩=some (.int .u8 x0)∧w4.cell? ⟨w.heap.size,1,none⟩=some (.int .u8 x1):=⟨(blk_cell (blk_below HI.out.1.1 HS0.out.bel) 0),(blk_cell (blk_below HI.out.1.1 HS0.out.bel) 1)⟩
         refine norm_ (a':=?_) ?_ ?_
         rotate_left
         ·simp only [putAll,Act.put,sAx,sBx,sCx]
          rfl
         refine two_ (i:=5) (j:=11) (Ni:=some 10) (Nj:=some 16) #[qt,qt,qt,qt,qt,qt,qt,qt,qt,qt,qt,qf,qf,qt,qf] #[qt,qt,qt,qt,qt,qf,qt,qt,qt,qt,qt,qt,qf,qt,qf] rfl rfl rfl rfl (by kernel_rfl) (by decide) (by decide) (fun K hK=>?_) (fun K hK=>?_)
         ·skip
          have hl:w4.cell? ⟨g0,(x1 % 10).toNat,none⟩=some (.string m):=by rw [HM.out];exact row_str (HS0.out.hx _ rfl) _ _ HB0.out.1 HB0.out.2
          refine value_ (w1:=?_) (v:=?_) (by rfl) rfl ?_ ?_
          rotate_left 2
          ·go_simp
           constructor
           ·rfl
           ·rfl
          clear hl
          refine hK.out _ _ ⟨(blk_cell (blk_below HI.out.1.1 HS0.out.bel) 0),(blk_cell (blk_below HI.out.1.1 HS0.out.bel) 1)⟩ (fun hHeld=>?_)
          clear hK K
          refine norm_ (a':=?_) ?_ ?_
          rotate_left
          ·show Act.put _ (some 10) _=_
           simp only [Act.put,sAx,sBx,sCx,i64_w,i32_w]
           rfl
          exact norm_ (by first|(simp only [putAll,Act.put,sAx,sBx,sCx];done)|(simp only [putAll,Act.put,sAx,sBx,sCx];rfl)) (hJ0_5_6_13 (g0,g6,g3) _ HS0.out)
         ·skip
          have hl:w4.cell? ⟨g6,(x0 % 4).toNat,none⟩=some (.string tg):=by rw [HTG.out];exact row_str (HS0.out.hy _ rfl) _ _ HB1.out.1 HB1.out.2
          refine value_ (w1:=?_) (v:=?_) (by rfl) rfl ?_ ?_
          rotate_left 2
          ·go_simp
           constructor
           ·rfl
           ·rfl
          clear hl
          refine hK.out _ _ ⟨(blk_cell (blk_below HI.out.1.1 HS0.out.bel) 0),(blk_cell (blk_below HI.out.1.1 HS0.out.bel) 1)⟩ (fun hHeld=>?_)
          clear hK K
          refine norm_ (a':=?_) ?_ ?_
          rotate_left
          ·show Act.put _ (some 16) _=_
           simp only [Act.put,sAx,sBx,sCx,i64_w,i32_w]
           rfl
          exact norm_ (by first|(simp only [putAll,Act.put,sAx,sBx,sCx];done)|(simp only [putAll,Act.put,sAx,sBx,sCx];rfl)) (hJ0_6_11_13 (g0,g6,g3) _ HS0.out)
       ·skip
        rintro ⟨g0,g6⟩ w4 hm
        have HS0:=mkA (show RQ W1 (methL.map Value.string) (targL.map Value.string) [.string ⟨#[]⟩,.string ⟨#[]⟩,.slice none 0 0,.slice none 0 0] 25 (some g0) (some g6) none w4 from hm)
        clear hm
        have hHeld:w4.cell? ⟨w.heap.size,0,none⟩=some (.int .u8 x0)∧w4.cell? ⟨w.heap.size,1,none⟩=some (.int .u8 x1):=⟨(blk_cell (blk_below HI.out.1.1 HS0.out.bel) 0),(blk_cell (blk_below HI.out.1.1 HS0.out.bel) 1)⟩
        refine norm_ (a':=?_) ?_ ?_
        rotate_left
        ·simp only [putAll,Act.put,sAx,sBx,sCx]
         rfl
        refine two_ (i:=5) (j:=13) (Ni:=some 10) (Nj:=some 3) #[qt,qt,qt,qt,qt,qt,qt,qt,qt,qt,qt,qt,qf,qf,qf] #[qt,qt,qt,qt,qt,qf,qt,qt,qt,qt,qt,qt,qf,qt,qf] rfl rfl rfl rfl (by kernel_rfl) (by decide) (by decide) (fun K hK=>?_) (fun K hK=>?_)
        ·skip
         have hl:w4.cell? ⟨g0,(x1 % 10).toNat,none⟩=some (.string m):=by rw [HM.out];exact row_str (HS0.out.hx _ rfl) _ _ HB0.out.1 HB0.out.2
         refine value_ (w1:=?_) (v:=?_) (by rfl) rfl ?_ ?_
         rotate_left 2
         ·go_simp
          constructor
          ·rfl
          ·rfl
         clear hl
         refine hK.out _ _ ⟨(blk_cell (blk_below HI.out.1.1 HS0.out.bel) 0),(blk_cell (blk_below HI.out.1.1 HS0.out.bel) 1)⟩ (fun hHeld=>?_)
         clear hK K
         refine norm_ (a':=?_) ?_ ?_
         rotate_left
         ·show Act.put _ (some 10) _=_
          simp only [Act.put,sAx,sBx,sCx,i64_w,i32_w]
          rfl
         refine pure_ (i:=12) (N:=some 17) (v:=?_) (a':=?_) #[qt,qt,qt,qt,qt,qt,qt,qt,qt,qt,qt,qt,qt,qf,qf] rfl rfl (by kernel_rfl) (fun _ _ _ h=>h) (Or.inl ⟨by rfl,?_⟩) ?_ ?_
         rotate_left
         ·intro w'
          go_simp
          with_reducible rfl
         rotate_left
         ·simp only [Act.put,sAx,sBx,sCx,i64_w,i32_w]
          rfl
         exact norm_ (by first|(simp only [putAll,Act.put,sAx,sBx,sCx];done)|(simp only [putAll,Act.put,sAx,sBx,sCx];rfl)) (hJ0_5_6_11 (g0,g6) _ HS0.out)
        ·skip
         refine value_ (w1:=?_) (v:=?_) (by rfl) rfl ?_ ?_
         rotate_left 2
         ·go_simp
          constructor
          ·rfl
          ·rfl
         refine name_K (fun W=>RQ W1 (methL.map Value.string) (targL.map Value.string) [.string ⟨#[]⟩,.string ⟨#[]⟩,.slice none 0 0,.slice none 0 0] 25 (some g0) (some g6) (some w4.heap.size) W) HS0.out.litz ?_
         intro w5 hm
         have HS0:=mkA hm
         clear hm
         refine hK.out _ _ ⟨(blk_cell (blk_below HI.out.1.1 HS0.out.bel) 0),(blk_cell (blk_below HI.out.1.1 HS0.out.bel) 1)⟩ (fun hHeld=>?_)
         clear hK K
         refine norm_ (a':=?_) ?_ ?_
         rotate_left
         ·show Act.put _ (some 3) _=_
          simp only [Act.put,sAx,sBx,sCx,i64_w,i32_w]
          rfl
         exact norm_ (by first|(simp only [putAll,Act.put,sAx,sBx,sCx];done)|(simp only [putAll,Act.put,sAx,sBx,sCx];rfl)) (hJ0_6_11_13 (g0,g6,_) _ HS0.out)
      ·skip
       rintro ⟨g0,g3⟩ w4 hm
       have HS0:=mkA (show RQ W1 (methL.map Value.string) (targL.map Value.string) [.string ⟨#[]⟩,.string ⟨#[]⟩,.slice none 0 0,.slice none 0 0] 25 (some g0) none (some g3) w4 from hm)
       clear hm
       have hHeld:w4.cell? ⟨w.heap.size,0,none⟩=some (.int .u8 x0)∧w4.cell? ⟨w.heap.size,1,none⟩=some (.int .u8 x1):=⟨(blk_cell (blk_below HI.out.1.1 HS0.out.bel) 0),(blk_cell (blk_below HI.out.1.1 HS0.out.bel) 1)⟩
       refine norm_ (a':=?_) ?_ ?_
       rotate_left
       ·simp only [putAll,Act.put,sAx,sBx,sCx]
        rfl
       refine one_ (i:=6) (N:=some 11) #[qt,qt,qt,qt,qt,qt,qt,qt,qt,qt,qf,qf,qf,qt,qf] rfl rfl (by kernel_rfl) (by decide) (fun K hK=>?_)
       refine value_ (w1:=?_) (v:=?_) (by rfl) rfl ?_ ?_
       rotate_left 2
       ·go_simp
        constructor
        ·rfl
        ·rfl
       refine name_K (fun W=>RQ W1 (methL.map Value.string) (targL.map Value.string) [.string ⟨#[]⟩,.string ⟨#[]⟩,.slice none 0 0,.slice none 0 0] 25 (some g0) (some w4.heap.size) (some g3) W) HS0.out.lity ?_
       intro w5 hm
       have HS0:=mkA hm
       clear hm
       refine hK.out _ _ ⟨(blk_cell (blk_below HI.out.1.1 HS0.out.bel) 0),(blk_cell (blk_below HI.out.1.1 HS0.out.bel) 1)⟩ (fun hHeld=>?_)
       clear hK K
       refine norm_ (a':=?_) ?_ ?_
       rotate_left
       ·show Act.put _ (some 11) _=_
        simp only [Act.put,sAx,sBx,sCx,i64_w,i32_w]
        rfl
       refine pure_ (i:=10) (N:=some 15) (v:=?_) (a':=?_) #[qt,qt,qt,qt,qt,qt,qt,qt,qt,qt,qt,qf,qf,qt,qf] rfl rfl (by kernel_rfl) (fun _ _ _ h=>h) (Or.inl ⟨by rfl,?_⟩) ?_ ?_
       rotate_left
       ·intro w'
        go_simp
        with_reducible rfl
       rotate_left
       ·simp only [Act.put,sAx,sBx,sCx,i64_w,i32_w]
        rfl
       exact norm_ (by first|(simp only [putAll,Act.put,sAx,sBx,sCx];done)|(simp only [putAll,Act.put,sAx,sBx,sCx];rfl)) (hJ0_5_6_13 (g0,_,g3) _ HS0.out)
     ·skip
      rintro ⟨g0,g6⟩ w4 hm
      have HS0:=mkA (show RQ W1 (methL.map Value.string) (targL.map Value.string) [.string ⟨#[]⟩,.string ⟨#[]⟩,.slice none 0 0,.slice none 0 0] 25 (some g0) (some g6) none w4 from hm)
      clear hm
      have hHeld:w4.cell? ⟨w.heap.size,0,none⟩=some (.int .u8 x0)∧w4.cell? ⟨w.heap.size,1,none⟩=some (.int .u8 x1):=⟨(blk_cell (blk_below HI.out.1.1 HS0.out.bel) 0),(blk_cell (blk_below HI.out.1.1 HS0.out.bel) 1)⟩
      refine norm_ (a':=?_) ?_ ?_
      rotate_left
      ·simp only [putAll,Act.put,sAx,sBx,sCx]
       rfl
      refine two_ (i:=11) (j:=13) (Ni:=some 16) (Nj:=some 3) #[qt,qt,qt,qt,qt,qt,qt,qt,qt,qt,qt,qt,qf,qf,qf] #[qt,qt,qt,qt,qt,qt,qt,qt,qt,qt,qt,qf,qf,qt,qf] rfl rfl rfl rfl (by kernel_rfl) (by decide) (by decide) (fun K hK=>?_) (fun K hK=>?_)
      ·skip
       have hl:w4.cell? ⟨g6,(x0 % 4).toNat,none⟩=some (.string tg):=by rw [HTG.out];exact row_str (HS0.out.hy _ rfl) _ _ HB1.out.1 HB1.out.2
       refine value_ (w1:=?_) (v:=?_) (by rfl) rfl ?_ ?_
       rotate_left 2
       ·go_simp
        constructor
        ·rfl
        ·rfl
       clear hl
       refine hK.out _ _ ⟨(blk_cell (blk_below HI.out.1.1 HS0.out.bel) 0),(blk_cell (blk_below HI.out.1.1 HS0.out.bel) 1)⟩ (fun hHeld=>?_)
       clear hK K
       refine norm_ (a':=?_) ?_ ?_
       rotate_left
       ·show Act.put _ (some 16) _=_
        simp only [Act.put,sAx,sBx,sCx,i64_w,i32_w]
        rfl
       refine pure_ (i:=12) (N:=some 17) (v:=?_) (a':=?_) #[qt,qt,qt,qt,qt,qt,qt,qt,qt,qt,qt,qt,qt,qf,qf] rfl rfl (by kernel_rfl) (fun _ _ _ h=>h) (Or.inl ⟨by rfl,?_⟩) ?_ ?_
       rotate_left
       ·intro w'
        go_simp
        with_reducible rfl
       rotate_left
       ·simp only [Act.put,sAx,sBx,sCx,i64_w,i32_w]
        rfl
       exact norm_ (by first|(simp only [putAll,Act.put,sAx,sBx,sCx];done)|(simp only [putAll,Act.put,sAx,sBx,sCx];rfl)) (hJ0_5_6_11 (g0,g6) _ HS0.out)
      ·skip
       refine value_ (w1:=?_) (v:=?_) (by rfl) rfl ?_ ?_
       rotate_left 2
       ·go_simp
        constructor
        ·rfl
        ·rfl
       refine name_K (fun W=>RQ W1 (methL.map Value.string) (targL.map Value.string) [.string ⟨#[]⟩,.string ⟨#[]⟩,.slice none 0 0,.slice none 0 0] 25 (some g0) (some g6) (some w4.heap.size) W) HS0.out.litz ?_
       intro w5 hm
       have HS0:=mkA hm
       clear hm
       refine hK.out _ _ ⟨(blk_cell (blk_below HI.out.1.1 HS0.out.bel) 0),(blk_cell (blk_below HI.out.1.1 HS0.out.bel) 1)⟩ (fun hHeld=>?_)
       clear hK K
       refine norm_ (a':=?_) ?_ ?_
       rotate_left
       ·show Act.put _ (some 3) _=_
        simp only [Act.put,sAx,sBx,sCx,i64_w,i32_w]
        rfl
       exact norm_ (by first|(simp only [putAll,Act.put,sAx,sBx,sCx];done)|(simp only [putAll,Act.put,sAx,sBx,sCx];rfl)) (hJ0_5_6_13 (g0,g6,_) _ HS0.out)
    ·skip
     rintro ⟨g0,g6,g3⟩ w4 hm
     have HS0:=mkA (show RQ W1 (methL.map Value.string) (targL.map Value.string) [.string ⟨#[]⟩,.string ⟨#[]⟩,.slice none 0 0,.slice none 0 0] 25 (some g0) (some g6) (some g3) w4 from hm)
     clear hm
     have hHeld:w4.cell? ⟨w.heap.size,0,none⟩=some (.int .u8 x0)∧w4.cell? ⟨w.heap.size,1,none⟩=some (.int .u8 x1):=⟨(blk_cell (blk_below HI.out.1.1 HS0.out.bel) 0),(blk_cell (blk_below HI.out.1.1 HS0.out.bel) 1)⟩
     refine norm_ (a':=?_) ?_ ?_
     rotate_left
     ·simp only [putAll,Act.put,sAx,sBx,sCx]
      rfl
     refine one_ (i:=5) (N:=some 10) #[qt,qt,qt,qt,qt,qt,qt,qt,qt,qt,qt,qt,qf,qt,qf] rfl rfl (by kernel_rfl) (by decide) (fun K hK=>?_)
     have hl:w4.cell? ⟨g0,(x1 % 10).toNat,none⟩=some (.string m):=by rw [HM.out];exact row_str (HS0.out.hx _ rfl) _ _ HB0.out.1 HB0.out.2
     refine value_ (w1:=?_) (v:=?_) (by rfl) rfl ?_ ?_
     rotate_left 2
     ·go_simp
      constructor
      ·rfl
      ·rfl
     clear hl
     refine hK.out _ _ ⟨(blk_cell (blk_below HI.out.1.1 HS0.out.bel) 0),(blk_cell (blk_below HI.out.1.1 HS0.out.bel) 1)⟩ (fun hHeld=>?_)
     clear hK K
     refine norm_ (a':=?_) ?_ ?_
     rotate_left
     ·show Act.put _ (some 10) _=_
      simp only [Act.put,sAx,sBx,sCx,i64_w,i32_w]
      rfl
     refine pure_ (i:=12) (N:=some 17) (v:=?_) (a':=?_) #[qt,qt,qt,qt,qt,qt,qt,qt,qt,qt,qt,qt,qt,qt,qf] rfl rfl (by kernel_rfl) (fun _ _ _ h=>h) (Or.inl ⟨by rfl,?_⟩) ?_ ?_
     rotate_left
     ·intro w'
      go_simp
      with_reducible rfl
     rotate_left
     ·simp only [Act.put,sAx,sBx,sCx,i64_w,i32_w]
      rfl
     exact norm_ (by first|(simp only [putAll,Act.put,sAx,sBx,sCx];done)|(simp only [putAll,Act.put,sAx,sBx,sCx];rfl)) (hJ0_5_6_11_13 (g0,g6,g3) _ HS0.out)
   ·skip
    rintro ⟨g0,g6,g3⟩ w4 hm
    have HS0:=mkA (show RQ W1 (methL.map Value.string) (targL.map Value.string) [.string ⟨#[]⟩,.string ⟨#[]⟩,.slice none 0 0,.slice none 0 0] 25 (some g0) (some g6) (some g3) w4 from hm)
    clear hm
    have hHeld:w4.cell? ⟨w.heap.size,0,none⟩=some (.int .u8 x0)∧w4.cell? ⟨w.heap.size,1,none⟩=some (.int .u8 x1):=⟨(blk_cell (blk_below HI.out.1.1 HS0.out.bel) 0),(blk_cell (blk_below HI.out.1.1 HS0.out.bel) 1)⟩
    refine norm_ (a':=?_) ?_ ?_
    rotate_left
    ·simp only [putAll,Act.put,sAx,sBx,sCx]
     rfl
    refine one_ (i:=11) (N:=some 16) #[qt,qt,qt,qt,qt,qt,qt,qt,qt,qt,qt,qt,qf,qt,qf] rfl rfl (by kernel_rfl) (by decide) (fun K hK=>?_)
    have hl:w4.cell? ⟨g6,(x0 % 4).toNat,none⟩=some (.string tg):=by rw [HTG.out];exact row_str (HS0.out.hy _ rfl) _ _ HB1.out.1 HB1.out.2
    refine value_ (w1:=?_) (v:=?_) (by rfl) rfl ?_ ?_
    rotate_left 2
    ·go_simp
     constructor
     ·rfl
     ·rfl
    clear hl
    refine hK.out _ _ ⟨(blk_cell (blk_below HI.out.1.1 HS0.out.bel) 0),(blk_cell (blk_below HI.out.1.1 HS0.out.bel) 1)⟩ (fun hHeld=>?_)
    clear hK K
    refine norm_ (a':=?_) ?_ ?_
    rotate_left
    ·show Act.put _ (some 16) _=_
     simp only [Act.put,sAx,sBx,sCx,i64_w,i32_w]
     rfl
    refine pure_ (i:=12) (N:=some 17) (v:=?_) (a':=?_) #[qt,qt,qt,qt,qt,qt,qt,qt,qt,qt,qt,qt,qt,qt,qf] rfl rfl (by kernel_rfl) (fun _ _ _ h=>h) (Or.inl ⟨by rfl,?_⟩) ?_ ?_
    rotate_left
    ·intro w'
     go_simp
     with_reducible rfl
    rotate_left
    ·simp only [Act.put,sAx,sBx,sCx,i64_w,i32_w]
     rfl
    exact norm_ (by first|(simp only [putAll,Act.put,sAx,sBx,sCx];done)|(simp only [putAll,Act.put,sAx,sBx,sCx];rfl)) (hJ0_5_6_11_13 (g0,g6,g3) _ HS0.out)
  ·skip
   rintro ⟨g0,g6⟩ w4 hm
   have HS0:=mkA (show RQ W1 (methL.map Value.string) (targL.map Value.string) [.string ⟨#[]⟩,.string ⟨#[]⟩,.slice none 0 0,.slice none 0 0] 25 (some g0) (some g6) none w4 from hm)
   clear hm
   have hHeld:w4.cell? ⟨w.heap.size,0,none⟩=some (.int .u8 x0)∧w4.cell? ⟨w.heap.size,1,none⟩=some (.int .u8 x1):=⟨(blk_cell (blk_below HI.out.1.1 HS0.out.bel) 0),(blk_cell (blk_below HI.out.1.1 HS0.out.bel) 1)⟩
   refine norm_ (a':=?_) ?_ ?_
   rotate_left
   ·simp only [putAll,Act.put,sAx,sBx,sCx]
    rfl
   refine one_ (i:=13) (N:=some 3) #[qt,qt,qt,qt,qt,qt,qt,qt,qt,qt,qt,qt,qt,qt,qf] rfl rfl (by kernel_rfl) (by decide) (fun K hK=>?_)
   refine value_ (w1:=?_) (v:=?_) (by rfl) rfl ?_ ?_
   rotate_left 2
   ·go_simp
    constructor
    ·rfl
    ·rfl
   refine name_K (fun W=>RQ W1 (methL.map Value.string) (targL.map Value.string) [.string ⟨#[]⟩,.string ⟨#[]⟩,.slice none 0 0,.slice none 0 0] 25 (some g0) (some g6) (some w4.heap.size) W) HS0.out.litz ?_
   intro w5 hm
   have HS0:=mkA hm
   clear hm
   refine hK.out _ _ ⟨(blk_cell (blk_below HI.out.1.1 HS0.out.bel) 0),(blk_cell (blk_below HI.out.1.1 HS0.out.bel) 1)⟩ (fun hHeld=>?_)
   clear hK K
   refine norm_ (a':=?_) ?_ ?_
   rotate_left
   ·show Act.put _ (some 3) _=_
    simp only [Act.put,sAx,sBx,sCx,i64_w,i32_w]
    rfl
   exact norm_ (by first|(simp only [putAll,Act.put,sAx,sBx,sCx];done)|(simp only [putAll,Act.put,sAx,sBx,sCx];rfl)) (hJ0_5_6_11_13 (g0,g6,_) _ HS0.out)
 rintro ⟨g0,g6,g3⟩ w4 hm
 have HS0:=mkA (show RQ W1 (methL.map Value.string) (targL.map Value.string) [.string ⟨#[]⟩,.string ⟨#[]⟩,.slice none 0 0,.slice none 0 0] 25 (some g0) (some g6) (some g3) w4 from hm)
 clear hm
 have hHeld:w4.cell? ⟨w.heap.size,0,none⟩=some (.int .u8 x0)∧w4.cell? ⟨w.heap.size,1,none⟩=some (.int .u8 x1):=⟨(blk_cell (blk_below HI.out.1.1 HS0.out.bel) 0),(blk_cell (blk_below HI.out.1.1 HS0.out.bel) 1)⟩
 refine norm_ (a':=?_) ?_ ?_
 rotate_left
 ·simp only [putAll,Act.put,sAx,sBx,sCx]
  rfl
 refine last_ (i:=14) (N:=none) #[qt,qt,qt,qt,qt,qt,qt,qt,qt,qt,qt,qt,qt,qt,qt] rfl rfl (by kernel_rfl) (by decide) (fun K hK=>?_)
 refine store_row_step (by rfl) 25 (.tmp 3) (.tmp 17) rfl g3 #[.string m,.string tg,.slice none 0 0,.slice none 0 0] rfl rfl 25 _ (HS0.out.hz _ rfl).1 (by kernel_rfl) rfl (by simp [Value.oneCell']) rfl ?_
 refine hK.out _ _ ?_
 clear hK K
 refine done_ (by kernel_rfl) ?_
 have hG:w.heap.size≤g3∧w.heap.size≠g3∧w.heap.size+1≠g3:=by have:=(HS0.out.hz _ rfl).2;rw [HS.out] at this;omega
 obtain ⟨L0,hL0⟩:∃ L,L=([]:List S41):=⟨_,rfl⟩
 have HL0:=mkA hL0
 have HN:=mkA (show L0.length≤0 from by rw [hL0];decide)
 go_upto_region 2 with (fail)
 refine name_world (fun W=>SI w w.heap.size (w.heap.size+1) g3 29 25 #[.int .u8 x0,.int .u8 x1,.int .u8 x2,.int .u8 x3,.int .u8 x4,.int .u8 x5] #[.string ⟨#[]⟩,.string ⟨#[]⟩,.slice none 0 0,.slice none 0 0] (.string m) (.string tg) L0 (.slice none 0 0) W) ⟨below_setRow (HI.out.2.trans (HS0.out.bel.mono (by rw [HS.out];omega))) hG.1 _,(setRow_other _ _ _ _ hG.2.1).trans (blk_below HI.out.1.1 HS0.out.bel),(setRow_other _ _ _ _ hG.2.2).trans (blk_below HI.out.1.2 HS0.out.bel),setRow_heap _ _ _ _ _ _ (HS0.out.hz _ rfl).1,by rw [hL0];exact Kd.R_nil _ _ _ _ _,by rw [hL0];decide⟩ ?_
 intro W0 hI
 have HG:=mkA hG
 replace HI:=mkA hI
 clear hI HS hG hL0 HS0
 generalize g3=gR at HI HG ⊢
 have hq:0≤x0 / 4:=Int.ediv_nonneg h0.1 (by decide)
 have e2:Int.tdiv x0 4=x0 / 4:=Int.tdiv_eq_ediv_of_nonneg h0.1
 have e4:IntKind.u8.wrap (x0 / 4)=x0 / 4:=u8w x0 h0
 have e3:Int.tmod (x0 / 4) 3=x0 / 4 % 3:=Int.tmod_eq_emod_of_nonneg hq
 have hb0:=tm (x0 / 4) 3 hq (by decide)
 have HB2:=mkA hb0
 have b5:=hb0.1
 have b6:=hb0.2
 clear hb0
 obtain ⟨ho,hx⟩:∃ q,q=hostL.getD (x0 / 4 % 3).toNat ⟨#[]⟩:=⟨_,rfl⟩
 have HHO:=mkA hx
 clear hx
 have hc:=0
 refine name_world (fun W=>SI w w.heap.size (w.heap.size+1) gR 29 25 #[.int .u8 x0,.int .u8 x1,.int .u8 x2,.int .u8 x3,.int .u8 x4,.int .u8 x5] #[.string ⟨#[]⟩,.string ⟨#[]⟩,.slice none 0 0,.slice none 0 0] (.string m) (.string tg) L0 (.slice none 0 0) W) HI.out ?_
 clear HI hc
 intro w7 hI
 obtain ⟨w7d,hw7,HI⟩:∃ w9,w9=w7.drew∧Aside0 (SI w w.heap.size (w.heap.size+1) gR 29 25 #[.int .u8 x0,.int .u8 x1,.int .u8 x2,.int .u8 x3,.int .u8 x4,.int .u8 x5] #[.string ⟨#[]⟩,.string ⟨#[]⟩,.slice none 0 0,.slice none 0 0] (.string m) (.string tg) L0 (.slice none 0 0) w9):=⟨_,rfl,⟨hI.below (pw_below_drewN (Below.refl _ _) 1)⟩⟩
 clear hI
 refine start_ (n:=14) (S:=fun w'=>w'.cell? ⟨gR,2,none⟩=some (.slice none 0 0)∧w'.cell? ⟨w.heap.size,0,none⟩=some (.int .u8 x0)) (ds:=[13]) #[qf,qf,qf,qf,qf,qf,qf,qf,qf,qf,qf,qf,qf,qf] (by kernel_rfl) rfl rfl ⟨(by rw [← hw7];exact (blk_cell HI.out.hr 2).trans rfl),(by rw [← hw7];exact blk_cell HI.out.ha 0)⟩ (fun hHeld=>?_)
 rw [← hw7] at hHeld ⊢
 clear hw7
 refine pure_ (i:=0) (N:=some 18) (v:=?_) (a':=?_) #[qt,qf,qf,qf,qf,qf,qf,qf,qf,qf,qf,qf,qf,qf] rfl rfl (by kernel_rfl) (fun _ _ _ h=>h) (Or.inl ⟨by rfl,?_⟩) ?_ ?_
 rotate_left
 ·intro w'
  go_simp
  with_reducible rfl
 rotate_left
 ·simp only [Act.put,sAx,sBx,sCx,i64_w,i32_w]
  rfl
 refine pure_ (i:=3) (N:=some 21) (v:=?_) (a':=?_) #[qt,qf,qf,qt,qf,qf,qf,qf,qf,qf,qf,qf,qf,qf] rfl rfl (by kernel_rfl) (fun _ _ _ h=>h) (Or.inl ⟨by rfl,?_⟩) ?_ ?_
 rotate_left
 ·intro w'
  go_simp
  with_reducible rfl
 rotate_left
 ·simp only [Act.put,sAx,sBx,sCx,i64_w,i32_w]
  rfl
 refine take_ (i:=1) (N:=some 19) (v:=?_) (a':=?_) #[qt,qt,qf,qt,qf,qf,qf,qf,qf,qf,qf,qf,qf,qf] rfl rfl (by kernel_rfl) (fun _ _ _ h=>h) (Or.inl ⟨by rfl,?_⟩) hHeld ?_ ?_
 rotate_left
 ·rintro w' ⟨s0,s1⟩
  go_simp
  with_reducible rfl
 rotate_left
 ·simp only [Act.put,sAx,sBx,sCx,i64_w,i32_w]
  rfl
 refine take_ (i:=4) (N:=some 22) (v:=?_) (a':=?_) #[qt,qt,qf,qt,qt,qf,qf,qf,qf,qf,qf,qf,qf,qf] rfl rfl (by kernel_rfl) (fun _ _ _ h=>h) (Or.inl ⟨by rfl,?_⟩) hHeld ?_ ?_
 rotate_left
 ·rintro w' ⟨s0,s1⟩
  go_simp
  with_reducible rfl
 rotate_left
 ·simp only [Act.put,sAx,sBx,sCx,i64_w,i32_w]
  rfl
 refine pure_ (i:=5) (N:=some 23) (v:=?_) (a':=?_) #[qt,qt,qf,qt,qt,qt,qf,qf,qf,qf,qf,qf,qf,qf] rfl rfl (by kernel_rfl) (fun _ _ _ h=>h) (Or.inl ⟨by rfl,?_⟩) ?_ ?_
 rotate_left
 ·intro w'
  go_simp
  with_reducible rfl
 rotate_left
 ·simp only [Act.put,sAx,sBx,sCx,i64_w,i32_w]
  rfl
 refine pure_ (i:=6) (N:=some 24) (v:=?_) (a':=?_) #[qt,qt,qf,qt,qt,qt,qt,qf,qf,qf,qf,qf,qf,qf] rfl rfl (by kernel_rfl) (fun _ _ _ h=>h) (Or.inl ⟨by rfl,?_⟩) ?_ ?_
 rotate_left
 ·intro w'
  go_simp
  with_reducible rfl
 rotate_left
 ·simp only [Act.put,sAx,sBx,sCx,i64_w,i32_w]
  rfl
 refine one_ (i:=2) (N:=some 20) #[qt,qt,qt,qt,qt,qt,qt,qf,qf,qf,qf,qf,qf,qf] rfl rfl (by kernel_rfl) (by decide) (fun K hK=>?_)
 refine value_ (w1:=?_) (v:=?_) (by rfl) rfl ?_ ?_
 rotate_left 2
 ·go_simp
  constructor
  ·rfl
  ·rfl
 refine name_K (fun W=>SI w w.heap.size (w.heap.size+1) gR 29 25 #[.int .u8 x0,.int .u8 x1,.int .u8 x2,.int .u8 x3,.int .u8 x4,.int .u8 x5] #[.string ⟨#[]⟩,.string ⟨#[]⟩,.slice none 0 0,.slice none 0 0] (.string m) (.string tg) L0 (.slice none 0 0) W∧W.heap[w7d.heap.size]?=some (.cells (hostL.map Value.string).toArray 9 (0,0))) ⟨HI.out.al _,heap_alloc_new _ _⟩ ?_
 rintro w7 ⟨h1,h2⟩
 have HI:=mkA h1
 have HT9:=mkA h2
 clear h1 h2
 refine hK.out _ _ ⟨(blk_cell HI.out.hr 2).trans rfl,(blk_cell HI.out.ha 0)⟩ (fun hHeld=>?_)
 clear hK K
 refine norm_ (a':=?_) ?_ ?_
 rotate_left
 ·show Act.put _ (some 20) _=_
  simp only [Act.put,sAx,sBx,sCx,i64_w,i32_w]
  rfl
 refine pure_ (i:=7) (N:=some 25) (v:=?_) (a':=?_) #[qt,qt,qt,qt,qt,qt,qt,qt,qf,qf,qf,qf,qf,qf] rfl rfl (by kernel_rfl) (fun _ _ _ h=>h) (Or.inl ⟨by rfl,?_⟩) ?_ ?_
 rotate_left
 ·intro w'
  go_simp
  with_reducible rfl
 rotate_left
 ·simp only [Act.put,sAx,sBx,sCx,i64_w,i32_w]
  rfl
 refine one_ (i:=8) (N:=some 26) #[qt,qt,qt,qt,qt,qt,qt,qt,qt,qf,qf,qf,qf,qf] rfl rfl (by kernel_rfl) (by decide) (fun K hK=>?_)
 have hl:w7.cell? ⟨w7d.heap.size,(x0 / 4 % 3).toNat,none⟩=some (.string ho):=by rw [HHO.out];exact row_str HT9.out _ _ HB2.out.1 HB2.out.2
 refine value_ (w1:=?_) (v:=?_) (by rfl) rfl ?_ ?_
 rotate_left 2
 ·go_simp
  constructor
  ·rfl
  ·rfl
 clear hl
 refine hK.out _ _ ⟨(blk_cell HI.out.hr 2).trans rfl,(blk_cell HI.out.ha 0)⟩ (fun hHeld=>?_)
 clear hK K
 refine norm_ (a':=?_) ?_ ?_
 rotate_left
 ·show Act.put _ (some 26) _=_
  simp only [Act.put,sAx,sBx,sCx,i64_w,i32_w]
  rfl
 refine pure_ (i:=9) (N:=some 27) (v:=?_) (a':=?_) #[qt,qt,qt,qt,qt,qt,qt,qt,qt,qt,qf,qf,qf,qf] rfl rfl (by kernel_rfl) (fun _ _ _ h=>h) (Or.inl ⟨by rfl,?_⟩) ?_ ?_
 rotate_left
 ·intro w'
  go_simp
  with_reducible rfl
 rotate_left
 ·simp only [Act.put,sAx,sBx,sCx,i64_w,i32_w]
  rfl
 refine one_ (i:=10) (N:=some 28) #[qt,qt,qt,qt,qt,qt,qt,qt,qt,qt,qt,qf,qf,qf] rfl rfl (by kernel_rfl) (by decide) (fun K hK=>?_)
 refine value_ (w1:=?_) (v:=?_) (by rfl) rfl ?_ ?_
 rotate_left 2
 ·go_simp
  constructor
  ·rfl
  ·rfl
 refine name_K (fun W=>SI w w.heap.size (w.heap.size+1) gR 29 25 #[.int .u8 x0,.int .u8 x1,.int .u8 x2,.int .u8 x3,.int .u8 x4,.int .u8 x5] #[.string ⟨#[]⟩,.string ⟨#[]⟩,.slice none 0 0,.slice none 0 0] (.string m) (.string tg) L0 (.slice none 0 0) W∧Kd.C k41 W (some ⟨w7.heap.size,0,none⟩) 1 [⟨⟨#[72,111,115,116]⟩,ho⟩]) ⟨HI.out.al _,one_field (heap_alloc_new _ _)⟩ ?_
 rintro w9 ⟨h1,h2⟩
 have HI:=mkA h1
 have HL9:=mkA h2
 clear h1 h2
 refine hK.out _ _ ⟨(blk_cell HI.out.hr 2).trans rfl,(blk_cell HI.out.ha 0)⟩ (fun hHeld=>?_)
 clear hK K
 refine norm_ (a':=?_) ?_ ?_
 rotate_left
 ·show Act.put _ (some 28) _=_
  simp only [Act.put,sAx,sBx,sCx,i64_w,i32_w]
  rfl
 refine one_ (i:=11) (N:=some 29) #[qt,qt,qt,qt,qt,qt,qt,qt,qt,qt,qt,qt,qf,qf] rfl rfl (by kernel_rfl) (by decide) (fun K hK=>?_)
 refine rows_step k41 (w0:=w) w.heap.size (by rfl) (.tmp 19) (.tmp 28) 22 41 (.agg #[.string ⟨#[]⟩,.string ⟨#[]⟩]) 32 rfl Tryz.underlying22 info41 rfl (by decide) (by decide) (.slice none 0 0) L0 [⟨⟨#[72,111,115,116]⟩,ho⟩] (some ⟨w7.heap.size,0,none⟩) _ _ (fun _=>True) (fun _=>False) rfl rfl HI.out.ho HL9.out (fun x cs h=>by obtain rfl:=k41_open h;exact k41_mkM _ _ _ _) (fun _ h=>h.elim) (fun _ _=>trivial) HI.out.bel HI.out.bel.size (hl_ HI.out.hn (by first|decide|simp)) ?_
 intro v10 w10 ho hb hg hat
 have HX:=mkA (HI.out.put (by decide) (by decide) HG.out ho hb hg (hn_ HN.out (by simp)))
 have HX0:=mkA (HI.out.ha1 (by decide) hg)
 have hr10:=HI.out.hr1 (by decide) hg
 have hc10:=(blk_cell hr10 2).trans rfl
 have hf10:=blk_frozen hr10 2
 obtain ⟨A10,n10,c10,rfl⟩:=R_sliceN ho
 clear ho hb hg hat hr10
 refine hK.out _ _ ⟨hc10,(blk_cell HX0.out 0)⟩ (fun hHeld=>?_)
 clear hK K
 refine norm_ (a':=?_) ?_ ?_
 rotate_left
 ·show Act.put _ (some 29) _=_
  simp only [Act.put,sAx,sBx,sCx,i64_w,i32_w]
  rfl
 refine pure_ (i:=12) (N:=some 30) (v:=?_) (a':=?_) #[qt,qt,qt,qt,qt,qt,qt,qt,qt,qt,qt,qt,qt,qf] rfl rfl (by kernel_rfl) (fun _ _ _ h=>h) (Or.inl ⟨by rfl,?_⟩) ?_ ?_
 rotate_left
 ·intro w'
  go_simp
  with_reducible rfl
 rotate_left
 ·simp only [Act.put,sAx,sBx,sCx,i64_w,i32_w]
  rfl
 refine last_ (i:=13) (N:=none) #[qt,qt,qt,qt,qt,qt,qt,qt,qt,qt,qt,qt,qt,qt] rfl rfl (by kernel_rfl) (by decide) (fun K hK=>?_)
 refine skip_ (w1:=?_) (by rfl) rfl ?_ ?_
 rotate_left
 ·go_simp
  rfl
 refine hK.out _ _ ?_
 clear hK K
 refine done_ (by kernel_rfl) ?_
 go_upto_region 3 with (fail)
 clear e0 e1 e2 e3 e4 b1 b2 b3 b4 b5 b6
 obtain ⟨L1,hL⟩:∃ L,L=L0++[⟨⟨#[72,111,115,116]⟩,ho⟩]:=⟨_,rfl⟩
 have hI:=HX.out
 rw [← hL] at hI
 replace HN:=mkA (show L1.length≤1 from by rw [hL,List.length_append];have h1:=HN.out;simp only [List.length_cons,List.length_nil];omega)
 have HL1:=mkA hL
 clear HX HX0 hc10 hf10 hL HI
 refine name_world (fun W=>SI w w.heap.size (w.heap.size+1) gR 29 25 #[.int .u8 x0,.int .u8 x1,.int .u8 x2,.int .u8 x3,.int .u8 x4,.int .u8 x5] #[.string ⟨#[]⟩,.string ⟨#[]⟩,.slice none 0 0,.slice none 0 0] (.string m) (.string tg) L1 (.slice A10 n10 c10) W) hI ?_
 clear hI
 intro W0 hI
 have HI:=mkA hI
 clear hI
 have hb0:=tm x2 12 h2.1 (by decide)
 have hs:(W0.alloc (Obj.cells #[Value.string { data:=#[] },Value.string { data:=#[] },Value.string { data:=#[] },Value.string { data:=#[] },Value.string { data:=#[110,111,45,99,97,99,104,101] },Value.string { data:=#[110,111,45,115,116,111,114,101] },Value.string { data:=#[109,97,120,45,97,103,101,61,53] },Value.string { data:=#[109,97,120,45,115,116,97,108,101] },Value.string { data:=#[109,97,120,45,115,116,97,108,101,61,57] },Value.string { data:=#[109,105,110,45,102,114,101,115,104,61,52] },Value.string { data:=#[111,110,108,121,45,105,102,45,99,97,99,104,101,100] },Value.string { data:=#[109,97,120,45,97,103,101,61,48] }] 9)).cell? ⟨W0.heap.size,(x2 % 12).toNat,none⟩=some ((qsaysL.map (Value.string)).getD (x2 % 12).toNat (.string ⟨#[]⟩)):=lit_cell W0 (qsaysL.map (Value.string)) 9 (x2 % 12) (.string ⟨#[]⟩) (hb0).1 (hb0).2
 have hA:(W0.alloc (Obj.cells #[Value.string { data:=#[] },Value.string { data:=#[] },Value.string { data:=#[] },Value.string { data:=#[] },Value.string { data:=#[110,111,45,99,97,99,104,101] },Value.string { data:=#[110,111,45,115,116,111,114,101] },Value.string { data:=#[109,97,120,45,97,103,101,61,53] },Value.string { data:=#[109,97,120,45,115,116,97,108,101] },Value.string { data:=#[109,97,120,45,115,116,97,108,101,61,57] },Value.string { data:=#[109,105,110,45,102,114,101,115,104,61,52] },Value.string { data:=#[111,110,108,121,45,105,102,45,99,97,99,104,101,100] },Value.string { data:=#[109,97,120,45,97,103,101,61,48] }] 9)).cell? ⟨w.heap.size,2,none⟩=some (.int .u8 x2):=blk_cell (blk_al HI.out.ha) 2
 rw [getD_map] at hs
 obtain ⟨sy,hx⟩:∃ q,q=qsaysL.getD (x2 % 12).toNat ⟨#[]⟩:=⟨_,rfl⟩
 rw [← hx] at hs
 have HSY:=mkA hx
 clear hx
 clear hb0
 go_upto_if 38 with (fail)
 clear hs hA
 refine name_world (fun W=>SI w w.heap.size (w.heap.size+1) gR 29 25 #[.int .u8 x0,.int .u8 x1,.int .u8 x2,.int .u8 x3,.int .u8 x4,.int .u8 x5] #[.string ⟨#[]⟩,.string ⟨#[]⟩,.slice none 0 0,.slice none 0 0] (.string m) (.string tg) L1 (.slice A10 n10 c10) W) (HI.out.al _) ?_
 clear HI
 intro W2 hI
 replace HI:=mkA hI
 clear hI
 go_cut [] (fun wc=>Aside0 (∃ v,SI w w.heap.size (w.heap.size+1) gR 29 25 #[.int .u8 x0,.int .u8 x1,.int .u8 x2,.int .u8 x3,.int .u8 x4,.int .u8 x5] #[.string ⟨#[]⟩,.string ⟨#[]⟩,.slice none 0 0,.slice none 0 0] (.string m) (.string tg) (L1++optF ⟨#[67,97,99,104,101,45,67,111,110,116,114,111,108]⟩ sy) v wc))
 case first=>
  cases he:sy.toList.isEmpty with
  |true=>
   go_wp2
   go_meet
   case rel=>exact ⟨_,by rw [show optF ⟨#[67,97,99,104,101,45,67,111,110,116,114,111,108]⟩ sy=[] from if_pos he,List.append_nil];exact HI.out⟩
  |false=>
   have hc:=(blk_cell HI.out.hr 2).trans rfl
   go_wp2_with (first|((with_reducible refine gate_dst (N:=43) rfl ?_);refine Kd.R_lit k41 (w0:=w) w.heap.size 41 ?hg (N:=43) ?hd (xs:=[⟨⟨#[67,97,99,104,101,45,67,111,110,116,114,111,108]⟩,sy⟩]) (inner:=[.string ⟨#[67,97,99,104,101,45,67,111,110,116,114,111,108]⟩,.string sy]) (ok:=fun _=>True) (okp:=fun _=>True) ?hr ?hp (fun _ hk=>hk) trivial HI.out.bel HI.out.bel.size (by simp) ?_;(case hd=>rfl);(case hg=>rfl);(case hr=>first|(go_simp;done)|(go_simp;rfl));(case hp=>exact Reps.c2 (k41_mkM _ _ _ ⟨⟨#[67,97,99,104,101,45,67,111,110,116,114,111,108]⟩,sy⟩) (Reps.none _ _));intro v9 w9 ho hb hg hat;have HO9:=mkA ho;have HI9:=mkA (HI.out.grown hb hg);have hc9:=(blk_cell HI9.out.hr 2).trans rfl;obtain ⟨A9,c9,rfl⟩:=Kd.R_slice ho;clear ho hb hg hat)|(at_builtin;(with_reducible refine gate_builtin (b:=.append) (xs:=#[.tmp 40,.tmp 43]) rfl ?_);refine Kd.R_append_rows k41 (w0:=w) w.heap.size rfl (.tmp 40) (.tmp 43) 22 41 (.agg #[.string ⟨#[]⟩,.string ⟨#[]⟩]) 32 rfl Tryz.underlying22 info41 rfl (by decide) (by decide) (.slice A10 n10 c10) L1 [⟨⟨#[67,97,99,104,101,45,67,111,110,116,114,111,108]⟩,sy⟩] A9 _ c9 (fun _=>True) (fun _=>False) rfl rfl HI9.out.ho (Kd.R_reads' HO9.out).2.2 (fun x cs h=>by obtain rfl:=k41_open h;exact k41_mkM _ _ _ _) (fun _ h=>h.elim) (fun _ _=>trivial) HI9.out.bel HI9.out.bel.size (hl_ HI.out.hn (by simp)) ?_;intro v10 w10 ho hb hg hat;have HX:=mkA (HI9.out.put (by decide) (by decide) HG.out ho hb hg (hn_ HN.out (by simp)));have hr10:=HI9.out.hr1 (by decide) hg;have hc10:=(blk_cell hr10 2).trans rfl;have hf10:=blk_frozen hr10 2;obtain ⟨A10,n10,c10,rfl⟩:=R_sliceN ho;clear hr10 ho hb hg hat)|fail)
   go_meet
   case rel=>exact ⟨_,by rw [show optF ⟨#[67,97,99,104,101,45,67,111,110,116,114,111,108]⟩ sy=[⟨⟨#[67,97,99,104,101,45,67,111,110,116,114,111,108]⟩,sy⟩] from if_neg (by rw [he];decide)];exact HX.out⟩
 case rest=>
  obtain ⟨v,hI⟩:=hcut.out
  clear hcut HI
  obtain ⟨L2,hL⟩:∃ L,L=L1++optF ⟨#[67,97,99,104,101,45,67,111,110,116,114,111,108]⟩ sy:=⟨_,rfl⟩
  rw [← hL] at hI
  replace HN:=mkA (show L2.length≤2 from by rw [hL,List.length_append];have h1:=HN.out;have h2:=optF_len ⟨#[67,97,99,104,101,45,67,111,110,116,114,111,108]⟩ sy;omega)
  have HL2:=mkA hL
  obtain ⟨A,n,c,rfl⟩:=R_sliceN hI.ho
  have HI:=mkA hI
  clear hI hL
  have hA:wc.cell? ⟨w.heap.size,3,none⟩=some (.int .u8 x3):=blk_cell HI.out.ha 3
  go_upto_block 0 with (fail)
  clear hA
  obtain ⟨t0,t1⟩:=tm x3 6 h3.1 (by decide)
  go_cut [] (fun wc=>Aside0 (∃ v,SI w w.heap.size (w.heap.size+1) gR 29 25 #[.int .u8 x0,.int .u8 x1,.int .u8 x2,.int .u8 x3,.int .u8 x4,.int .u8 x5] #[.string ⟨#[]⟩,.string ⟨#[]⟩,.slice none 0 0,.slice none 0 0] (.string m) (.string tg) (L2++qvaryF (x3 % 6)) v wc))
  case first=>
   have hd:x3 % 6=0∨x3 % 6=1∨x3 % 6=2∨x3 % 6=3∨x3 % 6=4∨x3 % 6=5:=by omega
   clear t0 t1
   rcases hd with hd|hd|hd|hd|hd|hd
   ·have e1:(x3 % 6 == 1)=false:=(by rw [hd];try rfl);have e2:(x3 % 6 == 2)=false:=(by rw [hd];try rfl);have e3:(x3 % 6 == 3)=false:=(by rw [hd];try rfl)
    have HD:=mkA hd
    clear hd
    go_wp2
    go_meet
    case rel=>exact ⟨_,by rw [show qvaryF (x3 % 6)=[] from by rw [HD.out];rfl,List.append_nil];exact HI.out⟩
   ·have e1:(x3 % 6 == 1)=true:=(by rw [hd];try rfl);have e2:(x3 % 6 == 2)=false:=(by rw [hd];try rfl);have e3:(x3 % 6 == 3)=false:=(by rw [hd];try rfl)
    have HD:=mkA hd
    clear hd
    have hc:=(blk_cell HI.out.hr 2).trans rfl
    go_wp2_with (first|((with_reducible refine gate_dst (N:=54) rfl ?_);refine Kd.R_lit k41 (w0:=w) w.heap.size 41 ?hg (N:=54) ?hd (xs:=[⟨⟨#[65,99,99,101,112,116]⟩,⟨#[120]⟩⟩]) (inner:=[.string ⟨#[65,99,99,101,112,116]⟩,.string ⟨#[120]⟩]) (ok:=fun _=>True) (okp:=fun _=>True) ?hr ?hp (fun _ hk=>hk) trivial HI.out.bel HI.out.bel.size (by simp) ?_;(case hd=>rfl);(case hg=>rfl);(case hr=>first|(go_simp;done)|(go_simp;rfl));(case hp=>exact Reps.c2 (k41_mkM _ _ _ ⟨⟨#[65,99,99,101,112,116]⟩,⟨#[120]⟩⟩) (Reps.none _ _));intro v9 w9 ho hb hg hat;have HO9:=mkA ho;have HI9:=mkA (HI.out.grown hb hg);have hc9:=(blk_cell HI9.out.hr 2).trans rfl;obtain ⟨A9,c9,rfl⟩:=Kd.R_slice ho;clear ho hb hg hat)|(at_builtin;(with_reducible refine gate_builtin (b:=.append) (xs:=#[.tmp 52,.tmp 54]) rfl ?_);refine Kd.R_append_rows k41 (w0:=w) w.heap.size rfl (.tmp 52) (.tmp 54) 22 41 (.agg #[.string ⟨#[]⟩,.string ⟨#[]⟩]) 32 rfl Tryz.underlying22 info41 rfl (by decide) (by decide) (.slice A n c) L2 [⟨⟨#[65,99,99,101,112,116]⟩,⟨#[120]⟩⟩] A9 _ c9 (fun _=>True) (fun _=>False) rfl rfl HI9.out.ho (Kd.R_reads' HO9.out).2.2 (fun x cs h=>by obtain rfl:=k41_open h;exact k41_mkM _ _ _ _) (fun _ h=>h.elim) (fun _ _=>trivial) HI9.out.bel HI9.out.bel.size (hl_ HI.out.hn (by simp)) ?_;intro v10 w10 ho hb hg hat;have HX:=mkA (HI9.out.put (by decide) (by decide) HG.out ho hb hg (hn_ HN.out (by simp)));have hr10:=HI9.out.hr1 (by decide) hg;have hc10:=(blk_cell hr10 2).trans rfl;have hf10:=blk_frozen hr10 2;obtain ⟨A10,n10,c10,rfl⟩:=R_sliceN ho;clear hr10 ho hb hg hat)|fail)
    go_meet
    case rel=>exact ⟨_,by rw [show qvaryF (x3 % 6)=[⟨⟨#[65,99,99,101,112,116]⟩,⟨#[120]⟩⟩] from by rw [HD.out];rfl];exact HX.out⟩
   ·have e1:(x3 % 6 == 1)=false:=(by rw [hd];try rfl);have e2:(x3 % 6 == 2)=true:=(by rw [hd];try rfl);have e3:(x3 % 6 == 3)=false:=(by rw [hd];try rfl)
    have HD:=mkA hd
    clear hd
    have hc:=(blk_cell HI.out.hr 2).trans rfl
    go_wp2_with (first|((with_reducible refine gate_dst (N:=62) rfl ?_);refine Kd.R_lit k41 (w0:=w) w.heap.size 41 ?hg (N:=62) ?hd (xs:=[⟨⟨#[97,99,99,101,112,116]⟩,⟨#[120,44,32,32,121]⟩⟩]) (inner:=[.string ⟨#[97,99,99,101,112,116]⟩,.string ⟨#[120,44,32,32,121]⟩]) (ok:=fun _=>True) (okp:=fun _=>True) ?hr ?hp (fun _ hk=>hk) trivial HI.out.bel HI.out.bel.size (by simp) ?_;(case hd=>rfl);(case hg=>rfl);(case hr=>first|(go_simp;done)|(go_simp;rfl));(case hp=>exact Reps.c2 (k41_mkM _ _ _ ⟨⟨#[97,99,99,101,112,116]⟩,⟨#[120,44,32,32,121]⟩⟩) (Reps.none _ _));intro v9 w9 ho hb hg hat;have HO9:=mkA ho;have HI9:=mkA (HI.out.grown hb hg);have hc9:=(blk_cell HI9.out.hr 2).trans rfl;obtain ⟨A9,c9,rfl⟩:=Kd.R_slice ho;clear ho hb hg hat)|(at_builtin;(with_reducible refine gate_builtin (b:=.append) (xs:=#[.tmp 60,.tmp 62]) rfl ?_);refine Kd.R_append_rows k41 (w0:=w) w.heap.size rfl (.tmp 60) (.tmp 62) 22 41 (.agg #[.string ⟨#[]⟩,.string ⟨#[]⟩]) 32 rfl Tryz.underlying22 info41 rfl (by decide) (by decide) (.slice A n c) L2 [⟨⟨#[97,99,99,101,112,116]⟩,⟨#[120,44,32,32,121]⟩⟩] A9 _ c9 (fun _=>True) (fun _=>False) rfl rfl HI9.out.ho (Kd.R_reads' HO9.out).2.2 (fun x cs h=>by obtain rfl:=k41_open h;exact k41_mkM _ _ _ _) (fun _ h=>h.elim) (fun _ _=>trivial) HI9.out.bel HI9.out.bel.size (hl_ HI.out.hn (by simp)) ?_;intro v10 w10 ho hb hg hat;have HX:=mkA (HI9.out.put (by decide) (by decide) HG.out ho hb hg (hn_ HN.out (by simp)));have hr10:=HI9.out.hr1 (by decide) hg;have hc10:=(blk_cell hr10 2).trans rfl;have hf10:=blk_frozen hr10 2;obtain ⟨A10,n10,c10,rfl⟩:=R_sliceN ho;clear hr10 ho hb hg hat)|fail)
    go_meet
    case rel=>exact ⟨_,by rw [show qvaryF (x3 % 6)=[⟨⟨#[97,99,99,101,112,116]⟩,⟨#[120,44,32,32,121]⟩⟩] from by rw [HD.out];rfl];exact HX.out⟩
   ·have e1:(x3 % 6 == 1)=false:=(by rw [hd];try rfl);have e2:(x3 % 6 == 2)=false:=(by rw [hd];try rfl);have e3:(x3 % 6 == 3)=true:=(by rw [hd];try rfl)
    have HD:=mkA hd
    clear hd
    have hc:=(blk_cell HI.out.hr 2).trans rfl
    go_wp2_with (first|((with_reducible refine gate_dst (N:=71) rfl ?_);refine Kd.R_lit k41 (w0:=w) w.heap.size 41 ?hg (N:=71) ?hd (xs:=[⟨⟨#[65,99,99,101,112,116]⟩,⟨#[120]⟩⟩,⟨⟨#[76,97,110,103]⟩,⟨#[101,110]⟩⟩]) (inner:=[.string ⟨#[65,99,99,101,112,116]⟩,.string ⟨#[120]⟩,.string ⟨#[76,97,110,103]⟩,.string ⟨#[101,110]⟩]) (ok:=fun _=>True) (okp:=fun _=>True) ?hr ?hp (fun _ hk=>hk) trivial HI.out.bel HI.out.bel.size (by simp) ?_;(case hd=>rfl);(case hg=>rfl);(case hr=>first|(go_simp;done)|(go_simp;rfl));(case hp=>exact Reps.c2 (k41_mkM _ _ _ ⟨⟨#[65,99,99,101,112,116]⟩,⟨#[120]⟩⟩) (Reps.c2 (k41_mkM _ _ _ ⟨⟨#[76,97,110,103]⟩,⟨#[101,110]⟩⟩) (Reps.none _ _)));intro v9 w9 ho hb hg hat;have HO9:=mkA ho;have HI9:=mkA (HI.out.grown hb hg);have hc9:=(blk_cell HI9.out.hr 2).trans rfl;obtain ⟨A9,c9,rfl⟩:=Kd.R_slice ho;clear ho hb hg hat)|(at_builtin;(with_reducible refine gate_builtin (b:=.append) (xs:=#[.tmp 68,.tmp 71]) rfl ?_);refine Kd.R_append_rows k41 (w0:=w) w.heap.size rfl (.tmp 68) (.tmp 71) 22 41 (.agg #[.string ⟨#[]⟩,.string ⟨#[]⟩]) 32 rfl Tryz.underlying22 info41 rfl (by decide) (by decide) (.slice A n c) L2 [⟨⟨#[65,99,99,101,112,116]⟩,⟨#[120]⟩⟩,⟨⟨#[76,97,110,103]⟩,⟨#[101,110]⟩⟩] A9 _ c9 (fun _=>True) (fun _=>False) rfl rfl HI9.out.ho (Kd.R_reads' HO9.out).2.2 (fun x cs h=>by obtain rfl:=k41_open h;exact k41_mkM _ _ _ _) (fun _ h=>h.elim) (fun _ _=>trivial) HI9.out.bel HI9.out.bel.size (hl_ HI.out.hn (by simp)) ?_;intro v10 w10 ho hb hg hat;have HX:=mkA (HI9.out.put (by decide) (by decide) HG.out ho hb hg (hn_ HN.out (by simp)));have hr10:=HI9.out.hr1 (by decide) hg;have hc10:=(blk_cell hr10 2).trans rfl;have hf10:=blk_frozen hr10 2;obtain ⟨A10,n10,c10,rfl⟩:=R_sliceN ho;clear hr10 ho hb hg hat)|fail)
    go_meet
    case rel=>exact ⟨_,by rw [show qvaryF (x3 % 6)=[⟨⟨#[65,99,99,101,112,116]⟩,⟨#[120]⟩⟩,⟨⟨#[76,97,110,103]⟩,⟨#[101,110]⟩⟩] from by rw [HD.out];rfl];exact HX.out⟩
   ·have e1:(x3 % 6 == 1)=false:=(by rw [hd];try rfl);have e2:(x3 % 6 == 2)=false:=(by rw [hd];try rfl);have e3:(x3 % 6 == 3)=false:=(by rw [hd];try rfl)
    have HD:=mkA hd
    clear hd
    go_wp2
    go_meet
    case rel=>exact ⟨_,by rw [show qvaryF (x3 % 6)=[] from by rw [HD.out];rfl,List.append_nil];exact HI.out⟩
   ·have e1:(x3 % 6 == 1)=false:=(by rw [hd];try rfl);have e2:(x3 % 6 == 2)=false:=(by rw [hd];try rfl);have e3:(x3 % 6 == 3)=false:=(by rw [hd];try rfl)
    have HD:=mkA hd
    clear hd
    go_wp2
    go_meet
    case rel=>exact ⟨_,by rw [show qvaryF (x3 % 6)=[] from by rw [HD.out];rfl,List.append_nil];exact HI.out⟩
  case rest=>
   obtain ⟨v,hI⟩:=hcut.out
   clear hcut HI
   obtain ⟨L3,hL⟩:∃ L,L=L2++qvaryF (x3 % 6):=⟨_,rfl⟩
   rw [← hL] at hI
   replace HN:=mkA (show L3.length≤4 from by rw [hL,List.length_append];have h1:=HN.out;have h2:=qvaryF_len (x3 % 6);omega)
   have HL3:=mkA hL
   obtain ⟨A,n,c,rfl⟩:=R_sliceN hI.ho
   have HI:=mkA hI
   clear hI hL
   have hA:wc.cell? ⟨w.heap.size,4,none⟩=some (.int .u8 x4):=blk_cell HI.out.ha 4
   go_upto_block 1 with (fail)
   clear hA
   obtain ⟨t0,t1⟩:=tm x4 9 h4.1 (by decide)
   go_cut [] (fun wc=>Aside0 (∃ v,SI w w.heap.size (w.heap.size+1) gR 29 25 #[.int .u8 x0,.int .u8 x1,.int .u8 x2,.int .u8 x3,.int .u8 x4,.int .u8 x5] #[.string ⟨#[]⟩,.string ⟨#[]⟩,.slice none 0 0,.slice none 0 0] (.string m) (.string tg) (L3++qcondF T (x4 % 9)) v wc))
   case first=>
    have hd:x4 % 9=0∨x4 % 9=1∨x4 % 9=2∨x4 % 9=3∨x4 % 9=4∨x4 % 9=5∨x4 % 9=6∨x4 % 9=7∨x4 % 9=8:=by omega
    clear t0 t1
    rcases hd with hd|hd|hd|hd|hd|hd|hd|hd|hd
    ·have e1:(x4 % 9 == 1)=false:=(by rw [hd];try rfl);have e2:(x4 % 9 == 2)=false:=(by rw [hd];try rfl);have e3:(x4 % 9 == 3)=false:=(by rw [hd];try rfl);have e4:(x4 % 9 == 4)=false:=(by rw [hd];try rfl);have e5:(x4 % 9 == 5)=false:=(by rw [hd];try rfl);have e6:(x4 % 9 == 6)=false:=(by rw [hd];try rfl)
     have HD:=mkA hd
     clear hd
     go_wp2
     go_meet
     case rel=>exact ⟨_,by rw [show qcondF T (x4 % 9)=[] from by rw [HD.out];rfl,List.append_nil];exact HI.out⟩
    ·have e1:(x4 % 9 == 1)=true:=(by rw [hd];try rfl);have e2:(x4 % 9 == 2)=false:=(by rw [hd];try rfl);have e3:(x4 % 9 == 3)=false:=(by rw [hd];try rfl);have e4:(x4 % 9 == 4)=false:=(by rw [hd];try rfl);have e5:(x4 % 9 == 5)=false:=(by rw [hd];try rfl);have e6:(x4 % 9 == 6)=false:=(by rw [hd];try rfl)
     have HD:=mkA hd
     clear hd
     have hc:=(blk_cell HI.out.hr 2).trans rfl
     go_wp2_with (first|((with_reducible refine gate_dst (N:=82) rfl ?_);refine Kd.R_lit k41 (w0:=w) w.heap.size 41 ?hg (N:=82) ?hd (xs:=[⟨⟨#[73,102,45,78,111,110,101,45,77,97,116,99,104]⟩,⟨#[34,97,34]⟩⟩]) (inner:=[.string ⟨#[73,102,45,78,111,110,101,45,77,97,116,99,104]⟩,.string ⟨#[34,97,34]⟩]) (ok:=fun _=>True) (okp:=fun _=>True) ?hr ?hp (fun _ hk=>hk) trivial HI.out.bel HI.out.bel.size (by simp) ?_;(case hd=>rfl);(case hg=>rfl);(case hr=>first|(go_simp;done)|(go_simp;rfl));(case hp=>exact Reps.c2 (k41_mkM _ _ _ ⟨⟨#[73,102,45,78,111,110,101,45,77,97,116,99,104]⟩,⟨#[34,97,34]⟩⟩) (Reps.none _ _));intro v9 w9 ho hb hg hat;have HO9:=mkA ho;have HI9:=mkA (HI.out.grown hb hg);have hc9:=(blk_cell HI9.out.hr 2).trans rfl;obtain ⟨A9,c9,rfl⟩:=Kd.R_slice ho;clear ho hb hg hat)|(at_builtin;(with_reducible refine gate_builtin (b:=.append) (xs:=#[.tmp 80,.tmp 82]) rfl ?_);refine Kd.R_append_rows k41 (w0:=w) w.heap.size rfl (.tmp 80) (.tmp 82) 22 41 (.agg #[.string ⟨#[]⟩,.string ⟨#[]⟩]) 32 rfl Tryz.underlying22 info41 rfl (by decide) (by decide) (.slice A n c) L3 [⟨⟨#[73,102,45,78,111,110,101,45,77,97,116,99,104]⟩,⟨#[34,97,34]⟩⟩] A9 _ c9 (fun _=>True) (fun _=>False) rfl rfl HI9.out.ho (Kd.R_reads' HO9.out).2.2 (fun x cs h=>by obtain rfl:=k41_open h;exact k41_mkM _ _ _ _) (fun _ h=>h.elim) (fun _ _=>trivial) HI9.out.bel HI9.out.bel.size (hl_ HI.out.hn (by simp)) ?_;intro v10 w10 ho hb hg hat;have HX:=mkA (HI9.out.put (by decide) (by decide) HG.out ho hb hg (hn_ HN.out (by simp)));have hr10:=HI9.out.hr1 (by decide) hg;have hc10:=(blk_cell hr10 2).trans rfl;have hf10:=blk_frozen hr10 2;obtain ⟨A10,n10,c10,rfl⟩:=R_sliceN ho;clear hr10 ho hb hg hat)|fail)
     go_meet
     case rel=>exact ⟨_,by rw [show qcondF T (x4 % 9)=[⟨⟨#[73,102,45,78,111,110,101,45,77,97,116,99,104]⟩,⟨#[34,97,34]⟩⟩] from by rw [HD.out];rfl];exact HX.out⟩
    ·have e1:(x4 % 9 == 1)=false:=(by rw [hd];try rfl);have e2:(x4 % 9 == 2)=true:=(by rw [hd];try rfl);have e3:(x4 % 9 == 3)=false:=(by rw [hd];try rfl);have e4:(x4 % 9 == 4)=false:=(by rw [hd];try rfl);have e5:(x4 % 9 == 5)=false:=(by rw [hd];try rfl);have e6:(x4 % 9 == 6)=false:=(by rw [hd];try rfl)
     have HD:=mkA hd
     clear hd
     have hc:=(blk_cell HI.out.hr 2).trans rfl
     go_upto_region 17 with (fail)
     refine name_world (fun W=>SI w w.heap.size (w.heap.size+1) gR 29 25 #[.int .u8 x0,.int .u8 x1,.int .u8 x2,.int .u8 x3,.int .u8 x4,.int .u8 x5] #[.string ⟨#[]⟩,.string ⟨#[]⟩,.slice none 0 0,.slice none 0 0] (.string m) (.string tg) L3 (.slice A n c) W) HI.out ?_
     clear HI hc
     intro w7 hI
     obtain ⟨w7d,hw7,HI⟩:∃ w9,w9=w7.drew∧Aside0 (SI w w.heap.size (w.heap.size+1) gR 29 25 #[.int .u8 x0,.int .u8 x1,.int .u8 x2,.int .u8 x3,.int .u8 x4,.int .u8 x5] #[.string ⟨#[]⟩,.string ⟨#[]⟩,.slice none 0 0,.slice none 0 0] (.string m) (.string tg) L3 (.slice A n c) w9):=⟨_,rfl,⟨hI.below (pw_below_drewN (Below.refl _ _) 1)⟩⟩
     clear hI
     refine start_ (n:=8) (S:=fun w'=>w'.cell? ⟨gR,2,none⟩=some (.slice A n c)) (ds:=[7]) #[qf,qf,qf,qf,qf,qf,qf,qf] (by kernel_rfl) rfl rfl ((by rw [← hw7];exact (blk_cell HI.out.hr 2).trans rfl)) (fun hHeld=>?_)
     rw [← hw7] at hHeld ⊢
     clear hw7
     refine pure_ (i:=0) (N:=some 87) (v:=?_) (a':=?_) #[qt,qf,qf,qf,qf,qf,qf,qf] rfl rfl (by kernel_rfl) (fun _ _ _ h=>h) (Or.inl ⟨by rfl,?_⟩) ?_ ?_
     rotate_left
     ·intro w'
      go_simp
      with_reducible rfl
     rotate_left
     ·simp only [Act.put,sAx,sBx,sCx,i64_w,i32_w]
      rfl
     refine take_ (i:=1) (N:=some 88) (v:=?_) (a':=?_) #[qt,qt,qf,qf,qf,qf,qf,qf] rfl rfl (by kernel_rfl) (fun _ _ _ h=>h) (Or.inl ⟨by rfl,?_⟩) hHeld ?_ ?_
     rotate_left
     ·intro w' s0
      go_simp
      with_reducible rfl
     rotate_left
     ·simp only [Act.put,sAx,sBx,sCx,i64_w,i32_w]
      rfl
     refine one_ (i:=2) (N:=some 89) #[qt,qt,qt,qf,qf,qf,qf,qf] rfl rfl (by kernel_rfl) (by decide) (fun K hK=>?_)
     refine goes_ Tryz.func16 (by kernel_rfl) rfl #[.int .i64 999999950] (by rfl) rfl rfl (by simp only [List.map_toArray,List.map_cons,List.map_nil];rfl) ?_
     with_reducible refine (HT1.out _).mono ?_
     rintro e w7 ⟨rfl,hb⟩
     refine ⟨_,rfl,?_⟩
     have HI:=mkA (HI.out.below hb)
     clear hb
     refine hK.out _ _ ((blk_cell HI.out.hr 2).trans rfl) (fun hHeld=>?_)
     clear hK K
     refine norm_ (a':=?_) ?_ ?_
     rotate_left
     ·show Act.put _ (some 89) _=_
      simp only [Act.put,sAx,sBx,sCx,i64_w,i32_w]
      rfl
     refine pure_ (i:=3) (N:=some 90) (v:=?_) (a':=?_) #[qt,qt,qt,qt,qf,qf,qf,qf] rfl rfl (by kernel_rfl) (fun _ _ _ h=>h) (Or.inl ⟨by rfl,?_⟩) ?_ ?_
     rotate_left
     ·intro w'
      go_simp
      with_reducible rfl
     rotate_left
     ·simp only [Act.put,sAx,sBx,sCx,i64_w,i32_w]
      rfl
     refine one_ (i:=4) (N:=some 91) #[qt,qt,qt,qt,qt,qf,qf,qf] rfl rfl (by kernel_rfl) (by decide) (fun K hK=>?_)
     refine value_ (w1:=?_) (v:=?_) (by rfl) rfl ?_ ?_
     rotate_left 2
     ·go_simp
      constructor
      ·rfl
      ·rfl
     refine name_K (fun W=>SI w w.heap.size (w.heap.size+1) gR 29 25 #[.int .u8 x0,.int .u8 x1,.int .u8 x2,.int .u8 x3,.int .u8 x4,.int .u8 x5] #[.string ⟨#[]⟩,.string ⟨#[]⟩,.slice none 0 0,.slice none 0 0] (.string m) (.string tg) L3 (.slice A n c) W∧Kd.C k41 W (some ⟨w7.heap.size,0,none⟩) 1 [⟨⟨#[73,102,45,77,111,100,105,102,105,101,100,45,83,105,110,99,101]⟩,(T 999999950)⟩]) ⟨HI.out.al _,one_field (heap_alloc_new _ _)⟩ ?_
     rintro w9 ⟨h1,h2⟩
     have HI:=mkA h1
     have HL9:=mkA h2
     clear h1 h2
     refine hK.out _ _ ((blk_cell HI.out.hr 2).trans rfl) (fun hHeld=>?_)
     clear hK K
     refine norm_ (a':=?_) ?_ ?_
     rotate_left
     ·show Act.put _ (some 91) _=_
      simp only [Act.put,sAx,sBx,sCx,i64_w,i32_w]
      rfl
     refine one_ (i:=5) (N:=some 92) #[qt,qt,qt,qt,qt,qt,qf,qf] rfl rfl (by kernel_rfl) (by decide) (fun K hK=>?_)
     refine rows_step k41 (w0:=w) w.heap.size (by rfl) (.tmp 88) (.tmp 91) 22 41 (.agg #[.string ⟨#[]⟩,.string ⟨#[]⟩]) 32 rfl Tryz.underlying22 info41 rfl (by decide) (by decide) (.slice A n c) L3 [⟨⟨#[73,102,45,77,111,100,105,102,105,101,100,45,83,105,110,99,101]⟩,(T 999999950)⟩] (some ⟨w7.heap.size,0,none⟩) _ _ (fun _=>True) (fun _=>False) rfl rfl HI.out.ho HL9.out (fun x cs h=>by obtain rfl:=k41_open h;exact k41_mkM _ _ _ _) (fun _ h=>h.elim) (fun _ _=>trivial) HI.out.bel HI.out.bel.size (hl_ HI.out.hn (by first|decide|simp)) ?_
     intro v10 w10 ho hb hg hat
     have HX:=mkA (HI.out.put (by decide) (by decide) HG.out ho hb hg (hn_ HN.out (by simp)))
     have HX0:=mkA (HI.out.ha1 (by decide) hg)
     have hr10:=HI.out.hr1 (by decide) hg
     have hc10:=(blk_cell hr10 2).trans rfl
     have hf10:=blk_frozen hr10 2
     obtain ⟨A10,n10,c10,rfl⟩:=R_sliceN ho
     clear ho hb hg hat hr10
     refine hK.out _ _ (hc10) (fun hHeld=>?_)
     clear hK K
     refine norm_ (a':=?_) ?_ ?_
     rotate_left
     ·show Act.put _ (some 92) _=_
      simp only [Act.put,sAx,sBx,sCx,i64_w,i32_w]
      rfl
     refine pure_ (i:=6) (N:=some 93) (v:=?_) (a':=?_) #[qt,qt,qt,qt,qt,qt,qt,qf] rfl rfl (by kernel_rfl) (fun _ _ _ h=>h) (Or.inl ⟨by rfl,?_⟩) ?_ ?_
     rotate_left
     ·intro w'
      go_simp
      with_reducible rfl
     rotate_left
     ·simp only [Act.put,sAx,sBx,sCx,i64_w,i32_w]
      rfl
     refine last_ (i:=7) (N:=none) #[qt,qt,qt,qt,qt,qt,qt,qt] rfl rfl (by kernel_rfl) (by decide) (fun K hK=>?_)
     refine skip_ (w1:=?_) (by rfl) rfl ?_ ?_
     rotate_left
     ·go_simp
      rfl
     refine hK.out _ _ ?_
     clear hK K
     refine done_ (by kernel_rfl) ?_
     go_wp2
     go_meet
     case rel=>exact ⟨_,by rw [show qcondF T (x4 % 9)=[⟨⟨#[73,102,45,77,111,100,105,102,105,101,100,45,83,105,110,99,101]⟩,(T 999999950)⟩] from by rw [HD.out];rfl];exact HX.out⟩
    ·have e1:(x4 % 9 == 1)=false:=(by rw [hd];try rfl);have e2:(x4 % 9 == 2)=false:=(by rw [hd];try rfl);have e3:(x4 % 9 == 3)=true:=(by rw [hd];try rfl);have e4:(x4 % 9 == 4)=false:=(by rw [hd];try rfl);have e5:(x4 % 9 == 5)=false:=(by rw [hd];try rfl);have e6:(x4 % 9 == 6)=false:=(by rw [hd];try rfl)
     have HD:=mkA hd
     clear hd
     have hc:=(blk_cell HI.out.hr 2).trans rfl
     go_wp2_with (first|((with_reducible refine gate_dst (N:=99) rfl ?_);refine Kd.R_lit k41 (w0:=w) w.heap.size 41 ?hg (N:=99) ?hd (xs:=[⟨⟨#[67,111,110,110,101,99,116,105,111,110]⟩,⟨#[99,108,111,115,101]⟩⟩]) (inner:=[.string ⟨#[67,111,110,110,101,99,116,105,111,110]⟩,.string ⟨#[99,108,111,115,101]⟩]) (ok:=fun _=>True) (okp:=fun _=>True) ?hr ?hp (fun _ hk=>hk) trivial HI.out.bel HI.out.bel.size (by simp) ?_;(case hd=>rfl);(case hg=>rfl);(case hr=>first|(go_simp;done)|(go_simp;rfl));(case hp=>exact Reps.c2 (k41_mkM _ _ _ ⟨⟨#[67,111,110,110,101,99,116,105,111,110]⟩,⟨#[99,108,111,115,101]⟩⟩) (Reps.none _ _));intro v9 w9 ho hb hg hat;have HO9:=mkA ho;have HI9:=mkA (HI.out.grown hb hg);have hc9:=(blk_cell HI9.out.hr 2).trans rfl;obtain ⟨A9,c9,rfl⟩:=Kd.R_slice ho;clear ho hb hg hat)|(at_builtin;(with_reducible refine gate_builtin (b:=.append) (xs:=#[.tmp 97,.tmp 99]) rfl ?_);refine Kd.R_append_rows k41 (w0:=w) w.heap.size rfl (.tmp 97) (.tmp 99) 22 41 (.agg #[.string ⟨#[]⟩,.string ⟨#[]⟩]) 32 rfl Tryz.underlying22 info41 rfl (by decide) (by decide) (.slice A n c) L3 [⟨⟨#[67,111,110,110,101,99,116,105,111,110]⟩,⟨#[99,108,111,115,101]⟩⟩] A9 _ c9 (fun _=>True) (fun _=>False) rfl rfl HI9.out.ho (Kd.R_reads' HO9.out).2.2 (fun x cs h=>by obtain rfl:=k41_open h;exact k41_mkM _ _ _ _) (fun _ h=>h.elim) (fun _ _=>trivial) HI9.out.bel HI9.out.bel.size (hl_ HI.out.hn (by simp)) ?_;intro v10 w10 ho hb hg hat;have HX:=mkA (HI9.out.put (by decide) (by decide) HG.out ho hb hg (hn_ HN.out (by simp)));have hr10:=HI9.out.hr1 (by decide) hg;have hc10:=(blk_cell hr10 2).trans rfl;have hf10:=blk_frozen hr10 2;obtain ⟨A10,n10,c10,rfl⟩:=R_sliceN ho;clear hr10 ho hb hg hat)|fail)
     go_meet
     case rel=>exact ⟨_,by rw [show qcondF T (x4 % 9)=[⟨⟨#[67,111,110,110,101,99,116,105,111,110]⟩,⟨#[99,108,111,115,101]⟩⟩] from by rw [HD.out];rfl];exact HX.out⟩
    ·have e1:(x4 % 9 == 1)=false:=(by rw [hd];try rfl);have e2:(x4 % 9 == 2)=false:=(by rw [hd];try rfl);have e3:(x4 % 9 == 3)=false:=(by rw [hd];try rfl);have e4:(x4 % 9 == 4)=true:=(by rw [hd];try rfl);have e5:(x4 % 9 == 5)=false:=(by rw [hd];try rfl);have e6:(x4 % 9 == 6)=false:=(by rw [hd];try rfl)
     have HD:=mkA hd
     clear hd
     have hc:=(blk_cell HI.out.hr 2).trans rfl
     go_wp2_with (first|((with_reducible refine gate_dst (N:=107) rfl ?_);refine Kd.R_lit k41 (w0:=w) w.heap.size 41 ?hg (N:=107) ?hd (xs:=[⟨⟨#[65,117,116,104,111,114,105,122,97,116,105,111,110]⟩,⟨#[109,101]⟩⟩]) (inner:=[.string ⟨#[65,117,116,104,111,114,105,122,97,116,105,111,110]⟩,.string ⟨#[109,101]⟩]) (ok:=fun _=>True) (okp:=fun _=>True) ?hr ?hp (fun _ hk=>hk) trivial HI.out.bel HI.out.bel.size (by simp) ?_;(case hd=>rfl);(case hg=>rfl);(case hr=>first|(go_simp;done)|(go_simp;rfl));(case hp=>exact Reps.c2 (k41_mkM _ _ _ ⟨⟨#[65,117,116,104,111,114,105,122,97,116,105,111,110]⟩,⟨#[109,101]⟩⟩) (Reps.none _ _));intro v9 w9 ho hb hg hat;have HO9:=mkA ho;have HI9:=mkA (HI.out.grown hb hg);have hc9:=(blk_cell HI9.out.hr 2).trans rfl;obtain ⟨A9,c9,rfl⟩:=Kd.R_slice ho;clear ho hb hg hat)|(at_builtin;(with_reducible refine gate_builtin (b:=.append) (xs:=#[.tmp 105,.tmp 107]) rfl ?_);refine Kd.R_append_rows k41 (w0:=w) w.heap.size rfl (.tmp 105) (.tmp 107) 22 41 (.agg #[.string ⟨#[]⟩,.string ⟨#[]⟩]) 32 rfl Tryz.underlying22 info41 rfl (by decide) (by decide) (.slice A n c) L3 [⟨⟨#[65,117,116,104,111,114,105,122,97,116,105,111,110]⟩,⟨#[109,101]⟩⟩] A9 _ c9 (fun _=>True) (fun _=>False) rfl rfl HI9.out.ho (Kd.R_reads' HO9.out).2.2 (fun x cs h=>by obtain rfl:=k41_open h;exact k41_mkM _ _ _ _) (fun _ h=>h.elim) (fun _ _=>trivial) HI9.out.bel HI9.out.bel.size (hl_ HI.out.hn (by simp)) ?_;intro v10 w10 ho hb hg hat;have HX:=mkA (HI9.out.put (by decide) (by decide) HG.out ho hb hg (hn_ HN.out (by simp)));have hr10:=HI9.out.hr1 (by decide) hg;have hc10:=(blk_cell hr10 2).trans rfl;have hf10:=blk_frozen hr10 2;obtain ⟨A10,n10,c10,rfl⟩:=R_sliceN ho;clear hr10 ho hb hg hat)|fail)
     go_meet
     case rel=>exact ⟨_,by rw [show qcondF T (x4 % 9)=[⟨⟨#[65,117,116,104,111,114,105,122,97,116,105,111,110]⟩,⟨#[109,101]⟩⟩] from by rw [HD.out];rfl];exact HX.out⟩
    ·have e1:(x4 % 9 == 1)=false:=(by rw [hd];try rfl);have e2:(x4 % 9 == 2)=false:=(by rw [hd];try rfl);have e3:(x4 % 9 == 3)=false:=(by rw [hd];try rfl);have e4:(x4 % 9 == 4)=false:=(by rw [hd];try rfl);have e5:(x4 % 9 == 5)=true:=(by rw [hd];try rfl);have e6:(x4 % 9 == 6)=false:=(by rw [hd];try rfl)
     have HD:=mkA hd
     clear hd
     have hc:=(blk_cell HI.out.hr 2).trans rfl
     go_wp2_with (first|((with_reducible refine gate_dst (N:=117) rfl ?_);refine Kd.R_lit k41 (w0:=w) w.heap.size 41 ?hg (N:=117) ?hd (xs:=[⟨⟨#[67,111,110,110,101,99,116,105,111,110]⟩,⟨#[88,45,72,111,112]⟩⟩,⟨⟨#[88,45,72,111,112]⟩,⟨#[49]⟩⟩,⟨⟨#[86,105,97]⟩,⟨#[49,46,48,32,122]⟩⟩]) (inner:=[.string ⟨#[67,111,110,110,101,99,116,105,111,110]⟩,.string ⟨#[88,45,72,111,112]⟩,.string ⟨#[88,45,72,111,112]⟩,.string ⟨#[49]⟩,.string ⟨#[86,105,97]⟩,.string ⟨#[49,46,48,32,122]⟩]) (ok:=fun _=>True) (okp:=fun _=>True) ?hr ?hp (fun _ hk=>hk) trivial HI.out.bel HI.out.bel.size (by simp) ?_;(case hd=>rfl);(case hg=>rfl);(case hr=>first|(go_simp;done)|(go_simp;rfl));(case hp=>exact Reps.c2 (k41_mkM _ _ _ ⟨⟨#[67,111,110,110,101,99,116,105,111,110]⟩,⟨#[88,45,72,111,112]⟩⟩) (Reps.c2 (k41_mkM _ _ _ ⟨⟨#[88,45,72,111,112]⟩,⟨#[49]⟩⟩) (Reps.c2 (k41_mkM _ _ _ ⟨⟨#[86,105,97]⟩,⟨#[49,46,48,32,122]⟩⟩) (Reps.none _ _))));intro v9 w9 ho hb hg hat;have HO9:=mkA ho;have HI9:=mkA (HI.out.grown hb hg);have hc9:=(blk_cell HI9.out.hr 2).trans rfl;obtain ⟨A9,c9,rfl⟩:=Kd.R_slice ho;clear ho hb hg hat)|(at_builtin;(with_reducible refine gate_builtin (b:=.append) (xs:=#[.tmp 113,.tmp 117]) rfl ?_);refine Kd.R_append_rows k41 (w0:=w) w.heap.size rfl (.tmp 113) (.tmp 117) 22 41 (.agg #[.string ⟨#[]⟩,.string ⟨#[]⟩]) 32 rfl Tryz.underlying22 info41 rfl (by decide) (by decide) (.slice A n c) L3 [⟨⟨#[67,111,110,110,101,99,116,105,111,110]⟩,⟨#[88,45,72,111,112]⟩⟩,⟨⟨#[88,45,72,111,112]⟩,⟨#[49]⟩⟩,⟨⟨#[86,105,97]⟩,⟨#[49,46,48,32,122]⟩⟩] A9 _ c9 (fun _=>True) (fun _=>False) rfl rfl HI9.out.ho (Kd.R_reads' HO9.out).2.2 (fun x cs h=>by obtain rfl:=k41_open h;exact k41_mkM _ _ _ _) (fun _ h=>h.elim) (fun _ _=>trivial) HI9.out.bel HI9.out.bel.size (hl_ HI.out.hn (by simp)) ?_;intro v10 w10 ho hb hg hat;have HX:=mkA (HI9.out.put (by decide) (by decide) HG.out ho hb hg (hn_ HN.out (by simp)));have hr10:=HI9.out.hr1 (by decide) hg;have hc10:=(blk_cell hr10 2).trans rfl;have hf10:=blk_frozen hr10 2;obtain ⟨A10,n10,c10,rfl⟩:=R_sliceN ho;clear hr10 ho hb hg hat)|fail)
     go_meet
     case rel=>exact ⟨_,by rw [show qcondF T (x4 % 9)=[⟨⟨#[67,111,110,110,101,99,116,105,111,110]⟩,⟨#[88,45,72,111,112]⟩⟩,⟨⟨#[88,45,72,111,112]⟩,⟨#[49]⟩⟩,⟨⟨#[86,105,97]⟩,⟨#[49,46,48,32,122]⟩⟩] from by rw [HD.out];rfl];exact HX.out⟩
    ·have e1:(x4 % 9 == 1)=false:=(by rw [hd];try rfl);have e2:(x4 % 9 == 2)=false:=(by rw [hd];try rfl);have e3:(x4 % 9 == 3)=false:=(by rw [hd];try rfl);have e4:(x4 % 9 == 4)=false:=(by rw [hd];try rfl);have e5:(x4 % 9 == 5)=false:=(by rw [hd];try rfl);have e6:(x4 % 9 == 6)=true:=(by rw [hd];try rfl)
     have HD:=mkA hd
     clear hd
     have hc:=(blk_cell HI.out.hr 2).trans rfl
     go_wp2_with (first|((with_reducible refine gate_dst (N:=125) rfl ?_);refine Kd.R_lit k41 (w0:=w) w.heap.size 41 ?hg (N:=125) ?hd (xs:=[⟨⟨#[82,97,110,103,101]⟩,⟨#[98,121,116,101,115,61,48,45,49]⟩⟩]) (inner:=[.string ⟨#[82,97,110,103,101]⟩,.string ⟨#[98,121,116,101,115,61,48,45,49]⟩]) (ok:=fun _=>True) (okp:=fun _=>True) ?hr ?hp (fun _ hk=>hk) trivial HI.out.bel HI.out.bel.size (by simp) ?_;(case hd=>rfl);(case hg=>rfl);(case hr=>first|(go_simp;done)|(go_simp;rfl));(case hp=>exact Reps.c2 (k41_mkM _ _ _ ⟨⟨#[82,97,110,103,101]⟩,⟨#[98,121,116,101,115,61,48,45,49]⟩⟩) (Reps.none _ _));intro v9 w9 ho hb hg hat;have HO9:=mkA ho;have HI9:=mkA (HI.out.grown hb hg);have hc9:=(blk_cell HI9.out.hr 2).trans rfl;obtain ⟨A9,c9,rfl⟩:=Kd.R_slice ho;clear ho hb hg hat)|(at_builtin;(with_reducible refine gate_builtin (b:=.append) (xs:=#[.tmp 123,.tmp 125]) rfl ?_);refine Kd.R_append_rows k41 (w0:=w) w.heap.size rfl (.tmp 123) (.tmp 125) 22 41 (.agg #[.string ⟨#[]⟩,.string ⟨#[]⟩]) 32 rfl Tryz.underlying22 info41 rfl (by decide) (by decide) (.slice A n c) L3 [⟨⟨#[82,97,110,103,101]⟩,⟨#[98,121,116,101,115,61,48,45,49]⟩⟩] A9 _ c9 (fun _=>True) (fun _=>False) rfl rfl HI9.out.ho (Kd.R_reads' HO9.out).2.2 (fun x cs h=>by obtain rfl:=k41_open h;exact k41_mkM _ _ _ _) (fun _ h=>h.elim) (fun _ _=>trivial) HI9.out.bel HI9.out.bel.size (hl_ HI.out.hn (by simp)) ?_;intro v10 w10 ho hb hg hat;have HX:=mkA (HI9.out.put (by decide) (by decide) HG.out ho hb hg (hn_ HN.out (by simp)));have hr10:=HI9.out.hr1 (by decide) hg;have hc10:=(blk_cell hr10 2).trans rfl;have hf10:=blk_frozen hr10 2;obtain ⟨A10,n10,c10,rfl⟩:=R_sliceN ho;clear hr10 ho hb hg hat)|fail)
     go_meet
     case rel=>exact ⟨_,by rw [show qcondF T (x4 % 9)=[⟨⟨#[82,97,110,103,101]⟩,⟨#[98,121,116,101,115,61,48,45,49]⟩⟩] from by rw [HD.out];rfl];exact HX.out⟩
    ·have e1:(x4 % 9 == 1)=false:=(by rw [hd];try rfl);have e2:(x4 % 9 == 2)=false:=(by rw [hd];try rfl);have e3:(x4 % 9 == 3)=false:=(by rw [hd];try rfl);have e4:(x4 % 9 == 4)=false:=(by rw [hd];try rfl);have e5:(x4 % 9 == 5)=false:=(by rw [hd];try rfl);have e6:(x4 % 9 == 6)=false:=(by rw [hd];try rfl)
     have HD:=mkA hd
     clear hd
     go_wp2
     go_meet
     case rel=>exact ⟨_,by rw [show qcondF T (x4 % 9)=[] from by rw [HD.out];rfl,List.append_nil];exact HI.out⟩
    ·have e1:(x4 % 9 == 1)=false:=(by rw [hd];try rfl);have e2:(x4 % 9 == 2)=false:=(by rw [hd];try rfl);have e3:(x4 % 9 == 3)=false:=(by rw [hd];try rfl);have e4:(x4 % 9 == 4)=false:=(by rw [hd];try rfl);have e5:(x4 % 9 == 5)=false:=(by rw [hd];try rfl);have e6:(x4 % 9 == 6)=false:=(by rw [hd];try rfl)
     have HD:=mkA hd
     clear hd
     go_wp2
     go_meet
     case rel=>exact ⟨_,by rw [show qcondF T (x4 % 9)=[] from by rw [HD.out];rfl,List.append_nil];exact HI.out⟩
   case rest=>
    obtain ⟨v,hI⟩:=hcut.out
    clear hcut HI
    obtain ⟨L4,hL⟩:∃ L,L=L3++qcondF T (x4 % 9):=⟨_,rfl⟩
    rw [← hL] at hI
    replace HN:=mkA (show L4.length≤7 from by rw [hL,List.length_append];have h1:=HN.out;have h2:=qcondF_len T (x4 % 9);omega)
    have HL4:=mkA hL
    obtain ⟨A,n,c,rfl⟩:=R_sliceN hI.ho
    have HI:=mkA hI
    clear hI hL
    have hc:=(blk_cell HI.out.hr 0).trans rfl
    go_upto_if 130 with (fail)
    clear hc
    refine name_world (fun W=>SI w w.heap.size (w.heap.size+1) gR 29 25 #[.int .u8 x0,.int .u8 x1,.int .u8 x2,.int .u8 x3,.int .u8 x4,.int .u8 x5] #[.string ⟨#[]⟩,.string ⟨#[]⟩,.slice none 0 0,.slice none 0 0] (.string m) (.string tg) L4 (.slice A n c) W) HI.out ?_
    clear HI
    intro w7 hI
    have HI:=mkA hI
    clear hI
    go_cut [] (fun wc=>Aside0 (SF w (w.heap.size+1) gR 25 #[.string ⟨#[]⟩,.string ⟨#[]⟩,.slice none 0 0,.slice none 0 0] (.string m) (.string tg) L4 (if m.toList=([80,79,83,84]:List UInt8) then digL.take (x5 % 11).toNat else []) wc))
    case first=>
     cases hb:(m.toList == ([80,79,83,84]:List UInt8)) with
     |false=>
      go_wp2
      go_meet
      case rel=>exact ⟨by rw [if_neg (beq_eq_false_iff_ne.1 hb)];exact HI.out.bare⟩
     |true=>
      have hv:=Lib.run_convert_bytes_const (P:=Tryz.prog) w7 23 5 #[Value.int IntKind.u8 48,Value.int IntKind.u8 49,Value.int IntKind.u8 50,Value.int IntKind.u8 51,Value.int IntKind.u8 52,Value.int IntKind.u8 53,Value.int IntKind.u8 54,Value.int IntKind.u8 55,Value.int IntKind.u8 56,Value.int IntKind.u8 57] 10 10 Tryz.underlying23 Tryz.underlying5
      have hA:(w7.alloc (Obj.cells #[Value.int IntKind.u8 48,Value.int IntKind.u8 49,Value.int IntKind.u8 50,Value.int IntKind.u8 51,Value.int IntKind.u8 52,Value.int IntKind.u8 53,Value.int IntKind.u8 54,Value.int IntKind.u8 55,Value.int IntKind.u8 56,Value.int IntKind.u8 57] 5 (10,11))).cell? ⟨w.heap.size,5,none⟩=some (.int .u8 x5):=blk_cell (HI.out.al _).ha 5
      have hc:(w7.alloc (Obj.cells #[Value.int IntKind.u8 48,Value.int IntKind.u8 49,Value.int IntKind.u8 50,Value.int IntKind.u8 51,Value.int IntKind.u8 52,Value.int IntKind.u8 53,Value.int IntKind.u8 54,Value.int IntKind.u8 55,Value.int IntKind.u8 56,Value.int IntKind.u8 57] 5 (10,11))).cell? ⟨gR,3,none⟩=some (.slice none 0 0):=blk_cell (HI.out.al _).hr 3
      have hf:(w7.alloc (Obj.cells #[Value.int IntKind.u8 48,Value.int IntKind.u8 49,Value.int IntKind.u8 50,Value.int IntKind.u8 51,Value.int IntKind.u8 52,Value.int IntKind.u8 53,Value.int IntKind.u8 54,Value.int IntKind.u8 55,Value.int IntKind.u8 56,Value.int IntKind.u8 57] 5 (10,11))).frozen? ⟨gR,3,none⟩=false:=blk_frozen (HI.out.al _).hr 3
      have hk:=tm x5 11 h5.1 (by decide)
      have HK:=mkA (show (x5 % 11).toNat≤10 from by omega)
      have hk0:=hk.1
      have hk1:x5 % 11≤10:=by omega
      clear hk
      go_wp2
      go_meet
      case rel=>exact ⟨by rw [if_pos (beq_iff_eq.1 hb)];exact (HI.out.al _).body (L:=digL) (by decide) HG.out _ HI.out.bel.size (heap_alloc_new w7 _) HK.out rfl (by decide)⟩
    case rest=>
     have HF:=mkA hcut.out
     clear hcut HI
     obtain ⟨v,A3,n3,c3,hn3,hr,ho,hc3,hb⟩:=HF.out.hs
     have HN3:=mkA hn3
     clear hn3
     obtain ⟨A,c,rfl⟩:=Kd.R_slice ho
     have HR:=mkA hr
     have HO:=mkA ho
     have HBY:=mkA hb
     have HC3:=mkA hc3
     clear hr ho hb hc3
     obtain ⟨bd,hbd⟩:∃ q,q=(if m.toList=([80,79,83,84]:List UInt8) then digL.take (x5 % 11).toNat else []):=⟨_,rfl⟩
     rw [← hbd] at HBY HN3 HF
     have HBD:=mkA hbd
     clear hbd
     have HS4:=mkA (fun (x y z t:Value)=>show (Tryz.prog.info? 25).map (·.size)=some (#[x,y,z,t]:Array Value).size from by kernel_rfl)
     go_wp2_with (first|(with_reducible refine wpList_load_row rfl 25 _ rfl gR rfl 25 #[.string m,.string tg,.slice A L4.length c,.slice A3 n3 c3] (0,0) _ HR.out Tryz.underlying25 rfl (HS4.out _ _ _ _) ?_)|(with_reducible refine wpList_store_row rfl 25 _ _ rfl (w.heap.size+1) #[.string m,.string tg,.slice A L4.length c,.slice A3 n3 c3] rfl rfl 25 _ HF.out.hz (HS4.out _ _ _ _) rfl (by simp [Value.oneCell']) ?_))
     have hC:=R_setRow HO.out HF.out.hz rfl (by decide) #[.string m,.string tg,.slice A L4.length c,.slice A3 n3 c3]
     have hD:∀ W':World,(∀ k,w.heap.size≤k→k < (wc.setRow (w.heap.size+1) #[.string m,.string tg,.slice A L4.length c,.slice A3 n3 c3]).heap.size→W'.heap[k]?=(wc.setRow (w.heap.size+1) #[.string m,.string tg,.slice A L4.length c,.slice A3 n3 c3]).heap[k]?)→_:=fun W' hW=>HBY.out W' (fun k h1 h2 h3=>(hW k h1 (by rw [size_setRow];exact h2)).trans (setRow_other _ _ _ _ h3))
     have hn3:=HN3.out
     subst hn3
     have hF:reqF T x0 x1 x2 x3 x4 x5=(m,tg,L4,bd):=by unfold reqF;rw [HBD.out,HL4.out,HL3.out,HL2.out,HL1.out,HL0.out,← HM.out,← HTG.out,← HHO.out,← HSY.out];rfl
     rw [hF]
     exact bodyPost_ret (results_cell_row rfl _ _ (w.heap.size+1) 25 #[.string m,.string tg,.slice A L4.length c,.slice A3 bd.length c3] (0,0) _ rfl (setRow_heap _ _ _ _ _ _ HF.out.hz) Tryz.underlying25 rfl (HS4.out _ _ _ _)) rfl ⟨A,c,A3,c3,rfl,fun W' hW=>⟨(Kd.R_reads' (Kd.R_step (Kd.R_bound hC) (fun k hk hlt=>hW k hk.2.1 hlt))).2.2,hD W' hW⟩,(Kd.R_reads' hC).2.1,HC3.out,below_setRow HF.out.bel (by omega) _⟩
end Go.Proofs.YtlnmnjbihgaliaaGreat.Pr
