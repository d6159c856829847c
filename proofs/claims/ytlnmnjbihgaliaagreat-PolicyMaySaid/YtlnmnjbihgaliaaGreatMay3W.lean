import Derived.Test.YtlnmnjbihgaliaaGreatSeatL
set_option linter.unusedVariables false
set_option linter.unusedSimpArgs false
open Go.RowKit Go.Proofs.YtlnmnjbihgaliaaGreatW.PrintWords Go.Proofs.YtlnmnjbihgaliaaGreatW.PrintMore Go.Proofs.YtlnmnjbihgaliaaGreatW.PrintLast
namespace Go.Proofs.YtlnmnjbihgaliaaGreat.Pr
theorem wpG_load_row{P:Program}{Q:Exit→Act→World→Prop}{ops:Array Oper}{rest:List Oper}{o:Oper}{a:Act}{w:World}(hw:Region.wanted o (yielded ops a.tmps)=true)(ty:TypeId)(x:Operand)(ho:o.op=.load ty x)
  (g:Nat) (hx:a.eval x=.pointer (some ⟨g,0,none⟩)) (t:TypeId) (cs:Array Value) (fr:Nat × Nat) (d:TypeDesc) (hg:w.heap[g]?=some (.cells cs t fr))
  (hu:P.underlying ty=some d) (hd:(match d with|.struct _|.array _ _=>true|_=>false)=true) (hi:(P.info? ty).map (·.size)=some cs.size) (N:Tmp) (hN:o.dst=some N)
  (h:wpList P ops Q rest (a.put (some N) (.agg cs)) w):wpList P ops Q (o :: rest) a w:=by
 unfold wpList
 rw [if_pos hw]
 refine .inl (wp_load_row ty x ho g hx t cs fr d hg hu hd hi ?_)
 rw [hN]
 exact h
theorem goesG_ {P : Program} {Q : Exit → Act → World → Prop} {ops : Array Oper} {rest : List Oper} {oi : Oper} {a : Act} {w : World} (N : Tmp) (hd : oi.dst = some N) (hw : Region.wanted oi (yielded ops a.tmps) = true) {f : FuncId} {fn : Func} {xs : Array Operand} {ts : Array TypeId} (hf : P.funcs[f]? = some fn) (hname : (fn.name == "runtime.NumGoroutine") = false) (hb : fn.body.isSome = true) (args : Array Value)
  (hop:oi.op=.call { callee:=.value (.func f),args:=xs,argTypes:=ts }) (hargs:xs.map a.eval=args)
  (h:Calls P f args w fun e w'=>∃ v,e=.returned v∧wpList P ops Q rest (a.put (some N) v) w'):wpList P ops Q (oi :: rest) a w:=by
 unfold wpList
 rw [if_pos hw]
 refine .inl ?_
 have he:=enters_ hf hname hb args w
 have hrun:(execOp a.eval oi).run P w=.ok (.enter f args) w:=by
  unfold execOp
  simp [hop,resolve,Deferred.ofValue,invoke,Act.eval,hargs,he]
 unfold Oper.wp
 rw [hrun,Oper.upon_enter]
 refine h.mono fun e w'' hh=>?_
 obtain ⟨v,rfl,hk⟩:=hh
 rw [hd]
 exact hk
/-- Both ways of May and of Safe answer alike, in each world behind. -/
structure MayOK(q r:Array Value)(m:ByteArray)(W0:World):Prop where
 may:∃ b:Bool,(∀ W,Below W0.heap.size W0 W→Calls Tryz.prog 9 #[.agg q,.agg r] W fun e w'=>e=.returned (.bool b)∧Below W.heap.size W w')∧(∀ W,Below W0.heap.size W0 W→Calls Tryz.prog 10 #[.agg q,.agg r] W fun e w'=>e=.returned (.bool b)∧Below W.heap.size W w')
 safe:∃ b:Bool,(∀ W,Calls Tryz.prog 11 #[.string m] W fun e w'=>e=.returned (.bool b)∧Below W.heap.size W w')∧(∀ W,Calls Tryz.prog 12 #[.string m] W fun e w'=>e=.returned (.bool b)∧Below W.heap.size W w')
theorem on4{a b c d:Value}(h:(#[a,b,c,d]:Array Value).all (·.oneCell')=true):a.oneCell'=true∧b.oneCell'=true∧c.oneCell'=true∧d.oneCell'=true:=by simpa [and_assoc] using h
set_option maxRecDepth 100000 in
set_option maxHeartbeats 8000000 in
theorem may3_walk(m:ByteArray)(q1 q2 q3 r0 r1 r2 r3:Value)(x0 x1 x2 x3 x4 x5 y0 y1 y2 y3 y4 y5:Int)(made lq lr:Bool)(w:World)(hq:(#[.string m,q1,q2,q3]:Array Value).all (·.oneCell')=true)(hr:(#[r0,r1,r2,r3]:Array Value).all (·.oneCell')=true)
  (cK:∀ W,Calls Tryz.prog 4 #[] W fun e w'=>e=.returned (.bool true)∧Below W.heap.size W w')
  (cLQ:∀ W,Below w.heap.size w W→Calls Tryz.prog 5 #[.agg #[.string m,q1,q2,q3]] W fun e w'=>e=.returned (.bool lq)∧Below W.heap.size W w')
  (cLR:∀ W,Below w.heap.size w W→Calls Tryz.prog 6 #[.agg #[r0,r1,r2,r3]] W fun e w'=>e=.returned (.bool lr)∧Below W.heap.size W w')
  (cOK:lq=true→lr=true→made=false→∀ W,Below w.heap.size w W→MayOK #[.string m,q1,q2,q3] #[r0,r1,r2,r3] m W)
  (QF:ByteArray→Value→Value→Value→World→World→Prop) (RF:Value→Value→Value→Value→World→World→Prop)
  (cQ:∀ W,Below w.heap.size w W→Calls Tryz.prog 7 #[.agg #[.int .u8 x0,.int .u8 x1,.int .u8 x2,.int .u8 x3,.int .u8 x4,.int .u8 x5]] W fun e w'=>∃ m2 p1 p2 p3,e=.returned (.agg #[.string m2,p1,p2,p3])∧(#[.string m2,p1,p2,p3]:Array Value).all (·.oneCell')=true∧Below W.heap.size W w'∧QF m2 p1 p2 p3 W w')
  (cR:∀ W,Below w.heap.size w W→Calls Tryz.prog 8 #[.agg #[.int .u8 y0,.int .u8 y1,.int .u8 y2,.int .u8 y3,.int .u8 y4,.int .u8 y5],.int .i64 1000000000] W fun e w'=>∃ t0 t1 t2 t3,e=.returned (.agg #[t0,t1,t2,t3])∧(#[t0,t1,t2,t3]:Array Value).all (·.oneCell')=true∧Below W.heap.size W w'∧RF t0 t1 t2 t3 W w')
  (cF:∀ m2 p1 p2 p3 t0 t1 t2 t3 (A B C:World),QF m2 p1 p2 p3 A B→RF t0 t1 t2 t3 B C→w.heap.size+4≤A.heap.size→A.heap.size≤B.heap.size→Below B.heap.size B C→∀ D:World,(∀ k,A.heap.size≤k→k < C.heap.size→D.heap[k]?=C.heap[k]?)→MayOK #[.string m2,p1,p2,p3] #[t0,t1,t2,t3] m2 D) :
  Calls Tryz.prog 3 #[.agg #[.string m,q1,q2,q3],.agg #[r0,r1,r2,r3],.agg #[.int .u8 x0,.int .u8 x1,.int .u8 x2,.int .u8 x3,.int .u8 x4,.int .u8 x5],.agg #[.int .u8 y0,.int .u8 y1,.int .u8 y2,.int .u8 y3,.int .u8 y4,.int .u8 y5],.bool made] w fun e w'=>e=.returned (.bool true)∧Below w.heap.size w w':=by
 have HcK:=mkA cK
 have HcLQ:=mkA cLQ
 have HcLR:=mkA cLR
 have HcOK:=mkA cOK
 have HcQ:=mkA cQ
 have HcR:=mkA cR
 have HcF:=mkA cF
 have HOQ:=mkA (on4 hq)
 have HOR:=mkA (on4 hr)
 have HAQ:=mkA hq
 have HAR:=mkA hr
 obtain ⟨_,o1,o2,o3⟩:=HOQ.out
 obtain ⟨o4,o5,o6,o7⟩:=HOR.out
 clear cK cLQ cLR cOK cQ cR cF hq hr
 go_enter Tryz.func3,Tryz.ntmps3
 go_upto_region 1 with (fail)
 refine name_world (fun W=>(((W.heap[w.heap.size]?=some (.cells #[.string m,q1,q2,q3] 25 (0,0))∧W.heap[w.heap.size+1]?=some (.cells #[r0,r1,r2,r3] 27 (0,0)))∧(W.heap[w.heap.size+2]?=some (.cells #[.int .u8 x0,.int .u8 x1,.int .u8 x2,.int .u8 x3,.int .u8 x4,.int .u8 x5] 29 (0,0))∧W.heap[w.heap.size+3]?=some (.cells #[.int .u8 y0,.int .u8 y1,.int .u8 y2,.int .u8 y3,.int .u8 y4,.int .u8 y5] 31 (0,0))))∧Below w.heap.size w W)∧w.heap.size+4≤W.heap.size) ⟨⟨⟨⟨blk_al (blk_al (blk_al (heap_alloc_new w _))),blk_al (blk_al (new2 _ _ _))⟩,⟨blk_al (by have:=heap_alloc_new ((w.alloc (.cells #[.string m,q1,q2,q3] 25)).alloc (.cells #[r0,r1,r2,r3] 27)) (.cells #[.int .u8 x0,.int .u8 x1,.int .u8 x2,.int .u8 x3,.int .u8 x4,.int .u8 x5] 29);simpa using this),by have:=heap_alloc_new (((w.alloc (.cells #[.string m,q1,q2,q3] 25)).alloc (.cells #[r0,r1,r2,r3] 27)).alloc (.cells #[.int .u8 x0,.int .u8 x1,.int .u8 x2,.int .u8 x3,.int .u8 x4,.int .u8 x5] 29)) (.cells #[.int .u8 y0,.int .u8 y1,.int .u8 y2,.int .u8 y3,.int .u8 y4,.int .u8 y5] 31);simpa using this⟩⟩,((((Below.refl w.heap.size w).alloc (Nat.le_refl _) _).alloc (by simp) _).alloc (by simp;omega) _).alloc (by simp;omega) _⟩,by simp⟩ ?_
 rintro W0 hT
 have HT:=mkA hT
 clear hT
 have HB:=mkA (Below.refl W0.heap.size W0)
 go_upto_region 3 with (first|(go_at_call 4;refine (HcK.out _).mono ?_;rintro e w1 ⟨rfl,hb⟩;have HB:=mkA (HB.out.trans (hb.mono HB.out.size));clear hb)|fail)
 cases lq with
 |false=>
  go_wp2_with (first|((with_reducible refine gate_dst (N:=13) rfl ?_);refine wpG_load_row (by rfl) 25 _ rfl (w.heap.size) rfl 25 _ (0,0) _ (blk_below HT.out.1.1.1.1 HB.out) Tryz.underlying25 rfl (by kernel_rfl) 13 rfl ?_)|((with_reducible refine gate_dst (N:=17) rfl ?_);refine wpG_load_row (by rfl) 27 _ rfl (w.heap.size+1) rfl 27 _ (0,0) _ (blk_below HT.out.1.1.1.2 HB.out) Tryz.underlying27 rfl (by kernel_rfl) 17 rfl ?_)|(go_at_call 5;refine (HcLQ.out _ (HT.out.1.2.trans (HB.out.mono HT.out.1.2.size))).mono ?_;rintro e w3 ⟨rfl,hb⟩;have HB:=mkA (HB.out.trans (hb.mono HB.out.size));clear hb)|((with_reducible refine gate_dst (N:=18) rfl ?_);refine goesG_ 18 rfl (by rfl) Tryz.func6 (by kernel_rfl) rfl #[.agg #[r0,r1,r2,r3]] rfl (by simp only [List.map_toArray,List.map_cons,List.map_nil];rfl) ?_;refine (HcLR.out _ (HT.out.1.2.trans (HB.out.mono HT.out.1.2.size))).mono ?_;rintro e w3 ⟨rfl,hb⟩;refine ⟨_,rfl,?_⟩;have HB:=mkA (HB.out.trans (hb.mono HB.out.size));clear hb)|fail)
  go_ret
  exact ⟨rfl,(HT.out.1.2.trans (HB.out.mono HT.out.1.2.size))⟩
 |true=>
  cases lr with
  |false=>
   go_wp2_with (first|((with_reducible refine gate_dst (N:=13) rfl ?_);refine wpG_load_row (by rfl) 25 _ rfl (w.heap.size) rfl 25 _ (0,0) _ (blk_below HT.out.1.1.1.1 HB.out) Tryz.underlying25 rfl (by kernel_rfl) 13 rfl ?_)|((with_reducible refine gate_dst (N:=17) rfl ?_);refine wpG_load_row (by rfl) 27 _ rfl (w.heap.size+1) rfl 27 _ (0,0) _ (blk_below HT.out.1.1.1.2 HB.out) Tryz.underlying27 rfl (by kernel_rfl) 17 rfl ?_)|(go_at_call 5;refine (HcLQ.out _ (HT.out.1.2.trans (HB.out.mono HT.out.1.2.size))).mono ?_;rintro e w3 ⟨rfl,hb⟩;have HB:=mkA (HB.out.trans (hb.mono HB.out.size));clear hb)|((with_reducible refine gate_dst (N:=18) rfl ?_);refine goesG_ 18 rfl (by rfl) Tryz.func6 (by kernel_rfl) rfl #[.agg #[r0,r1,r2,r3]] rfl (by simp only [List.map_toArray,List.map_cons,List.map_nil];rfl) ?_;refine (HcLR.out _ (HT.out.1.2.trans (HB.out.mono HT.out.1.2.size))).mono ?_;rintro e w3 ⟨rfl,hb⟩;refine ⟨_,rfl,?_⟩;have HB:=mkA (HB.out.trans (hb.mono HB.out.size));clear hb)|fail)
   go_ret
   exact ⟨rfl,(HT.out.1.2.trans (HB.out.mono HT.out.1.2.size))⟩
  |true=>
   go_upto_if 21 with (first|((with_reducible refine gate_dst (N:=13) rfl ?_);refine wpG_load_row (by rfl) 25 _ rfl (w.heap.size) rfl 25 _ (0,0) _ (blk_below HT.out.1.1.1.1 HB.out) Tryz.underlying25 rfl (by kernel_rfl) 13 rfl ?_)|((with_reducible refine gate_dst (N:=17) rfl ?_);refine wpG_load_row (by rfl) 27 _ rfl (w.heap.size+1) rfl 27 _ (0,0) _ (blk_below HT.out.1.1.1.2 HB.out) Tryz.underlying27 rfl (by kernel_rfl) 17 rfl ?_)|(go_at_call 5;refine (HcLQ.out _ (HT.out.1.2.trans (HB.out.mono HT.out.1.2.size))).mono ?_;rintro e w3 ⟨rfl,hb⟩;have HB:=mkA (HB.out.trans (hb.mono HB.out.size));clear hb)|((with_reducible refine gate_dst (N:=18) rfl ?_);refine goesG_ 18 rfl (by rfl) Tryz.func6 (by kernel_rfl) rfl #[.agg #[r0,r1,r2,r3]] rfl (by simp only [List.map_toArray,List.map_cons,List.map_nil];rfl) ?_;refine (HcLR.out _ (HT.out.1.2.trans (HB.out.mono HT.out.1.2.size))).mono ?_;rintro e w3 ⟨rfl,hb⟩;refine ⟨_,rfl,?_⟩;have HB:=mkA (HB.out.trans (hb.mono HB.out.size));clear hb)|fail)
   refine name_world (fun W=>Below W0.heap.size W0 W) HB.out ?_
   clear HB
   intro w4 hb
   have HB:=mkA hb
   clear hb
   go_cut [] (fun wc=>Aside0 (∃ m2 p1 p2 p3 t0 t1 t2 t3,wc.heap[w.heap.size]?=some (.cells #[.string m2,p1,p2,p3] 25 (0,0))∧wc.heap[w.heap.size+1]?=some (.cells #[t0,t1,t2,t3] 27 (0,0))∧Below w.heap.size w wc∧(#[.string m2,p1,p2,p3]:Array Value).all (·.oneCell')=true∧(#[t0,t1,t2,t3]:Array Value).all (·.oneCell')=true∧MayOK #[.string m2,p1,p2,p3] #[t0,t1,t2,t3] m2 wc))
   case first=>
    cases made with
    |false=>
     go_wp2
     go_meet
     case rel=>exact ⟨m,q1,q2,q3,r0,r1,r2,r3,blk_below HT.out.1.1.1.1 HB.out,blk_below HT.out.1.1.1.2 HB.out,(HT.out.1.2.trans (HB.out.mono HT.out.1.2.size)),HAQ.out,HAR.out,HcOK.out (by first|rfl|trivial) (by first|rfl|trivial) (by first|rfl|trivial) _ (HT.out.1.2.trans (HB.out.mono HT.out.1.2.size))⟩
    |true=>
     go_upto_region 6 with (fail)
     obtain ⟨w4d,hw4,HB⟩:∃ w9,w9=w4.drew∧Aside0 (Below W0.heap.size W0 w9):=⟨_,rfl,⟨pw_below_drewN HB.out 1⟩⟩
     refine start_ (n:=6) (S:=fun w'=>w'.cell? ⟨w.heap.size+2,0,none⟩=some (.int .u8 x0)∧w'.cell? ⟨w.heap.size+2,1,none⟩=some (.int .u8 x1)∧w'.cell? ⟨w.heap.size+2,2,none⟩=some (.int .u8 x2)∧w'.cell? ⟨w.heap.size+2,3,none⟩=some (.int .u8 x3)∧w'.cell? ⟨w.heap.size+2,4,none⟩=some (.int .u8 x4)∧w'.cell? ⟨w.heap.size+2,5,none⟩=some (.int .u8 x5)∧w'.cell? ⟨w.heap.size+3,0,none⟩=some (.int .u8 y0)∧w'.cell? ⟨w.heap.size+3,1,none⟩=some (.int .u8 y1)∧w'.cell? ⟨w.heap.size+3,2,none⟩=some (.int .u8 y2)∧w'.cell? ⟨w.heap.size+3,3,none⟩=some (.int .u8 y3)∧w'.cell? ⟨w.heap.size+3,4,none⟩=some (.int .u8 y4)∧w'.cell? ⟨w.heap.size+3,5,none⟩=some (.int .u8 y5)) (ds:=[]) #[qf,qf,qf,qf,qf,qf] (by kernel_rfl) rfl rfl ⟨(by rw [← hw4];exact (blk_cell (blk_below HT.out.1.1.2.1 HB.out) 0)),(by rw [← hw4];exact (blk_cell (blk_below HT.out.1.1.2.1 HB.out) 1)),(by rw [← hw4];exact (blk_cell (blk_below HT.out.1.1.2.1 HB.out) 2)),(by rw [← hw4];exact (blk_cell (blk_below HT.out.1.1.2.1 HB.out) 3)),(by rw [← hw4];exact (blk_cell (blk_below HT.out.1.1.2.1 HB.out) 4)),(by rw [← hw4];exact (blk_cell (blk_below HT.out.1.1.2.1 HB.out) 5)),(by rw [← hw4];exact (blk_cell (blk_below HT.out.1.1.2.2 HB.out) 0)),(by rw [← hw4];exact (blk_cell (blk_below HT.out.1.1.2.2 HB.out) 1)),(by rw [← hw4];exact (blk_cell (blk_below HT.out.1.1.2.2 HB.out) 2)),(by rw [← hw4];exact (blk_cell (blk_below HT.out.1.1.2.2 HB.out) 3)),(by rw [← hw4];exact (blk_cell (blk_below HT.out.1.1.2.2 HB.out) 4)),(by rw [← hw4];exact (blk_cell (blk_below HT.out.1.1.2.2 HB.out) 5))⟩ (fun hHeld=>?_)
     rw [← hw4] at hHeld ⊢
     clear hw4
     refine take_ (i:=0) (N:=some 22) (v:=?_) (a':=?_) #[qt,qf,qf,qf,qf,qf] rfl rfl (by kernel_rfl) (fun _ _ _ h=>h) (Or.inl ⟨by rfl,?_⟩) hHeld ?_ ?_
     rotate_left
     ·rintro w' ⟨s0,s1,s2,s3,s4,s5,s6,s7,s8,s9,s10,s11⟩
      go_simp
      with_reducible rfl
     rotate_left
     ·simp only [Act.put,sAx,sBx,sCx,i64_w,i32_w]
      rfl
     refine take_ (i:=2) (N:=some 24) (v:=?_) (a':=?_) #[qt,qf,qt,qf,qf,qf] rfl rfl (by kernel_rfl) (fun _ _ _ h=>h) (Or.inl ⟨by rfl,?_⟩) hHeld ?_ ?_
     rotate_left
     ·rintro w' ⟨s0,s1,s2,s3,s4,s5,s6,s7,s8,s9,s10,s11⟩
      go_simp
      with_reducible rfl
     rotate_left
     ·simp only [Act.put,sAx,sBx,sCx,i64_w,i32_w]
      rfl
     refine one_ (i:=1) (N:=some 23) #[qt,qt,qt,qf,qf,qf] rfl rfl (by kernel_rfl) (by decide) (fun K hK=>?_)
     refine goes_ Tryz.func7 (by kernel_rfl) rfl #[.agg #[.int .u8 x0,.int .u8 x1,.int .u8 x2,.int .u8 x3,.int .u8 x4,.int .u8 x5]] (by rfl) rfl rfl (by simp only [List.map_toArray,List.map_cons,List.map_nil];rfl) ?_
     refine (HcQ.out _ (HT.out.1.2.trans (HB.out.mono HT.out.1.2.size))).mono ?_
     rintro e w7 ⟨m2,p1,p2,p3,rfl,ho,hb,hf⟩
     refine ⟨_,rfl,?_⟩
     have HOQ2:=mkA ho
     have HQF:=mkA hf
     have HBQ:=mkA hb
     have HSA:=mkA HB.out.size
     have HB:=mkA (HB.out.trans (hb.mono HB.out.size))
     clear ho hb hf
     refine hK.out _ _ ⟨(blk_cell (blk_below HT.out.1.1.2.1 HB.out) 0),(blk_cell (blk_below HT.out.1.1.2.1 HB.out) 1),(blk_cell (blk_below HT.out.1.1.2.1 HB.out) 2),(blk_cell (blk_below HT.out.1.1.2.1 HB.out) 3),(blk_cell (blk_below HT.out.1.1.2.1 HB.out) 4),(blk_cell (blk_below HT.out.1.1.2.1 HB.out) 5),(blk_cell (blk_below HT.out.1.1.2.2 HB.out) 0),(blk_cell (blk_below HT.out.1.1.2.2 HB.out) 1),(blk_cell (blk_below HT.out.1.1.2.2 HB.out) 2),(blk_cell (blk_below HT.out.1.1.2.2 HB.out) 3),(blk_cell (blk_below HT.out.1.1.2.2 HB.out) 4),(blk_cell (blk_below HT.out.1.1.2.2 HB.out) 5)⟩ (fun hHeld=>?_)
     clear hK K
     refine norm_ (a':=?_) ?_ ?_
     rotate_left
     ·show Act.put _ (some 23) _=_
      simp only [Act.put,sAx,sBx,sCx,i64_w,i32_w]
      rfl
     refine one_ (i:=3) (N:=some 25) #[qt,qt,qt,qt,qf,qf] rfl rfl (by kernel_rfl) (by decide) (fun K hK=>?_)
     refine goes_ Tryz.func8 (by kernel_rfl) rfl #[.agg #[.int .u8 y0,.int .u8 y1,.int .u8 y2,.int .u8 y3,.int .u8 y4,.int .u8 y5],.int .i64 1000000000] (by rfl) rfl rfl (by simp only [List.map_toArray,List.map_cons,List.map_nil];rfl) ?_
     refine (HcR.out _ (HT.out.1.2.trans (HB.out.mono HT.out.1.2.size))).mono ?_
     rintro e w8 ⟨t0,t1,t2,t3,rfl,ho,hb,hf⟩
     refine ⟨_,rfl,?_⟩
     have HOR2:=mkA ho
     have HRF:=mkA hf
     have HBR:=mkA hb
     have HB:=mkA (HB.out.trans (hb.mono HB.out.size))
     clear ho hb hf
     refine hK.out _ _ ⟨(blk_cell (blk_below HT.out.1.1.2.1 HB.out) 0),(blk_cell (blk_below HT.out.1.1.2.1 HB.out) 1),(blk_cell (blk_below HT.out.1.1.2.1 HB.out) 2),(blk_cell (blk_below HT.out.1.1.2.1 HB.out) 3),(blk_cell (blk_below HT.out.1.1.2.1 HB.out) 4),(blk_cell (blk_below HT.out.1.1.2.1 HB.out) 5),(blk_cell (blk_below HT.out.1.1.2.2 HB.out) 0),(blk_cell (blk_below HT.out.1.1.2.2 HB.out) 1),(blk_cell (blk_below HT.out.1.1.2.2 HB.out) 2),(blk_cell (blk_below HT.out.1.1.2.2 HB.out) 3),(blk_cell (blk_below HT.out.1.1.2.2 HB.out) 4),(blk_cell (blk_below HT.out.1.1.2.2 HB.out) 5)⟩ (fun hHeld=>?_)
     clear hK K
     refine norm_ (a':=?_) ?_ ?_
     rotate_left
     ·show Act.put _ (some 25) _=_
      simp only [Act.put,sAx,sBx,sCx,i64_w,i32_w]
      rfl
     refine one_ (i:=4) (N:=none) #[qt,qt,qt,qt,qt,qf] rfl rfl (by kernel_rfl) (by decide) (fun K hK=>?_)
     refine store_row_step (by rfl) 25 _ _ rfl w.heap.size #[.string m2,p1,p2,p3] rfl rfl 25 _ (blk_below HT.out.1.1.1.1 HB.out) (by kernel_rfl) rfl HOQ2.out rfl ?_
     refine name_K (fun W=>W.heap[w.heap.size]?=some (.cells #[.string m2,p1,p2,p3] 25 (0,0))∧W.heap[w.heap.size+1]?=some (.cells #[r0,r1,r2,r3] 27 (0,0))∧(W.heap[w.heap.size+2]?=some (.cells #[.int .u8 x0,.int .u8 x1,.int .u8 x2,.int .u8 x3,.int .u8 x4,.int .u8 x5] 29 (0,0))∧W.heap[w.heap.size+3]?=some (.cells #[.int .u8 y0,.int .u8 y1,.int .u8 y2,.int .u8 y3,.int .u8 y4,.int .u8 y5] 31 (0,0)))∧Below w.heap.size w W∧∀ k,w.heap.size+4≤k→W.heap[k]?=w8.heap[k]?) ⟨setRow_heap _ _ _ _ _ _ (blk_below HT.out.1.1.1.1 HB.out),(setRow_other _ _ _ _ (by omega)).trans (blk_below HT.out.1.1.1.2 HB.out),⟨(setRow_other _ _ _ _ (by omega)).trans (blk_below HT.out.1.1.2.1 HB.out),(setRow_other _ _ _ _ (by omega)).trans (blk_below HT.out.1.1.2.2 HB.out)⟩,below_setRow (HT.out.1.2.trans (HB.out.mono HT.out.1.2.size)) (Nat.le_refl _) _,fun k hk=>setRow_other _ _ _ _ (by omega)⟩ ?_
     rintro w9 hm
     have HU:=mkA hm
     clear hm
     refine hK.out _ _ ⟨(blk_cell HU.out.2.2.1.1 0),(blk_cell HU.out.2.2.1.1 1),(blk_cell HU.out.2.2.1.1 2),(blk_cell HU.out.2.2.1.1 3),(blk_cell HU.out.2.2.1.1 4),(blk_cell HU.out.2.2.1.1 5),(blk_cell HU.out.2.2.1.2 0),(blk_cell HU.out.2.2.1.2 1),(blk_cell HU.out.2.2.1.2 2),(blk_cell HU.out.2.2.1.2 3),(blk_cell HU.out.2.2.1.2 4),(blk_cell HU.out.2.2.1.2 5)⟩ (fun hHeld=>?_)
     clear hK K
     refine one_ (i:=5) (N:=none) #[qt,qt,qt,qt,qt,qt] rfl rfl (by kernel_rfl) (by decide) (fun K hK=>?_)
     refine store_row_step (by rfl) 27 _ _ rfl (w.heap.size+1) #[t0,t1,t2,t3] rfl rfl 27 _ HU.out.2.1 (by kernel_rfl) rfl HOR2.out rfl ?_
     refine name_K (fun W=>W.heap[w.heap.size]?=some (.cells #[.string m2,p1,p2,p3] 25 (0,0))∧W.heap[w.heap.size+1]?=some (.cells #[t0,t1,t2,t3] 27 (0,0))∧(W.heap[w.heap.size+2]?=some (.cells #[.int .u8 x0,.int .u8 x1,.int .u8 x2,.int .u8 x3,.int .u8 x4,.int .u8 x5] 29 (0,0))∧W.heap[w.heap.size+3]?=some (.cells #[.int .u8 y0,.int .u8 y1,.int .u8 y2,.int .u8 y3,.int .u8 y4,.int .u8 y5] 31 (0,0)))∧Below w.heap.size w W∧∀ k,w.heap.size+4≤k→W.heap[k]?=w8.heap[k]?) ⟨(setRow_other _ _ _ _ (by omega)).trans HU.out.1,setRow_heap _ _ _ _ _ _ HU.out.2.1,⟨(setRow_other _ _ _ _ (by omega)).trans HU.out.2.2.1.1,(setRow_other _ _ _ _ (by omega)).trans HU.out.2.2.1.2⟩,below_setRow HU.out.2.2.2.1 (by omega) _,fun k hk=>(setRow_other _ _ _ _ (by omega)).trans (HU.out.2.2.2.2 k hk)⟩ ?_
     rintro w9 hm
     replace HU:=mkA hm
     clear hm
     refine hK.out _ _ ⟨(blk_cell HU.out.2.2.1.1 0),(blk_cell HU.out.2.2.1.1 1),(blk_cell HU.out.2.2.1.1 2),(blk_cell HU.out.2.2.1.1 3),(blk_cell HU.out.2.2.1.1 4),(blk_cell HU.out.2.2.1.1 5),(blk_cell HU.out.2.2.1.2 0),(blk_cell HU.out.2.2.1.2 1),(blk_cell HU.out.2.2.1.2 2),(blk_cell HU.out.2.2.1.2 3),(blk_cell HU.out.2.2.1.2 4),(blk_cell HU.out.2.2.1.2 5)⟩ (fun hHeld=>?_)
     clear hK K
     refine done_ (by kernel_rfl) ?_
     go_wp2
     go_meet
     case rel=>exact ⟨m2,p1,p2,p3,t0,t1,t2,t3,HU.out.1,HU.out.2.1,HU.out.2.2.2.1,HOQ2.out,HOR2.out,HcF.out _ _ _ _ _ _ _ _ _ _ _ HQF.out HRF.out (Nat.le_trans HT.out.2 HSA.out) HBQ.out.size HBR.out _ (fun k hk _=>HU.out.2.2.2.2 k (by have:=HT.out.2;have:=HSA.out;omega))⟩
   case rest=>
    obtain ⟨m2,p1,p2,p3,t0,t1,t2,t3,h1,h2,hbl,hoq,hor,hok⟩:=hcut.out
    obtain ⟨⟨X,c9,c10⟩,⟨Y,c11,c12⟩⟩:=hok
    have H1:=mkA h1
    have H2:=mkA h2
    have HBL:=mkA hbl
    obtain ⟨_,o1b,o2b,o3b⟩:=on4 hoq
    obtain ⟨o4b,o5b,o6b,o7b⟩:=on4 hor
    have HC9:=mkA c9
    have HC10:=mkA c10
    have HC11:=mkA c11
    have HC12:=mkA c12
    clear h1 h2 hbl hoq hor c9 c10 c11 c12 hcut HB HcQ HcR HcF HcOK
    have HB:=mkA (Below.refl wc.heap.size wc)
    go_upto_region 7 with (fail)
    obtain ⟨wd,hwd,HB⟩:∃ w9,w9=wc.drew∧Aside0 (Below wc.heap.size wc w9):=⟨_,rfl,⟨pw_below_drewN HB.out 1⟩⟩
    refine start_ (n:=17) (S:=fun w'=>w'.cell? ⟨w.heap.size,0,none⟩=some (.string m2)∧w'.cell? ⟨w.heap.size,1,none⟩=some p1∧w'.cell? ⟨w.heap.size,2,none⟩=some p2∧w'.cell? ⟨w.heap.size,3,none⟩=some p3∧w'.cell? ⟨w.heap.size+1,0,none⟩=some t0∧w'.cell? ⟨w.heap.size+1,1,none⟩=some t1∧w'.cell? ⟨w.heap.size+1,2,none⟩=some t2∧w'.cell? ⟨w.heap.size+1,3,none⟩=some t3) (ds:=[]) #[qf,qf,qf,qf,qf,qf,qf,qf,qf,qf,qf,qf,qf,qf,qf,qf,qf] (by kernel_rfl) rfl rfl ⟨(by rw [← hwd];exact ((blk_cell (blk_below H1.out HB.out) 0).trans rfl)),(by rw [← hwd];exact ((blk_cell (blk_below H1.out HB.out) 1).trans rfl)),(by rw [← hwd];exact ((blk_cell (blk_below H1.out HB.out) 2).trans rfl)),(by rw [← hwd];exact ((blk_cell (blk_below H1.out HB.out) 3).trans rfl)),(by rw [← hwd];exact ((blk_cell (blk_below H2.out HB.out) 0).trans rfl)),(by rw [← hwd];exact ((blk_cell (blk_below H2.out HB.out) 1).trans rfl)),(by rw [← hwd];exact ((blk_cell (blk_below H2.out HB.out) 2).trans rfl)),(by rw [← hwd];exact ((blk_cell (blk_below H2.out HB.out) 3).trans rfl))⟩ (fun hHeld=>?_)
    rw [← hwd] at hHeld ⊢
    clear hwd
    refine take_ (i:=0) (N:=some 26) (v:=?_) (a':=?_) #[qt,qf,qf,qf,qf,qf,qf,qf,qf,qf,qf,qf,qf,qf,qf,qf,qf] rfl rfl (by kernel_rfl) (fun _ _ _ h=>h) (Or.inl ⟨by rfl,?_⟩) hHeld ?_ ?_
    rotate_left
    ·rintro w' ⟨s0,s1,s2,s3,s4,s5,s6,s7⟩
     go_simp
     with_reducible rfl
    rotate_left
    ·simp only [Act.put,sAx,sBx,sCx,i64_w,i32_w]
     rfl
    refine take_ (i:=1) (N:=some 27) (v:=?_) (a':=?_) #[qt,qt,qf,qf,qf,qf,qf,qf,qf,qf,qf,qf,qf,qf,qf,qf,qf] rfl rfl (by kernel_rfl) (fun _ _ _ h=>h) (Or.inl ⟨by rfl,?_⟩) hHeld ?_ ?_
    rotate_left
    ·rintro w' ⟨s0,s1,s2,s3,s4,s5,s6,s7⟩
     go_simp
     with_reducible rfl
    rotate_left
    ·simp only [Act.put,sAx,sBx,sCx,i64_w,i32_w]
     rfl
    refine take_ (i:=3) (N:=some 29) (v:=?_) (a':=?_) #[qt,qt,qf,qt,qf,qf,qf,qf,qf,qf,qf,qf,qf,qf,qf,qf,qf] rfl rfl (by kernel_rfl) (fun _ _ _ h=>h) (Or.inl ⟨by rfl,?_⟩) hHeld ?_ ?_
    rotate_left
    ·rintro w' ⟨s0,s1,s2,s3,s4,s5,s6,s7⟩
     go_simp
     with_reducible rfl
    rotate_left
    ·simp only [Act.put,sAx,sBx,sCx,i64_w,i32_w]
     rfl
    refine take_ (i:=4) (N:=some 30) (v:=?_) (a':=?_) #[qt,qt,qf,qt,qt,qf,qf,qf,qf,qf,qf,qf,qf,qf,qf,qf,qf] rfl rfl (by kernel_rfl) (fun _ _ _ h=>h) (Or.inl ⟨by rfl,?_⟩) hHeld ?_ ?_
    rotate_left
    ·rintro w' ⟨s0,s1,s2,s3,s4,s5,s6,s7⟩
     go_simp
     with_reducible rfl
    rotate_left
    ·simp only [Act.put,sAx,sBx,sCx,i64_w,i32_w]
     rfl
    refine one_ (i:=2) (N:=some 28) #[qt,qt,qt,qt,qt,qf,qf,qf,qf,qf,qf,qf,qf,qf,qf,qf,qf] rfl rfl (by kernel_rfl) (by decide) (fun K hK=>?_)
    refine goes_ Tryz.func9 (by kernel_rfl) rfl #[.agg #[.string m2,p1,p2,p3],.agg #[t0,t1,t2,t3]] (by rfl) rfl rfl (by simp only [List.map_toArray,List.map_cons,List.map_nil];rfl) ?_
    refine (HC9.out _ HB.out).mono ?_
    rintro e w5 ⟨rfl,hb⟩
    refine ⟨_,rfl,?_⟩
    have HB:=mkA (HB.out.trans (hb.mono HB.out.size))
    clear hb
    refine hK.out _ _ ⟨((blk_cell (blk_below H1.out HB.out) 0).trans rfl),((blk_cell (blk_below H1.out HB.out) 1).trans rfl),((blk_cell (blk_below H1.out HB.out) 2).trans rfl),((blk_cell (blk_below H1.out HB.out) 3).trans rfl),((blk_cell (blk_below H2.out HB.out) 0).trans rfl),((blk_cell (blk_below H2.out HB.out) 1).trans rfl),((blk_cell (blk_below H2.out HB.out) 2).trans rfl),((blk_cell (blk_below H2.out HB.out) 3).trans rfl)⟩ (fun hHeld=>?_)
    clear hK K
    refine norm_ (a':=?_) ?_ ?_
    rotate_left
    ·show Act.put _ (some 28) _=_
     simp only [Act.put,sAx,sBx,sCx,i64_w,i32_w]
     rfl
    refine one_ (i:=5) (N:=some 31) #[qt,qt,qt,qt,qt,qt,qf,qf,qf,qf,qf,qf,qf,qf,qf,qf,qf] rfl rfl (by kernel_rfl) (by decide) (fun K hK=>?_)
    refine goes_ Tryz.func10 (by kernel_rfl) rfl #[.agg #[.string m2,p1,p2,p3],.agg #[t0,t1,t2,t3]] (by rfl) rfl rfl (by simp only [List.map_toArray,List.map_cons,List.map_nil];rfl) ?_
    refine (HC10.out _ HB.out).mono ?_
    rintro e w5 ⟨rfl,hb⟩
    refine ⟨_,rfl,?_⟩
    have HB:=mkA (HB.out.trans (hb.mono HB.out.size))
    clear hb
    refine hK.out _ _ ⟨((blk_cell (blk_below H1.out HB.out) 0).trans rfl),((blk_cell (blk_below H1.out HB.out) 1).trans rfl),((blk_cell (blk_below H1.out HB.out) 2).trans rfl),((blk_cell (blk_below H1.out HB.out) 3).trans rfl),((blk_cell (blk_below H2.out HB.out) 0).trans rfl),((blk_cell (blk_below H2.out HB.out) 1).trans rfl),((blk_cell (blk_below H2.out HB.out) 2).trans rfl),((blk_cell (blk_below H2.out HB.out) 3).trans rfl)⟩ (fun hHeld=>?_)
    clear hK K
    refine norm_ (a':=?_) ?_ ?_
    rotate_left
    ·show Act.put _ (some 31) _=_
     simp only [Act.put,sAx,sBx,sCx,i64_w,i32_w]
     rfl
    refine pure_ (i:=6) (N:=some 32) (v:=?_) (a':=?_) #[qt,qt,qt,qt,qt,qt,qt,qf,qf,qf,qf,qf,qf,qf,qf,qf,qf] rfl rfl (by kernel_rfl) (fun _ _ _ h=>h) (Or.inl ⟨by rfl,?_⟩) ?_ ?_
    rotate_left
    ·intro w'
     go_simp
     with_reducible rfl
    rotate_left
    ·simp only [Act.put,sAx,sBx,sCx,i64_w,i32_w]
     rfl
    refine pure_ (i:=7) (N:=some 33) (v:=?_) (a':=?_) #[qt,qt,qt,qt,qt,qt,qt,qt,qf,qf,qf,qf,qf,qf,qf,qf,qf] rfl rfl (by kernel_rfl) (fun _ _ _ h=>h) (Or.inl ⟨by rfl,?_⟩) ?_ ?_
    rotate_left
    ·intro w'
     go_simp
     with_reducible rfl
    rotate_left
    ·simp only [Act.put,sAx,sBx,sCx,i64_w,i32_w]
     rfl
    refine pure_ (i:=8) (N:=some 34) (v:=?_) (a':=?_) #[qt,qt,qt,qt,qt,qt,qt,qt,qt,qf,qf,qf,qf,qf,qf,qf,qf] rfl rfl (by kernel_rfl) (fun _ _ _ h=>h) (Or.inl ⟨by rfl,?_⟩) ?_ ?_
    rotate_left
    ·intro w'
     go_simp
     with_reducible rfl
    rotate_left
    ·simp only [Act.put,sAx,sBx,sCx,i64_w,i32_w]
     rfl
    refine pure_ (i:=11) (N:=some 37) (v:=?_) (a':=?_) #[qt,qt,qt,qt,qt,qt,qt,qt,qt,qf,qf,qt,qf,qf,qf,qf,qf] rfl rfl (by kernel_rfl) (fun _ _ _ h=>h) (Or.inl ⟨by rfl,?_⟩) ?_ ?_
    rotate_left
    ·intro w'
     go_simp
     with_reducible rfl
    rotate_left
    ·simp only [Act.put,sAx,sBx,sCx,i64_w,i32_w]
     rfl
    refine take_ (i:=9) (N:=some 35) (v:=?_) (a':=?_) #[qt,qt,qt,qt,qt,qt,qt,qt,qt,qt,qf,qt,qf,qf,qf,qf,qf] rfl rfl (by kernel_rfl) (fun _ _ _ h=>h) (Or.inl ⟨by rfl,?_⟩) hHeld ?_ ?_
    rotate_left
    ·rintro w' ⟨s0,s1,s2,s3,s4,s5,s6,s7⟩
     go_simp
     with_reducible rfl
    rotate_left
    ·simp only [Act.put,sAx,sBx,sCx,i64_w,i32_w]
     rfl
    refine take_ (i:=12) (N:=some 38) (v:=?_) (a':=?_) #[qt,qt,qt,qt,qt,qt,qt,qt,qt,qt,qf,qt,qt,qf,qf,qf,qf] rfl rfl (by kernel_rfl) (fun _ _ _ h=>h) (Or.inl ⟨by rfl,?_⟩) hHeld ?_ ?_
    rotate_left
    ·rintro w' ⟨s0,s1,s2,s3,s4,s5,s6,s7⟩
     go_simp
     with_reducible rfl
    rotate_left
    ·simp only [Act.put,sAx,sBx,sCx,i64_w,i32_w]
     rfl
    refine one_ (i:=10) (N:=some 36) #[qt,qt,qt,qt,qt,qt,qt,qt,qt,qt,qt,qt,qt,qf,qf,qf,qf] rfl rfl (by kernel_rfl) (by decide) (fun K hK=>?_)
    refine goes_ Tryz.func11 (by kernel_rfl) rfl #[.string m2] (by rfl) rfl rfl (by simp only [List.map_toArray,List.map_cons,List.map_nil];rfl) ?_
    refine (HC11.out _).mono ?_
    rintro e w5 ⟨rfl,hb⟩
    refine ⟨_,rfl,?_⟩
    have HB:=mkA (HB.out.trans (hb.mono HB.out.size))
    clear hb
    refine hK.out _ _ ⟨((blk_cell (blk_below H1.out HB.out) 0).trans rfl),((blk_cell (blk_below H1.out HB.out) 1).trans rfl),((blk_cell (blk_below H1.out HB.out) 2).trans rfl),((blk_cell (blk_below H1.out HB.out) 3).trans rfl),((blk_cell (blk_below H2.out HB.out) 0).trans rfl),((blk_cell (blk_below H2.out HB.out) 1).trans rfl),((blk_cell (blk_below H2.out HB.out) 2).trans rfl),((blk_cell (blk_below H2.out HB.out) 3).trans rfl)⟩ (fun hHeld=>?_)
    clear hK K
    refine norm_ (a':=?_) ?_ ?_
    rotate_left
    ·show Act.put _ (some 36) _=_
     simp only [Act.put,sAx,sBx,sCx,i64_w,i32_w]
     rfl
    refine one_ (i:=13) (N:=some 39) #[qt,qt,qt,qt,qt,qt,qt,qt,qt,qt,qt,qt,qt,qt,qf,qf,qf] rfl rfl (by kernel_rfl) (by decide) (fun K hK=>?_)
    refine goes_ Tryz.func12 (by kernel_rfl) rfl #[.string m2] (by rfl) rfl rfl (by simp only [List.map_toArray,List.map_cons,List.map_nil];rfl) ?_
    refine (HC12.out _).mono ?_
    rintro e w5 ⟨rfl,hb⟩
    refine ⟨_,rfl,?_⟩
    have HB:=mkA (HB.out.trans (hb.mono HB.out.size))
    clear hb
    refine hK.out _ _ ⟨((blk_cell (blk_below H1.out HB.out) 0).trans rfl),((blk_cell (blk_below H1.out HB.out) 1).trans rfl),((blk_cell (blk_below H1.out HB.out) 2).trans rfl),((blk_cell (blk_below H1.out HB.out) 3).trans rfl),((blk_cell (blk_below H2.out HB.out) 0).trans rfl),((blk_cell (blk_below H2.out HB.out) 1).trans rfl),((blk_cell (blk_below H2.out HB.out) 2).trans rfl),((blk_cell (blk_below H2.out HB.out) 3).trans rfl)⟩ (fun hHeld=>?_)
    clear hK K
    refine norm_ (a':=?_) ?_ ?_
    rotate_left
    ·show Act.put _ (some 39) _=_
     simp only [Act.put,sAx,sBx,sCx,i64_w,i32_w]
     rfl
    refine pure_ (i:=14) (N:=some 40) (v:=?_) (a':=?_) #[qt,qt,qt,qt,qt,qt,qt,qt,qt,qt,qt,qt,qt,qt,qt,qf,qf] rfl rfl (by kernel_rfl) (fun _ _ _ h=>h) (Or.inl ⟨by rfl,?_⟩) ?_ ?_
    rotate_left
    ·intro w'
     go_simp
     with_reducible rfl
    rotate_left
    ·simp only [Act.put,sAx,sBx,sCx,i64_w,i32_w]
     rfl
    refine pure_ (i:=15) (N:=some 41) (v:=?_) (a':=?_) #[qt,qt,qt,qt,qt,qt,qt,qt,qt,qt,qt,qt,qt,qt,qt,qt,qf] rfl rfl (by kernel_rfl) (fun _ _ _ h=>h) (Or.inl ⟨by rfl,?_⟩) ?_ ?_
    rotate_left
    ·intro w'
     go_simp
     with_reducible rfl
    rotate_left
    ·simp only [Act.put,sAx,sBx,sCx,i64_w,i32_w]
     rfl
    refine pure_ (i:=16) (N:=some 10) (v:=?_) (a':=?_) #[qt,qt,qt,qt,qt,qt,qt,qt,qt,qt,qt,qt,qt,qt,qt,qt,qt] rfl rfl (by kernel_rfl) (fun _ _ _ h=>h) (Or.inl ⟨by rfl,?_⟩) ?_ ?_
    rotate_left
    ·intro w'
     go_simp
     with_reducible rfl
    rotate_left
    ·simp only [Act.put,sAx,sBx,sCx,i64_w,i32_w]
     rfl
    refine done_ (by kernel_rfl) ?_
    go_wp2
    go_ret
    exact ⟨rfl,HBL.out.trans (HB.out.mono HBL.out.size)⟩
end Go.Proofs.YtlnmnjbihgaliaaGreat.Pr
