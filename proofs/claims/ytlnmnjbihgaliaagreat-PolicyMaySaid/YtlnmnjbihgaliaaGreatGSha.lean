import Derived.StillTail
import Derived.Deep.Quiet
import Derived.Deep.QuietTactic
import Derived.Test.YtlnmnjbihgaliaaGreatProg
import Derived.WalkKit
import Derived.BigQuiet
import Derived.StillTailTactics
import Derived.Deep.LoopGhost
import Derived.Deep.MidRow
import Derived.Test.YtlnmnjbihgaliaaGreatVWords
import Derived.Laws.Rows
import Derived.Laws.CopyOwn
set_option linter.unusedVariables false
set_option linter.unusedSimpArgs false
namespace Go.Proofs
theorem sAx{α:Type}(l:List α)(i:Nat)(a:α):l.toArray.setIfInBounds i a=(l.set i a).toArray:=List.setIfInBounds_toArray ..
theorem sBx{α:Type}(b:α)(l:List α)(a:α):(b::l).set 0 a=a::l:=List.set_cons_zero ..
theorem sCx{α:Type}(b:α)(l:List α)(n:Nat)(a:α):(b::l).set (n+1) a=b::l.set n a:=List.set_cons_succ ..
theorem mkA{p:Prop}(h:p):Go.Proofs.YtlnmnjbihgaliaaGreatW.PrintWords.Aside0 p:=⟨h⟩
abbrev qt:Bool:=true
abbrev qf:Bool:=false
end Go.Proofs
section
namespace Go.Proofs.QTail
open Go
section
variable {P:Program} {ops:Array Oper} {md:Region.Mode} {C:World→Prop}
/-- Whatever order is picked among the first n, each quiet in the class; then L. -/
def anyLQ(P:Program)(md:Region.Mode)(ops:Array Oper)(C:World→Prop)(n:Nat)(L:Array Bool→Act→Prop):Nat→Array Bool→Act→Prop
 |0,listed,a=>L listed a
 |f+1,listed,a=>Region.ready md ops listed≠[]∧∀ i∈Region.ready md ops listed,i < n∧qOp P ops C i (anyLQ P md ops C n L f (listed.setIfInBounds i true)) a
theorem any_of_head{n g:Nat}{L:Array Bool→Act→Prop}{Q':Exit→Act→World→Prop}(hL:∀ listed a w,C w→L listed a→wpAny P md ops Q' g listed a w):
  ∀ (f:Nat) (listed:Array Bool) (a:Act) (w:World),C w→anyLQ P md ops C n L f listed a→wpAny P md ops Q' (f+g) listed a w
 |0,listed,a,w,hC,h=>by rw [Nat.zero_add];exact hL _ _ _ hC h
 |f+1,listed,a,w,hC,h=>by
  rw [show f+1+g=(f+g)+1 by omega]
  exact ⟨fun h0=>absurd h0 h.1,fun i hi=>wpOp_of_qOp hC (fun a' w' hC' h'=>any_of_head hL f _ a' w' hC' h') (h.2 i hi).2⟩
theorem anyLQ_first{n i:Nat}{oi:Oper}{v:Value}{L:Array Bool→Act→Prop}(hi:ops[i]?=some oi)(hsel:∀ (j:Nat) (o:Oper) cs b,ops[j]?=some o→o.op≠.select cs b)
  (hs:Region.sinkB md ops n=true) (hc:Region.chainB md ops n=true) (hn:n < ops.size) (hin:i < n)
  (hdone:∀ listed a,L listed a→∀ j∈Region.ready md ops listed,n≤j) :
  ∀ (f:Nat) (listed:Array Bool) (a:Act),HeadInv md ops n listed →
   (∀ j oj,ops[j]?=some oj→j≠i→listed.getD j true=false→(∀ e∈oj.after,Region.binds md e=true→e.on≠i)→oi.apart ops oj=true) →
   i∈Region.ready md ops listed→YieldsIn P ops C oi v a →
   anyLQ P md ops C n L f (listed.setIfInBounds i true) (a.put oi.dst v)→anyLQ P md ops C n L (f+1) listed a:=by
 intro f
 induction f with
 |zero=>
  intro listed a inv _ hr hy H
  have hun:=(mem_ready.1 hr).1
  refine ⟨fun h=>(by rw [h] at hr;cases hr),fun j hj=>?_⟩
  have hjn:j < n:=by
   rcases Nat.lt_or_ge j n with h|h
   ·exact h
   ·exact absurd hj (tail_waits hs hc hn inv _ i rfl hin hun j h)
  refine ⟨hjn,?_⟩
  by_cases hji:j=i
  ·subst hji
   exact hy.qOp hi H
  ·have:=hdone _ _ H j (ready_mono hj hji)
   omega
 |succ f ih=>
  intro listed a inv hfree hr hy H
  have hun:=(mem_ready.1 hr).1
  refine ⟨fun h=>(by rw [h] at hr;cases hr),fun j hj=>?_⟩
  have hjn:j < n:=by
   rcases Nat.lt_or_ge j n with h|h
   ·exact h
   ·exact absurd hj (tail_waits hs hc hn inv _ i rfl hin hun j h)
  refine ⟨hjn,?_⟩
  by_cases hji:j=i
  ·subst hji
   exact hy.qOp hi H
  ·have h1:=(H.2 j (ready_mono hj hji)).2
   obtain ⟨hjun,oj,hoj,hall⟩:=mem_ready.1 hj
   have hnot:∀ e∈oj.after,Region.binds md e=true→e.on≠i:=fun e he hb heq=>by
    have h1:=hall e he hb
    rw [heq,getD_both hun] at h1
    cases h1
   have h2:=qOp_put hoj (hfree j oj hoj hji hjun hnot) (fun cs b=>hsel i oi cs b hi) (fun cs b=>hsel j oj cs b hoj) hy h1
   have hfree':∀ k ok,ops[k]?=some ok→k≠i→(listed.setIfInBounds j true).getD k true=false →
     (∀ e∈ok.after,Region.binds md e=true→e.on≠i)→oi.apart ops ok=true:=fun k ok hk hki hun hno=>by
    refine hfree k ok hk hki ?_ hno
    by_cases hjk:j=k
    ·subst hjk
     exact hjun
    ·rw [getD_set_ne true hjk] at hun
     exact hun
   refine qOp_mono (fun a' h3=>ih (listed.setIfInBounds j true) a' (inv.set hj hjn) hfree' (ready_mono hr (Ne.symm hji)) h3.1 ?_) h2
   rw [Array.setIfInBounds_comm _ _ hji]
   exact h3.2
theorem anyLQ_lex{n g:Nat}{Lq:Act→Prop}(hsel:Region.noSelect ops=true)(hs:Region.sinkB md ops n=true)(hc:Region.chainB md ops n=true)(hn:n < ops.size):
  ∀ (l:List Oper) (k:Nat) (listed:Array Bool) (a:Act),(∀ j,j < l.length→l[j]?=ops[k+j]?)→k+l.length=n→HeadInv md ops n listed →
  Region.lexHead md ops g l.length k listed=true→wpQuiet P ops C Lq l a →
  anyLQ P md ops C n (fun listed' a'=>Region.seqB md ops g n listed'=true∧Lq a') l.length listed a
 |[],k,listed,a,_,hk,_,hB,h=>by
  have:k=n:=by simpa using hk
  subst this
  exact ⟨by simpa [Region.lexHead] using hB,h⟩
 |o :: l,k,listed,a,hl,hk,inv,hB,h=>by
  have h0:ops[k]?=some o:=by simpa using (hl 0 (by simp)).symm
  simp only [List.length_cons,Region.lexHead,Bool.and_eq_true] at hB
  obtain ⟨⟨hr,hf⟩,hB'⟩:=hB
  have hkn:k < n:=by
   simp only [List.length_cons] at hk
   omega
  have hr':k∈Region.ready md ops listed:=by simpa using hr
  have hst:qOp P ops C k (wpQuiet P ops C Lq l) a:=by
   unfold qOp
   simp only [h0]
   exact h
  obtain ⟨v,hy,hK⟩:=yieldsIn_of_qOp h0 hst
  exact anyLQ_first h0 (Region.noSelect_spec hsel) hs hc hn hkn (fun listed' a' hL=>seqB_ready hL.1) l.length listed a inv (Region.free_spec h0 hf) hr' hy
   (anyLQ_lex hsel hs hc hn l (k+1) _ _ (fun j hj=>by have:=hl (j+1) (by simp;omega);simpa [Nat.add_assoc,Nat.add_comm 1 j] using this) (by simp only [List.length_cons] at hk;omega) (inv.set hr' hkn) hB' hK)
/-- A region whose first n operations are quiet in a class of worlds, whose rest goes in one order. -/
theorem quiet_tail{id:Nat}{Q:Exit→Act→World→Prop}{a:Act}{w:World}{l:List Oper}(n:Nat)(hm:P.follows .mixedOrders=true)(hB:Region.lexTailB .any l.toArray n=true)(hC:C { w with drawn:=w.drawn+1 })
  (h:wpQuiet P l.toArray C (fun a'=>∀ w',C w'→wpList P l.toArray Q (l.drop n) a' w') (l.take n) a):(Code.region id l.toArray true).wp P Q a w:=by
 simp only [Region.lexTailB,Bool.and_eq_true,decide_eq_true_eq] at hB
 obtain ⟨⟨⟨⟨hsel,hn⟩,hs⟩,hc⟩,hlex⟩:=hB
 have hn':n < l.length:=by simpa using hn
 have htl:(l.take n).length=n:=by
  simp
  omega
 have hdl:(l.drop n).length=l.toArray.size - n:=by simp
 have inv0:HeadInv .any l.toArray n (Array.replicate l.toArray.size false):=
  ⟨by simp,fun j oj _ hl=>(by rw [getD_replicate_false] at hl;cases hl),fun t _ ht=>getD_in (by simpa using ht) (getD_replicate_false _ _)⟩
 have H:=anyLQ_lex (C:=C) (md:=.any) (g:=l.toArray.size - n) hsel hs hc hn (l.take n) 0 _ a (fun j hj=>by
  have hj':j < n:=by rw [htl] at hj;exact hj
  simp [hj']) (by simpa using htl) inv0 (by rw [htl];exact hlex) h
 refine wp_region_any hm ?_
 have:=any_of_head (Q':=Q) (g:=l.toArray.size - n) (fun listed a' w' hC' hL=>by
  have:=wpAny_of_seq (md:=.any) (Q':=Q) (l.drop n) n listed a' w' (fun j=>by simp [List.getElem?_drop]) (by rw [hdl];exact hL.1) (hL.2 w' hC')
  rwa [hdl] at this) _ _ _ _ hC H
 rw [htl,show n+(l.toArray.size - n)=l.toArray.size by omega] at this
 exact this
/-- .. at the class 'the world w, some orders having been drawn', w a letter. -/
theorem quiet_tail_at{id:Nat}{Q:Exit→Act→World→Prop}{a:Act}{w:World}{l:List Oper}(n:Nat)(hm:P.follows .mixedOrders=true)(hB:Region.lexTailB .any l.toArray n=true)
  (h:wpQuiet P l.toArray (fun w'=>∃ n,w'=w.drewN n) (fun a'=>∀ w',(∃ n,w'=w.drewN n)→wpList P l.toArray Q (l.drop n) a' w') (l.take n) a):(Code.region id l.toArray true).wp P Q a w:=
 quiet_tail (C:=fun w'=>∃ n,w'=w.drewN n) n hm hB ⟨1,rfl⟩ h
end
end Go.Proofs.QTail
end
section
open Go.RowKit Go.Proofs.YtlnmnjbihgaliaaGreatW.PrintWords
namespace Go.Proofs.YtlnmnjbihgaliaaGreat
/-- A region whose first n operations only read, whose rest goes in one order: the world is a letter. -/
theorem still_tail_at{P:Program}{id:Nat}{Q:Exit→Act→World→Prop}{a:Act}{w:World}{l:List Oper}(n:Nat)(hm:P.follows .mixedOrders=true)(hB:Region.lexTailB .any l.toArray n=true)
  (h:∀ wd,wd=w.drew→wpStill P l.toArray wd (fun a'=>wpList P l.toArray Q (l.drop n) a' wd) (l.take n) a):(Code.region id l.toArray true).wp P Q a w:=
 wp_region_still_tail n hm hB (h _ rfl)
theorem still_at{P:Program}{id:Nat}{Q:Exit→Act→World→Prop}{a:Act}{w:World}{l:List Oper}(hm:P.follows .mixedOrders=true)(hB:Region.lexB .any l.toArray=true)
  (h:∀ wd,wd=w.drew→wpStill P l.toArray wd (fun a'=>Q .normal a' wd) l a):(Code.region id l.toArray true).wp P Q a w:=
 wp_region_still_lit hm hB (h _ rfl)
def u32s(l:List Int):Array Value:=(l.map (Value.int .u32)).toArray
/-- x turned left by m, 0 < m < 32, as the walk spells it. -/
def rotL(x m:Int):Int:=Go.bits .or .u32 (IntKind.u32.wrap (x * 2 ^ m.toNat)) (x / 2 ^ (32 - m).toNat)
set_option maxRecDepth 100000 in
theorem rot_calls(x n m:Int)(w:World)(hb:Go.bits .and .u64 (IntKind.u64.wrap n) 31=m)(h0:0 < m)(h1:m < 32):Calls Tryz.prog 101 #[.int .u32 x,.int .i64 n] w fun e w'=>e=.returned (.int .u32 (rotL x m))∧w'=w:=by
 have m0:0≤m:=by omega
 have m1:0≤32 - m:=by omega
 have e1:IntKind.u64.wrap (32 - m)=32 - m:=IntWalk.u64_in _ (by omega)
 have m2:m≤32:=by omega
 have m3:min m.toNat 32=m.toNat:=by omega
 have m4:min (32 - m).toNat 32=(32 - m).toNat:=by omega
 go_enter Tryz.func101,Tryz.ntmps101
 go_wp2
 go_ret
 exact ⟨by unfold rotL;first|rfl|simp [m3,m4],rfl⟩
/-- How far RotateLeft32 turns at n. -/
def amt(n:Int):Int:=Go.bits .and .u64 (IntKind.u64.wrap n) 31
theorem rot_any(x n:Int)(w:World)(h:0 < amt n∧amt n < 32):Calls Tryz.prog 101 #[.int .u32 x,.int .i64 n] w fun e w'=>e=.returned (.int .u32 (rotL x (amt n)))∧w'=w:=rot_calls x n _ w rfl h.1 h.2
def nth(l:List Int)(j:Nat):Int:=l.getD j 0
def be32(b0 b1 b2 b3:Int):Int:=Go.bits .or .u32 (Go.bits .or .u32 (Go.bits .or .u32 (IntKind.u32.wrap (IntKind.u32.wrap b0 * 16777216)) (IntKind.u32.wrap (IntKind.u32.wrap b1 * 65536))) (IntKind.u32.wrap (IntKind.u32.wrap b2 * 256))) (IntKind.u32.wrap b3)
def word(bs:List Int)(k:Nat):Int:=be32 (nth bs (4 * k)) (nth bs (4 * k+1)) (nth bs (4 * k+2)) (nth bs (4 * k+3))
def sg0(x:Int):Int:=Go.bits .xor .u32 (Go.bits .xor .u32 (rotL x (amt (-7))) (rotL x (amt (-18)))) (x / 8)
def sg1(y:Int):Int:=Go.bits .xor .u32 (Go.bits .xor .u32 (rotL y (amt (-17))) (rotL y (amt (-19)))) (y / 1024)
def add32(a b:Int):Int:=IntKind.u32.wrap (a+b)
def sched(f:Nat→Int)(j:Nat):Int:=
 if h:j < 16 then f j else add32 (add32 (add32 (sched f (j - 16)) (sched f (j - 7))) (sg0 (sched f (j - 15)))) (sg1 (sched f (j - 2)))
termination_by j
theorem nth_set(l:List Int)(i:Nat)(v:Int)(j:Nat)(h:i < l.length):nth (l.set i v) j=if j=i then v else nth l j:=by
 unfold nth
 simp only [List.getD_eq_getElem?_getD,List.getElem?_set]
 by_cases e:i=j
 ·subst e;simp [h]
 ·simp [e,Ne.symm e]
theorem u32s_set(l:List Int)(i:Nat)(v:Int):(u32s l).setIfInBounds i (.int .u32 v)=u32s (l.set i v):=by
 simp [u32s,List.map_set]
theorem u32s_at(l:List Int)(i:Nat)(h:i < l.length):(u32s l)[i]?=some (.int .u32 (nth l i)):=by
 simp [u32s,nth,h]
theorem gb_set{w w1:World}{a:Nat}(h:w.grownBy w1 (some a))(p:Addr)(hp:p.block=a∨w.heap.size≤p.block)(v:Value):w.grownBy (w1.setCell p v) (some a):=
 ⟨h.os,h.tape,h.output,by simpa [World.setCell] using h.size,fun k hk hne=>by
  rw [Below.heap_setCell w1 p v k (by rintro rfl;rcases hp with hp|hp;exact hne (by rw [hp]);omega)];exact h.block k hk hne⟩
theorem gb_drew{w w1:World}{r:Option Nat}(h:w.grownBy w1 r):w.grownBy w1.drew r:=⟨h.os,h.tape,h.output,h.size,h.block⟩
theorem blk_gb{w w1:World}{g:Nat}{o:Obj}{r:Option Nat}(h:w.heap[g]?=some o)(hg:w.grownBy w1 r)(hne:some g≠r):w1.heap[g]?=some o:=(hg.block g (blk_lt h) hne).trans h
theorem sched_low(f:Nat→Int)(j:Nat)(h:j < 16):sched f j=f j:=by rw [sched];simp [h]
theorem sched_high(f:Nat→Int)(j:Nat)(h:¬ j < 16):sched f j=add32 (add32 (add32 (sched f (j - 16)) (sched f (j - 7))) (sg0 (sched f (j - 15)))) (sg1 (sched f (j - 2))):=by rw [sched];simp [h]
theorem add3(a b c d:Int):(a+b+c+d) % 4294967296=add32 (add32 (add32 a b) c) d:=by
 simp only [add32,IntKind.wrap_u32];omega
/-- An array's element at an index that lies within. -/
theorem run_idx_agg{P:Program}{T E:TypeId}{n:Nat}(hu:P.underlying T=some (.array n E))(hag:∀ w,(isAgg E).run P w=.ok false w)(hs:∀ w,(sizeOf E).run P w=.ok 1 w)
  (cs:Array Value) (i:Nat) (h:i < n) (v:Value) (hv:cs[i]?=some v) (w:World):(Instr.index T (.agg cs) (.int .i64 (i:Int))).run P w=.ok v w:=by
 have h1:(0:Int)≤(i:Int)∧(i:Int) < n:=by omega
 have h2:((i:Int)).toNat=i:=by omega
 unfold Instr.index
 simp only [Sem.run_bind,asIntOf,Sem.run_pure,Result.andThen_ok,run_underlying hu w]
 rw [if_pos h1]
 simp [part,Sem.run_bind,hag,hs,hv]
theorem K_range{w:World}{c:Nat}{K K2:List Int}(h:w.heap[c]?=some (.cells (u32s (K++K2)) 101 (0,0))):w.rangeAt c 0 (K.map (Value.int .u32)):=fun j v hv=>by
 obtain ⟨hj,hv⟩:=List.getElem?_eq_some_iff.1 hv
 have hj':j < K.length:=by simpa using hj
 rw [Nat.zero_add,blk_cell h j,u32s_at _ _ (by simp;omega),← hv]
 simp [nth,List.getElem?_append_left hj',hj']
/-- The state of the rounds. -/
structure S8 where
 a:Int
 b:Int
 c:Int
 d:Int
 e:Int
 f:Int
 g:Int
 h:Int
def rnds(rnd:S8→Int→Int→S8)(K W:Nat→Int)(s:S8):Nat→S8
 |0=>s
 |k+1=>rnd (rnds rnd K W s k) (K k) (W k)
def stS(st:List Int):S8:=⟨nth st 0,nth st 1,nth st 2,nth st 3,nth st 4,nth st 5,nth st 6,nth st 7⟩
def not32(x:Int):Int:=Go.bits .xor .u32 (if IntKind.u32.signed=true then -1 else IntKind.u32.max) x
def bs1(e:Int):Int:=Go.bits .xor .u32 (Go.bits .xor .u32 (rotL e (amt (-6))) (rotL e (amt (-11)))) (rotL e (amt (-25)))
def bs0(a:Int):Int:=Go.bits .xor .u32 (Go.bits .xor .u32 (rotL a (amt (-2))) (rotL a (amt (-13)))) (rotL a (amt (-22)))
def ch32(e f g:Int):Int:=Go.bits .xor .u32 (Go.bits .and .u32 e f) (Go.bits .and .u32 (not32 e) g)
def maj32(a b c:Int):Int:=Go.bits .xor .u32 (Go.bits .xor .u32 (Go.bits .and .u32 a b) (Go.bits .and .u32 a c)) (Go.bits .and .u32 b c)
def t1(s:S8)(k w:Int):Int:=add32 (add32 (add32 (add32 s.h (bs1 s.e)) (ch32 s.e s.f s.g)) k) w
def t2(s:S8):Int:=add32 (bs0 s.a) (maj32 s.a s.b s.c)
def rnd1(s:S8)(k w:Int):S8:=⟨add32 (t1 s k w) (t2 s),s.a,s.b,s.c,add32 s.d (t1 s k w),s.e,s.f,s.g⟩
def addS(st:List Int)(r:S8):List Int:=[add32 (nth st 0) r.a,add32 (nth st 1) r.b,add32 (nth st 2) r.c,add32 (nth st 3) r.d,add32 (nth st 4) r.e,add32 (nth st 5) r.f,add32 (nth st 6) r.g,add32 (nth st 7) r.h]
/-- One block, mixed in. -/
def mixF(K st bs:List Int):List Int:=addS st (rnds rnd1 (nth K) (sched (word bs)) (stS st) 64)
theorem eight{l:List Int}{g:Nat→Int}(hl:l.length=8)(h:∀ i,i < 8→nth l i=g i):l=[g 0,g 1,g 2,g 3,g 4,g 5,g 6,g 7]:=by
 match l,hl with
 |[a0,a1,a2,a3,a4,a5,a6,a7],_=>
  have h0:=h 0 (by omega)
  have h1:=h 1 (by omega)
  have h2:=h 2 (by omega)
  have h3:=h 3 (by omega)
  have h4:=h 4 (by omega)
  have h5:=h 5 (by omega)
  have h6:=h 6 (by omega)
  have h7:=h 7 (by omega)
  rw [← h0,← h1,← h2,← h3,← h4,← h5,← h6,← h7]
  rfl
/-- The bytes that a slice leads to. -/
def BytesAt(w:World)(bb bo n:Nat)(bs:List Int):Prop:=∀ j,j < n→w.cell? ⟨bb,bo+j,none⟩=some (.int .u8 (nth bs j))
set_option maxRecDepth 100000 in
set_option maxHeartbeats 4000000 in
theorem mix_calls(a:Nat)(c:Nat)(bb bo:Nat)(n cap:Nat)(bs st K K2:List Int)(w:World)
  (hn:64≤n) (hn2:n≤4294967296) (hA0:w.heap[a]?=some (.cells (u32s st) 99 (0,0))) (hst:st.length=8)
  (hC0:w.heap[c]?=some (.cells (u32s (K++K2)) 101 (0,0))) (hK:K.length=64) (hK2:K2.length=8)
  (hb0:BytesAt w bb bo 64 bs) (hbl:bb < w.heap.size) (hba:bb≠a) (hca:c≠a) :
  Calls Tryz.prog 80 #[.pointer (some ⟨a,0,none⟩),.pointer (some ⟨c,0,none⟩),.slice (some ⟨bb,bo,none⟩) n cap] w fun e w'=>e=.returned (.tuple #[])∧w'.heap[a]?=some (.cells (u32s (mixF K st bs)) 99 (0,0))∧w.grownBy w' (some a):=by
 have hb:=mkA hb0
 have hA:=mkA hA0
 have hC:=mkA hC0
 have hst':=mkA hst
 have hK':=mkA hK
 have hK2':=mkA hK2
 have hne:=mkA (And.intro hbl (And.intro hba hca))
 have hal:a < w.heap.size:=blk_lt hA0
 clear hb0 hA0 hC0 hst hK hK2 hbl hba hca
 go_enter Tryz.func80,Tryz.ntmps80
 go_wp2
 go_loopw [25] (fun i wr=>∃ (k:Nat) (ws:List Int),k≤16∧i=.int .i64 k∧Aside0 (ws.length=64)∧Aside0 (∀ j,j < k→nth ws j=word bs j)∧Aside0 (wr.heap[w.heap.size]?=some (.cells (u32s ws) 97 (0,0)))∧Aside0 (w.grownBy wr (some a))∧Aside0 (wr.heap[a]?=some (.cells (u32s st) 99 (0,0)))) (fun i _=>16 - (intOf i).toNat)
 case atStart=>exact ⟨0,List.replicate 64 0,by omega,rfl,⟨rfl⟩,⟨fun j hj=>absurd hj (by omega)⟩,⟨(heap_alloc_new _ _).trans (by rfl)⟩,⟨World.grownBy_alloc _ _ _⟩,⟨blk_alloc hA.out _⟩⟩
 case round=>
  obtain ⟨k,ws,hk,rfl,hl,hw,HH,HG,HA⟩:=hrel
  by_cases hlt:k < 16
  ·
   go_wp2
   refine still_tail_at 35 (by kernel_rfl) (by kernel_rfl) ?_
   intro wd hwd
   have HD:=mkA hwd
   clear hwd
   simp only [List.take_succ_cons,List.take_zero,List.drop_succ_cons,List.drop_zero]
   have cc:∀ j,j < 64→wd.cell? ⟨bb,bo+j,none⟩=some (.int .u8 (nth bs j)):=fun j hj=>by
    rw [HD.out];exact (HG.out.cell (hb.out j hj) (by simpa using hne.out.2.1))
   have c0:=cc (4 * k) (by omega)
   have c1:=cc (4 * k+1) (by omega)
   have c2:=cc (4 * k+2) (by omega)
   have c3:=cc (4 * k+3) (by omega)
   clear cc
   have HH2:wd.heap[w.heap.size]?=some (.cells (u32s ws) 97 (0,0)):=by rw [HD.out];exact HH.out
   have d0:wd.cell? ⟨w.heap.size,k,none⟩=some (.int .u32 (nth ws k)):=(blk_cell HH2 k).trans (u32s_at ws k (by rw [hl.out];omega))
   have f0:wd.frozen? ⟨w.heap.size,k,none⟩=false:=blk_frozen HH2 k
   have HH3:=mkA HH2
   clear HH2
   have i0:(0:Int)≤(k:Int):=by omega
   have i1:(k:Int) < 64:=by omega
   have i2:(0:Int)≤4 * (k:Int):=by omega
   have i3:4 * (k:Int)+3 < (n:Int):=by omega
   have i4:4 * (k:Int) < (n:Int):=by omega
   have i5:4 * (k:Int)+1 < (n:Int):=by omega
   have i6:4 * (k:Int)+2 < (n:Int):=by omega
   have j5:0≤4 * (k:Int)+1:=by omega
   have j6:0≤4 * (k:Int)+2:=by omega
   have j7:0≤4 * (k:Int)+3:=by omega
   have e0:(4 * (k:Int)).toNat=4 * k:=by omega
   have e1:(4 * (k:Int)+1).toNat=4 * k+1:=by omega
   have e2:(4 * (k:Int)+2).toNat=4 * k+2:=by omega
   have e3:(4 * (k:Int)+3).toNat=4 * k+3:=by omega
   have w0:IntKind.i64.wrap (4 * (k:Int))=4 * k:=IntWalk.i64_in _ (by omega)
   have w1:IntKind.i64.wrap (4 * (k:Int)+1)=4 * k+1:=IntWalk.i64_in _ (by omega)
   have w2:IntKind.i64.wrap (4 * (k:Int)+2)=4 * k+2:=IntWalk.i64_in _ (by omega)
   have w3:IntKind.i64.wrap (4 * (k:Int)+3)=4 * k+3:=IntWalk.i64_in _ (by omega)
   have hk16:=mkA hlt
   clear hn hn2 hlt hk
   repeat still_step
   refine wpStill_nil ?_
   go_wp2
   clear i0 i1 i2 i3 i4 i5 i6 j5 j6 j7 e0 e1 e2 e3 w0 w1 w2 w3 c0 c1 c2 c3 d0 f0
   go_roundw
   case rel=>
    refine ⟨k+1,ws.set k (word bs k),by have:=hk16.out;omega,by go_num,⟨by simp [hl.out]⟩,⟨fun j hj=>?_⟩,⟨?_⟩,⟨?_⟩,⟨?_⟩⟩
    ·rw [nth_set _ _ _ _ (by rw [hl.out];have:=hk16.out;omega)]
     split
     ·next e=>rw [e]
     ·exact hw.out j (by omega)
    ·rw [← u32s_set];exact blk_set HH3.out k _
    ·rw [HD.out];exact gb_set (gb_drew HG.out) _ (.inr (Nat.le_refl _)) _
    ·rw [HD.out];exact blk_far (blk_drew HA.out) (by simp;omega) _
   case measure=>have:=hk16.out;simp [intOf];omega
  ·go_wp2
   have hk16:=mkA (show k=16 by omega)
   clear hlt hk
   go_loopw [8] (fun i wr=>∃ (p:Nat) (ws:List Int),p≤48∧i=.int .i64 ((p:Int)+16)∧Aside0 (ws.length=64)∧Aside0 (∀ j,j < p+16→nth ws j=sched (word bs) j)∧Aside0 (wr.heap[w.heap.size]?=some (.cells (u32s ws) 97 (0,0)))∧Aside0 (w.grownBy wr (some a))∧Aside0 (wr.heap[a]?=some (.cells (u32s st) 99 (0,0)))) (fun i _=>64 - (intOf i).toNat)
   case atStart=>exact ⟨0,ws,by omega,rfl,hl,⟨fun j hj=>by rw [sched_low _ _ (by omega)];exact hw.out j (by have:=hk16.out;omega)⟩,HH,HG,HA⟩
   case round=>
    clear hw HH HG HA hl hk16
    obtain ⟨p,vs,hp,rfl,hl,hw,HH,HG,HA⟩:=hrel
    by_cases hlt:p < 48
    ·
     have k64:(p:Int)+16 < 64:=by omega
     go_wp2
     refine still_at (by kernel_rfl) (by kernel_rfl) ?_
     intro wd hwd
     have HD:=mkA hwd
     clear hwd
     have HH2:wd.heap[w.heap.size]?=some (.cells (u32s vs) 97 (0,0)):=by rw [HD.out];exact HH.out
     have d15:wd.cell? ⟨w.heap.size,p+1,none⟩=some (.int .u32 (nth vs (p+1))):=(blk_cell HH2 _).trans (u32s_at vs _ (by rw [hl.out];omega))
     have d2:wd.cell? ⟨w.heap.size,p+14,none⟩=some (.int .u32 (nth vs (p+14))):=(blk_cell HH2 _).trans (u32s_at vs _ (by rw [hl.out];omega))
     have HH3:=mkA HH2
     clear HH2
     have w15:IntKind.i64.wrap ((p:Int)+16 - 15)=p+1:=(IntWalk.i64_in _ (by omega)).trans (by omega)
     have w2:IntKind.i64.wrap ((p:Int)+16 - 2)=p+14:=(IntWalk.i64_in _ (by omega)).trans (by omega)
     have i15:(0:Int)≤(p:Int)+1:=by omega
     have j15:(p:Int)+1 < 64:=by omega
     have i2:(0:Int)≤(p:Int)+14:=by omega
     have j2:(p:Int)+14 < 64:=by omega
     have e15:((p:Int)+1).toNat=p+1:=by omega
     have e2:((p:Int)+14).toNat=p+14:=by omega
     repeat still_step
     refine wpStill_nil ?_
     clear w15 w2 i15 j15 i2 j2 e15 e2 d15 d2
     go_wp2
     refine still_tail_at 29 (by kernel_rfl) (by kernel_rfl) ?_
     intro we hwe
     have HE:=mkA (hwe.trans (congrArg World.drew HD.out))
     clear hwe
     simp only [List.take_succ_cons,List.take_zero,List.drop_succ_cons,List.drop_zero]
     have HH4:we.heap[w.heap.size]?=some (.cells (u32s vs) 97 (0,0)):=by rw [HE.out];exact HH.out
     have d16:we.cell? ⟨w.heap.size,p,none⟩=some (.int .u32 (nth vs p)):=(blk_cell HH4 _).trans (u32s_at vs _ (by rw [hl.out];omega))
     have d7:we.cell? ⟨w.heap.size,p+9,none⟩=some (.int .u32 (nth vs (p+9))):=(blk_cell HH4 _).trans (u32s_at vs _ (by rw [hl.out];omega))
     have d0:we.cell? ⟨w.heap.size,p+16,none⟩=some (.int .u32 (nth vs (p+16))):=(blk_cell HH4 _).trans (u32s_at vs _ (by rw [hl.out];omega))
     have f0:we.frozen? ⟨w.heap.size,p+16,none⟩=false:=blk_frozen HH4 _
     have HH5:=mkA HH4
     clear HH4
     have w16:IntKind.i64.wrap ((p:Int)+16 - 16)=p:=(IntWalk.i64_in _ (by omega)).trans (by omega)
     have w16':IntKind.i64.wrap (p:Int)=p:=(IntWalk.i64_in _ (by omega)).trans (by omega)
     have w7:IntKind.i64.wrap ((p:Int)+16 - 7)=p+9:=(IntWalk.i64_in _ (by omega)).trans (by omega)
     have i16:(0:Int)≤(p:Int):=by omega
     have j16:(p:Int) < 64:=by omega
     have i7:(0:Int)≤(p:Int)+9:=by omega
     have j7:(p:Int)+9 < 64:=by omega
     have i0:(0:Int)≤(p:Int)+16:=by omega
     have e16:((p:Int)).toNat=p:=by omega
     have e7:((p:Int)+9).toNat=p+9:=by omega
     have e0:((p:Int)+16).toNat=p+16:=by omega
     repeat (first|still_step|still_call (rot_any _ _ _ (by decide +kernel)))
     refine wpStill_nil ?_
     go_wp2
     have hk48:=mkA hlt
     clear w16 w16' w7 i16 j16 i7 j7 i0 e16 e7 e0 d16 d7 d0 f0 hlt k64
     go_roundw
     case rel=>
      refine ⟨p+1,vs.set (p+16) (sched (word bs) (p+16)),by have:=hk48.out;omega,by go_num,⟨by simp [hl.out]⟩,⟨fun j hj=>?_⟩,⟨?_⟩,⟨?_⟩,⟨?_⟩⟩
      ·rw [nth_set _ _ _ _ (by rw [hl.out];have:=hk48.out;omega)]
       split
       ·next e=>rw [e]
       ·exact hw.out j (by omega)
      ·rw [← u32s_set,sched_high _ _ (by omega),show p+16 - 16=p from by omega,show p+16 - 7=p+9 from by omega,show p+16 - 15=p+1 from by omega,show p+16 - 2=p+14 from by omega,← hw.out p (by omega),← hw.out (p+9) (by omega),← hw.out (p+1) (by omega),← hw.out (p+14) (by omega)]
       rw [← add3];exact blk_set HH5.out _ _
      ·rw [HE.out];exact gb_set (gb_drew (gb_drew HG.out)) _ (.inr (Nat.le_refl _)) _
      ·rw [HE.out];exact blk_far (blk_drew (blk_drew HA.out)) (by simp;omega) _
     case measure=>have:=hk48.out;simp [intOf];omega
    ·have k64:¬ (p:Int)+16 < 64:=by omega
     go_wp2
     have hp48:=mkA (show p=48 by omega)
     clear hlt k64 hp
     refine still_at (by kernel_rfl) (by kernel_rfl) ?_
     intro wd hwd
     have HD:=mkA hwd
     clear hwd
     have HA2:wd.heap[a]?=some (.cells (u32s st) 99 (0,0)):=by rw [HD.out];exact HA.out
     have sc:∀ j,j < 8→wd.cell? ⟨a,j,none⟩=some (.int .u32 (nth st j)):=fun j hj=>(blk_cell HA2 _).trans (u32s_at st _ (by rw [hst'.out];omega))
     have s0:=sc 0 (by omega)
     have s1:=sc 1 (by omega)
     have s2:=sc 2 (by omega)
     have s3:=sc 3 (by omega)
     clear sc HA2
     repeat still_step
     refine wpStill_nil ?_
     clear s0 s1 s2 s3
     go_wp2
     refine still_at (by kernel_rfl) (by kernel_rfl) ?_
     intro we hwe
     have HE:=mkA (hwe.trans (congrArg World.drew HD.out))
     clear hwe
     have HA2:we.heap[a]?=some (.cells (u32s st) 99 (0,0)):=by rw [HE.out];exact HA.out
     have sc:∀ j,j < 8→we.cell? ⟨a,j,none⟩=some (.int .u32 (nth st j)):=fun j hj=>(blk_cell HA2 _).trans (u32s_at st _ (by rw [hst'.out];omega))
     have s4:=sc 4 (by omega)
     have s5:=sc 5 (by omega)
     have s6:=sc 6 (by omega)
     have s7:=sc 7 (by omega)
     clear sc HA2
     repeat still_step
     refine wpStill_nil ?_
     clear s4 s5 s6 s7
     have HK:we.rangeAt c 0 (K.map (Value.int .u32)):=by
      rw [HE.out]
      exact K_range (blk_drew (blk_drew (blk_gb hC.out HG.out (by rw [ne_eq,Option.some.injEq];exact hne.out.2.2))))
     obtain ⟨KA,hKA⟩:∃ KA,KA=K.map (Value.int .u32):=⟨_,rfl⟩
     rw [← hKA] at HK
     have HKA:=mkA hKA
     clear hKA
     have HK2:(Tryz.prog.info? 97).map (·.size)=some KA.length:=by rw [HKA.out,List.length_map,hK'.out];kernel_rfl
     have HK1:=mkA HK
     have HK3:=mkA HK2
     clear HK HK2
     go_wp2_with (with_reducible refine wpList_load_mid rfl 97 _ rfl c 0 rfl KA _ HK1.out Tryz.underlying97 rfl HK3.out ?_)
     have hlA:=hl
     go_loopw [11,12,13,14,15,16,17,18,141] (fun v1 v2 v3 v4 v5 v6 v7 v8 i w3=>∃ (q:Nat) (x1 x2 x3 x4 x5 x6 x7 x8:Int),q≤64∧i=.int .i64 q∧v1=.int .u32 x1∧v2=.int .u32 x2∧v3=.int .u32 x3∧v4=.int .u32 x4∧v5=.int .u32 x5∧v6=.int .u32 x6∧v7=.int .u32 x7∧v8=.int .u32 x8∧Aside0 (rnds rnd1 (nth K) (sched (word bs)) (stS st) q=⟨x1,x2,x3,x4,x5,x6,x7,x8⟩)∧Aside0 (w3.heap[w.heap.size]?=some (.cells (u32s vs) 97 (0,0)))∧Aside0 (w.grownBy w3 (some a))∧Aside0 (w3.heap[a]?=some (.cells (u32s st) 99 (0,0)))) (fun _ _ _ _ _ _ _ _ i _=>64 - (intOf i).toNat)
     case atStart=>exact ⟨0,_,_,_,_,_,_,_,_,by omega,rfl,rfl,rfl,rfl,rfl,rfl,rfl,rfl,rfl,⟨rfl⟩,⟨by rw [HE.out];exact HH.out⟩,⟨by rw [HE.out];exact gb_drew (gb_drew HG.out)⟩,⟨by rw [HE.out];exact HA.out⟩⟩
     case round=>
      clear HH HG HA HD HE HK1 HK3
      obtain ⟨q,x1,x2,x3,x4,x5,x6,x7,x8,hq,rfl,rfl,rfl,rfl,rfl,rfl,rfl,rfl,rfl,HR,HH,HG,HA⟩:=hrel
      by_cases hlt:q < 64
      ·
       have hidx:∀ w,(Instr.index 97 (.agg KA.toArray) (.int .i64 (q:Int))).run Tryz.prog w=.ok (.int .u32 (nth K q)) w:=fun w=>run_idx_agg Tryz.underlying97 (fun w=>by kernel_rfl) (fun w=>by kernel_rfl) _ q hlt _ (by rw [HKA.out];exact u32s_at K q (by rw [hK'.out];exact hlt)) w
       go_wp2
       refine still_at (by kernel_rfl) (by kernel_rfl) ?_
       intro wd hwd
       have HD:=mkA hwd
       clear hwd hidx
       have HH2:wd.heap[w.heap.size]?=some (.cells (u32s vs) 97 (0,0)):=by rw [HD.out];exact HH.out
       have dq:wd.cell? ⟨w.heap.size,q,none⟩=some (.int .u32 (nth vs q)):=(blk_cell HH2 _).trans (u32s_at vs _ (by rw [hl.out];omega))
       have HH3:=mkA HH2
       clear HH2
       have iq:(0:Int)≤(q:Int):=by omega
       have jq:(q:Int) < 64:=by omega
       repeat (first|still_step|still_call (rot_any _ _ _ (by decide +kernel)))
       refine wpStill_nil ?_
       clear dq
       go_wp2_with (go_at_call 101;refine (rot_any _ _ _ (by decide +kernel)).mono ?_;rintro e w' ⟨rfl,rfl⟩)
       have hq64:=mkA hlt
       clear hlt iq jq
       go_roundw
       case rel=>
        refine ⟨q+1,_,_,_,_,_,_,_,_,by have:=hq64.out;omega,by go_num,rfl,rfl,rfl,rfl,rfl,rfl,rfl,rfl,⟨?_⟩,⟨by rw [HD.out];exact HH.out⟩,⟨by rw [HD.out];exact gb_drew HG.out⟩,⟨by rw [HD.out];exact HA.out⟩⟩
        rw [rnds,HR.out,← hw.out q (by have:=hq64.out;have:=hp48.out;omega)]
        simp only [rnd1,t1,t2,add32,ch32,not32,bs0,bs1,maj32,IntKind.wrap_u32]
       case measure=>have:=hq64.out;simp [intOf];omega
      ·go_wp2
       have hq64:=mkA (show q=64 by omega)
       clear hlt hq
       go_loopw [212] (fun i w3=>∃ (j:Nat) (s2:List Int),j≤8∧i=.int .i64 j∧Aside0 (s2.length=8)∧Aside0 (∀ i,i < 8→nth s2 i=if i < j then add32 (nth st i) (nth [x1,x2,x3,x4,x5,x6,x7,x8] i) else nth st i)∧Aside0 (w.grownBy w3 (some a))∧Aside0 (w3.heap[a]?=some (.cells (u32s s2) 99 (0,0)))) (fun i _=>8 - (intOf i).toNat)
       case atStart=>exact ⟨0,st,by omega,rfl,hst',⟨fun i hi=>by simp⟩,HG,HA⟩
       case round=>
        clear HG HA HH
        obtain ⟨j,s2,hj,rfl,hl2,hs2,HG,HA⟩:=hrel
        by_cases hlt:j < 8
        ·have hidx:∀ w,(Instr.index 98 (.agg #[.int .u32 x1,.int .u32 x2,.int .u32 x3,.int .u32 x4,.int .u32 x5,.int .u32 x6,.int .u32 x7,.int .u32 x8]) (.int .i64 (j:Int))).run Tryz.prog w=.ok (.int .u32 (nth [x1,x2,x3,x4,x5,x6,x7,x8] j)) w:=fun w=>run_idx_agg Tryz.underlying98 (fun w=>by kernel_rfl) (fun w=>by kernel_rfl) _ j hlt _ (u32s_at [x1,x2,x3,x4,x5,x6,x7,x8] j hlt) w
         go_wp2
         refine still_tail_at 9 (by kernel_rfl) (by kernel_rfl) ?_
         intro wd hwd
         have HD:=mkA hwd
         clear hwd hidx
         simp only [List.take_succ_cons,List.take_zero,List.drop_succ_cons,List.drop_zero]
         have HA2:wd.heap[a]?=some (.cells (u32s s2) 99 (0,0)):=by rw [HD.out];exact HA.out
         have dj:wd.cell? ⟨a,j,none⟩=some (.int .u32 (nth s2 j)):=(blk_cell HA2 _).trans (u32s_at s2 _ (by rw [hl2.out];omega))
         have fj:wd.frozen? ⟨a,j,none⟩=false:=blk_frozen HA2 j
         have HA3:=mkA HA2
         clear HA2
         have iq:(0:Int)≤(j:Int):=by omega
         have jq:(j:Int) < 8:=by omega
         repeat still_step
         refine wpStill_nil ?_
         go_wp2
         have hj8:=mkA hlt
         clear iq jq dj fj hlt
         go_roundw
         case rel=>
          refine ⟨j+1,s2.set j (add32 (nth st j) (nth [x1,x2,x3,x4,x5,x6,x7,x8] j)),by have:=hj8.out;omega,by go_num,⟨by simp [hl2.out]⟩,⟨fun i hi=>?_⟩,⟨by rw [HD.out];exact gb_set (gb_drew HG.out) _ (.inl rfl) _⟩,⟨?_⟩⟩
          ·rw [nth_set _ _ _ _ (by rw [hl2.out];exact hj8.out),hs2.out i hi]
           by_cases e:i=j
           ·subst e;simp
           ·rw [if_neg e];by_cases h2:i < j
            ·rw [if_pos h2,if_pos (by omega)]
            ·rw [if_neg h2,if_neg (by omega)]
          ·rw [← u32s_set]
           have e1:nth s2 j=nth st j:=by rw [hs2.out j hj8.out];simp
           rw [← e1,add32]
           exact blk_set HA3.out _ _
         case measure=>have:=hj8.out;simp [intOf];omega
        ·go_wp2
         go_end0
         refine ⟨rfl,?_,HG.out⟩
         rw [HA.out,show s2=mixF K st bs from ?_]
         have e8:j=8:=by omega
         subst e8
         rw [eight hl2.out (fun i hi=>(hs2.out i hi).trans (if_pos hi))]
         unfold mixF
         rw [← hq64.out,HR.out]
         rfl
end Go.Proofs.YtlnmnjbihgaliaaGreat
end
section
open Go.RowKit Go.Proofs.YtlnmnjbihgaliaaGreatW.PrintWords
namespace Go.Proofs.YtlnmnjbihgaliaaGreat
/-- The constants of the rounds, and of the beginning. -/
def KK:List Int:=[1116352408,1899447441,3049323471,3921009573,961987163,1508970993,2453635748,2870763221,3624381080,310598401,607225278,1426881987,1925078388,2162078206,2614888103,3248222580,3835390401,4022224774,264347078,604807628,770255983,1249150122,1555081692,1996064986,2554220882,2821834349,2952996808,3210313671,3336571891,3584528711,113926993,338241895,666307205,773529912,1294757372,1396182291,1695183700,1986661051,2177026350,2456956037,2730485921,2820302411,3259730800,3345764771,3516065817,3600352804,4094571909,275423344,430227734,506948616,659060556,883997877,958139571,1322822218,1537002063,1747873779,1955562222,2024104815,2227730452,2361852424,2428436474,2756734187,3204031479,3329325298]
def IV:List Int:=[1779033703,3144134277,1013904242,2773480762,1359893119,2600822924,528734635,1541459225]
set_option maxRecDepth 100000 in
set_option maxHeartbeats 4000000 in
theorem made_calls(w:World):Calls Tryz.prog 79 #[] w fun e w'=>e=.returned (.pointer (some ⟨w.heap.size,0,none⟩))∧w'=w.alloc (.cells (u32s (KK++IV)) 101 (0,0)):=by
 go_enter Tryz.func79,Tryz.ntmps79
 go_wp2
 go_ret
 exact ⟨rfl,congrArg (fun c=>w.alloc (.cells c 101 (0,0))) (by kernel_rfl)⟩
end Go.Proofs.YtlnmnjbihgaliaaGreat
end
section
open Go.RowKit Go.Proofs.YtlnmnjbihgaliaaGreatW.PrintWords
namespace Go.Proofs.YtlnmnjbihgaliaaGreat
theorem iv0:(u32s (KK++IV))[64]?=some (.int .u32 (nth IV 0)):=by kernel_rfl
theorem iv1:(u32s (KK++IV))[65]?=some (.int .u32 (nth IV 1)):=by kernel_rfl
theorem iv2:(u32s (KK++IV))[66]?=some (.int .u32 (nth IV 2)):=by kernel_rfl
theorem iv3:(u32s (KK++IV))[67]?=some (.int .u32 (nth IV 3)):=by kernel_rfl
theorem iv4:(u32s (KK++IV))[68]?=some (.int .u32 (nth IV 4)):=by kernel_rfl
theorem iv5:(u32s (KK++IV))[69]?=some (.int .u32 (nth IV 5)):=by kernel_rfl
theorem iv6:(u32s (KK++IV))[70]?=some (.int .u32 (nth IV 6)):=by kernel_rfl
theorem iv7:(u32s (KK++IV))[71]?=some (.int .u32 (nth IV 7)):=by kernel_rfl
theorem new_at{w:World}{o:Obj}{k:Nat}(h:w.heap.size=k):(w.alloc o).heap[k]?=some o:=by rw [← h];exact heap_alloc_new w o
theorem size_a(w:World)(o:Obj):(w.alloc o).heap.size=w.heap.size+1:=by simp
/-- The state behind so many blocks. -/
def runS(K st p:List Int):Nat→List Int
 |0=>st
 |k+1=>mixF K (runS K st p k) (p.drop (64 * k))
theorem runS_len(K st p:List Int)(h:st.length=8)(k:Nat):(runS K st p k).length=8:=by
 cases k with
 |zero=>exact h
 |succ k=>rfl
def u8s(l:List Int):Array Value:=(l.map (Value.int .u8)).toArray
theorem u8s_set(l:List Int)(i:Nat)(v:Int):(u8s l).setIfInBounds i (.int .u8 v)=u8s (l.set i v):=by
 simp [u8s,List.map_set]
theorem u8s_at(l:List Int)(i:Nat)(h:i < l.length):(u8s l)[i]?=some (.int .u8 (nth l i)):=by
 simp [u8s,nth,h]
theorem nth_drop(l:List Int)(k j:Nat):nth (l.drop k) j=nth l (k+j):=by simp [nth,List.getD_eq_getElem?_getD]
theorem bytes_drop{w:World}{bb bo n k:Nat}{bs:List Int}(h:BytesAt w bb bo n bs)(m:Nat)(hm:k+m≤n):BytesAt w bb (bo+k) m (bs.drop k):=fun j hj=>by
 rw [nth_drop,Nat.add_assoc];exact h (k+j) (by omega)
theorem bytes_below{w w1:World}{bb bo n:Nat}{bs:List Int}(h:BytesAt w bb bo n bs)(hb:Below w.heap.size w w1):BytesAt w1 bb bo n bs:=fun j hj=>pw_cell_below hb (h j hj)
theorem bytes_fewer{w:World}{bb bo n:Nat}{bs:List Int}(h:BytesAt w bb bo n bs){m:Nat}(hm:m≤n):BytesAt w bb bo m bs:=fun j hj=>h j (by omega)
theorem splice_u8{cur cs:List Value}{rem:List Int}(m:Nat)(hc:cur=List.replicate 128 (Value.int .u8 0))(hcs:cs=rem.map (Value.int .u8))(hm:rem.length=m)(hm2:m≤128):
  (splice cur 0 cs).toArray=u8s (rem++List.replicate (128 - m) 0):=by
 subst hc hcs
 have e:(List.replicate 128 (Value.int .u8 0)).drop m=List.replicate (128 - m) (Value.int .u8 0):=List.drop_replicate ..
 simp only [splice,u8s,List.take_zero,List.nil_append,List.length_map,hm,Nat.zero_add,e,List.map_append,List.map_replicate]
/-- The last bytes: what is left, 0x80, noughts; the length at the end, of which i bytes are laid. -/
def tailB(N:Int)(rem:List Int)(E i:Nat)(j:Nat):Int:=
 if j < rem.length then nth rem j else if j=rem.length then 128 else if E - i≤j∧j < E then (N / 2 ^ (8 * (E - 1 - j))) % 256 else 0
theorem nth_rep(n i:Nat):nth (List.replicate n 0) i=0:=by
 unfold nth
 rw [List.getD_eq_getElem?_getD,List.getElem?_replicate]
 split <;> rfl
theorem bytes_hp(bs:List Int)(k j:Nat)(h:j < ((bs.drop k).map (Value.int .u8)).length):some (Value.int .u8 (nth (bs.drop k) j))=some (((bs.drop k).map (Value.int .u8))[j]):=by
 have h':j < (bs.drop k).length:=by simpa using h
 rw [List.getElem_map]
 simp only [nth,List.getD_eq_getElem?_getD,List.getElem?_eq_getElem h',Option.getD_some]
theorem tailB_start(N:Int)(rem:List Int)(m E:Nat)(h:rem.length=m)(hE:m < E)(hE2:E≤128)(j:Nat)(hj:j < 128):nth ((rem++List.replicate (128 - m) 0).set m 128) j=tailB N rem E 0 j:=by
 have hl:(rem++List.replicate (128 - m) 0).length=128:=by rw [List.length_append,h,List.length_replicate];omega
 rw [nth_set _ _ _ _ (by omega)]
 unfold tailB
 rw [h]
 by_cases e:j=m
 ·rw [if_pos e,if_neg (by omega),if_pos e]
 ·rw [if_neg e]
  by_cases e2:j < m
  ·rw [if_pos e2]
   unfold nth
   rw [List.getD_eq_getElem?_getD,List.getElem?_append_left (by omega),← List.getD_eq_getElem?_getD]
  ·rw [if_neg e2,if_neg e,if_neg (by omega)]
   unfold nth
   rw [List.getD_eq_getElem?_getD,List.getElem?_append_right (by omega),List.getElem?_replicate]
   split <;> rfl
theorem tailB_step(N:Int)(rem:List Int)(m E k:Nat)(h:rem.length=m)(hm:m+8 < E)(hE2:E≤128)(hk:k < 8)(L:List Int)(hL:L.length=128)(hLc:∀ j,j < 128→nth L j=tailB N rem E k j)(j:Nat)(hj:j < 128):
  nth (L.set (E - 1 - k) (N / 2 ^ (8 * k) % 256)) j=tailB N rem E (k+1) j:=by
 rw [nth_set _ _ _ _ (by omega),hLc j hj]
 unfold tailB
 rw [h]
 by_cases e:j=E - 1 - k
 ·rw [if_pos e,if_neg (by omega),if_neg (by omega),if_pos (by omega),show E - 1 - j=k from by omega]
 ·rw [if_neg e]
  by_cases e1:j < m
  ·rw [if_pos e1,if_pos e1]
  ·rw [if_neg e1,if_neg e1]
   by_cases e2:j=m
   ·rw [if_pos e2,if_pos e2]
   ·rw [if_neg e2,if_neg e2]
    by_cases e3:E - k≤j∧j < E
    ·rw [if_pos e3,if_pos (by omega)]
    ·rw [if_neg e3,if_neg (by omega)]
/-- The last bytes, as a list. -/
def lastL(bs:List Int):List Int:=(List.range 128).map fun j=>tailB ((bs.length:Int) * 8) (bs.drop (64 * (bs.length / 64))) (if 56≤bs.length % 64 then 128 else 64) 8 j
theorem ext128{L:List Int}(f:Nat→Int)(hL:L.length=128)(h:∀ j,j < 128→nth L j=f j):L=(List.range 128).map f:=by
 apply List.ext_getElem (by simp [hL])
 intro i h1 h2
 have:=h i (by omega)
 simp [nth,List.getD_eq_getElem?_getD,List.getElem?_eq_getElem h1] at this
 simpa using this
/-- The sum's state, as the program reckons it. -/
def stP(bs:List Int):List Int:=runS KK (runS KK IV bs (bs.length / 64)) (lastL bs) (if 56≤bs.length % 64 then 2 else 1)
/-- A state's 32 bytes. -/
def outB(st:List Int)(i:Nat):Int:=if i % 4=0 then nth st (i / 4) / 16777216 % 256 else if i % 4=1 then nth st (i / 4) / 65536 % 256 else if i % 4=2 then nth st (i / 4) / 256 % 256 else nth st (i / 4) % 256
def sumP(bs:List Int):List Int:=(List.range 32).map (outB (stP bs))
theorem extL{L:List Int}{n:Nat}(f:Nat→Int)(hL:L.length=n)(h:∀ j,j < n→nth L j=f j):L=(List.range n).map f:=by
 apply List.ext_getElem (by simp [hL])
 intro i h1 h2
 have:=h i (by omega)
 simp [nth,List.getD_eq_getElem?_getD,List.getElem?_eq_getElem h1] at this
 simpa using this
theorem out_step(st O:List Int)(j:Nat)(hO:O.length=32)(hj:j < 8)(h:∀ i,i < 32→nth O i=if i < 4 * j then outB st i else 0)(i:Nat)(hi:i < 32):
  nth ((((O.set (4 * j) (nth st j / 16777216 % 256)).set (4 * j+1) (nth st j / 65536 % 256)).set (4 * j+2) (nth st j / 256 % 256)).set (4 * j+3) (nth st j % 256)) i=if i < 4 * (j+1) then outB st i else 0:=by
 rw [nth_set _ _ _ _ (by simp;omega),nth_set _ _ _ _ (by simp;omega),nth_set _ _ _ _ (by simp;omega),nth_set _ _ _ _ (by omega),h i hi]
 by_cases e3:i=4 * j+3
 ·rw [if_pos e3,if_pos (by omega),outB,if_neg (by omega),if_neg (by omega),if_neg (by omega),show i / 4=j from by omega]
 ·rw [if_neg e3]
  by_cases e2:i=4 * j+2
  ·rw [if_pos e2,if_pos (by omega),outB,if_neg (by omega),if_neg (by omega),if_pos (by omega),show i / 4=j from by omega]
  ·rw [if_neg e2]
   by_cases e1:i=4 * j+1
   ·rw [if_pos e1,if_pos (by omega),outB,if_neg (by omega),if_pos (by omega),show i / 4=j from by omega]
   ·rw [if_neg e1]
    by_cases e0:i=4 * j
    ·rw [if_pos e0,if_pos (by omega),outB,if_pos (by omega),show i / 4=j from by omega]
    ·rw [if_neg e0]
     by_cases e4:i < 4 * j
     ·rw [if_pos e4,if_pos (by omega)]
     ·rw [if_neg e4,if_neg (by omega)]
theorem u8s_one(l:List Int):(u8s l).all (·.oneCell')=true:=by
 rw [u8s,Array.all_eq_true_iff_forall_mem]
 intro v hv
 obtain ⟨x,_,rfl⟩:=List.mem_map.1 (by simpa using hv)
 rfl
theorem u8s_size(l:List Int):(u8s l).size=l.length:=by simp [u8s]
theorem u32s_size(l:List Int):(u32s l).size=l.length:=by simp [u32s]
theorem stP_len(bs:List Int):(stP bs).length=8:=runS_len _ _ _ (runS_len _ _ _ rfl _) _
theorem sumP_len(bs:List Int):(sumP bs).length=32:=by rw [sumP,List.length_map,List.length_range]
set_option maxRecDepth 100000 in
set_option maxHeartbeats 4000000 in
theorem sum_calls(A:Option Addr)(n cap:Nat)(bs:List Int)(w:World)(hn:bs.length=n)(hc:n≤cap)(hcap:cap≤9223372036854775807)(hbig:n≤140737488355328)
  (hb:0 < n→∃ bb bo,A=some ⟨bb,bo,none⟩∧bb < w.heap.size∧BytesAt w bb bo n bs) :
  Calls Tryz.prog 61 #[.slice A n cap] w fun e w'=>e=.returned (.agg (u8s (sumP bs)))∧Below w.heap.size w w':=by
 have i0:=iv0
 have i1:=iv1
 have i2:=iv2
 have i3:=iv3
 have i4:=iv4
 have i5:=iv5
 have i6:=iv6
 have i7:=iv7
 have hn':=mkA hn
 have hb':=mkA hb
 clear hn hb
 go_enter Tryz.func61,Tryz.ntmps61
 go_wp2_with (go_at_call 79;refine (made_calls _).mono ?_;rintro e w' ⟨rfl,rfl⟩)
 go_loopw [0] (fun v0 wr=>∃ (q m c':Nat) (A':Option Addr),v0=.slice A' m c'∧m≤n∧m≤c'∧c'≤9223372036854775807∧Aside0 (m+64 * q=n)∧Aside0 (0 < m→∃ bb bo,A'=some ⟨bb,bo,none⟩∧bb < w.heap.size∧BytesAt w bb bo m (bs.drop (64 * q)))∧Aside0 (wr.heap[w.heap.size+1+1]?=some (.cells (u32s (runS KK IV bs q)) 99 (0,0)))∧Aside0 (wr.heap[w.heap.size+1]?=some (.cells (u32s (KK++IV)) 101 (0,0)))∧Aside0 (wr.heap[w.heap.size]?=some (.cells (u8s (List.replicate 32 0)) 43 (0,0)))∧Aside0 (Below w.heap.size w wr)) (fun v _=>match v with|.slice _ m _=>m|_=>0)
 case atStart=>
  refine ⟨0,n,cap,A,rfl,by omega,hc,hcap,⟨by omega⟩,⟨hb'.out⟩,⟨?_⟩,⟨?_⟩,⟨?_⟩,⟨?_⟩⟩
  ·exact new_at (by rw [size_a,size_a])
  ·exact blk_alloc (new_at (by rw [size_a])) _
  ·exact blk_alloc (blk_alloc (new_at rfl) _) _
  ·exact (((Below.refl _ _).alloc (Nat.le_refl _) _).alloc (by simp) _).alloc (by simp;omega) _
 case round=>
  clear i0 i1 i2 i3 i4 i5 i6 i7 hc hcap
  obtain ⟨q,m,c',A',rfl,hm,hmc,hc',hq,hA',H2,H1,H0,HB⟩:=hrel
  by_cases hlt:64≤m
  ·obtain ⟨bb,bo,rfl,hbb,hby⟩:=hA'.out (by omega)
   have hby':=mkA hby
   clear hby hA'
   have s1:w.heap.size+1+1 < wr.heap.size:=blk_lt H2.out
   have s2:=mkA (And.intro (blk_lt H2.out) (And.intro hbb hlt))
   have hmix:=mix_calls (w.heap.size+1+1) (w.heap.size+1) bb bo 64 c' (bs.drop (64 * q)) (runS KK IV bs q) KK IV wr (Nat.le_refl _) (by omega) H2.out (runS_len _ _ _ rfl _) H1.out rfl rfl (bytes_fewer (bytes_below hby'.out HB.out) hlt) (by omega) (by omega) (by omega)
   have hmx:=mkA hmix
   clear hmix s1 hbb
   have hce':(c'=64∧m=64)∨64 < c':=by omega
   have e64:(64:Int)≤(m:Int):=by omega
   rcases hce' with ⟨rfl,rfl⟩|hce
   all_goals
    go_wp2_with fail
    refine hmx.out.mono ?_
    rintro e w' ⟨rfl,hH2,hG⟩
    have HG:=mkA hG
    have HH2:=mkA hH2
    clear hH2 hG
    go_wp2
    go_roundw
    case rel=>
     refine ⟨q+1,_,_,_,rfl,by omega,by omega,by omega,⟨by have:=hq.out;omega⟩,⟨fun hp=>?_⟩,⟨HH2.out⟩,⟨blk_gb H1.out HG.out (by simp)⟩,⟨blk_gb H0.out HG.out (by simp;omega)⟩,⟨HB.out.grown HG.out (by have:=s2.out.1;omega) (fun k hk=>by simp at hk;omega)⟩⟩
     first
     |omega
     |refine ⟨bb,bo+64,rfl,s2.out.2.1,?_⟩
      have:=bytes_drop hby'.out (k:=64) _ (show 64+(m - 64)≤m by omega)
      rwa [List.drop_drop,show 64 * q+64=64 * (q+1) from by omega] at this
    case measure=>first|(simp;done)|(simp;omega)
  ·have hcp:Tryz.zeroCells103=(List.replicate 128 (Value.int .u8 0)).toArray:=by kernel_rfl
   have s1:w.heap.size+1+1 < wr.heap.size:=blk_lt H2.out
   have s2:=mkA s1
   clear s1
   obtain ⟨cs,hcs⟩:∃ cs,cs=(bs.drop (64 * q)).map (Value.int .u8):=⟨_,rfl⟩
   have hcl:cs.length=m:=by rw [hcs];simp;have:=hq.out;have:=hn'.out;omega
   have hone:∀ v∈cs,v.oneCell'=true:=by rw [hcs];intro v hv;obtain ⟨x,_,rfl⟩:=List.mem_map.1 hv;rfl
   have hpos:0 < cs.length→(some (⟨wr.heap.size,0,none⟩:Addr))=some ⟨wr.heap.size,0,none⟩∧∃ ad,A'=some ad∧∀ j v,cs[j]?=some v→(wr.alloc (Obj.cells Tryz.zeroCells103 103)).cell? (ad.add j)=some v:=by
    intro hp
    obtain ⟨bb,bo,rfl,hbb,hby⟩:=hA'.out (by omega)
    refine ⟨rfl,_,rfl,fun j v hv=>?_⟩
    rw [Addr.add_mid]
    obtain ⟨hj,hv⟩:=List.getElem?_eq_some_iff.1 hv
    have hj2:j < m:=by omega
    rw [((HB.out.alloc (by have:=s2.out;omega) _).cell (by exact hbb)),hby j hj2,← hv]
    subst hcs
    exact bytes_hp bs (64 * q) j (by omega)
   obtain ⟨cur,hcur⟩:∃ cur,cur=List.replicate 128 (Value.int .u8 0):=⟨_,rfl⟩
   have HGF:=mkA (show (wr.alloc (Obj.cells Tryz.zeroCells103 103)).heap[wr.heap.size]?=some (.cells cur.toArray 103 (0,0)) by rw [hcp,hcur];exact new_at rfl)
   have HN:=mkA (show cs.length=Nat.min m 128 by rw [hcl];exact (Nat.min_eq_left (by omega)).symm)
   have HFIT:=mkA (show 0+cs.length≤cur.length by rw [hcl,hcur,List.length_replicate];omega)
   have HBL:=mkA ((Below.refl wr.heap.size wr).alloc (Nat.le_refl _) (Obj.cells Tryz.zeroCells103 103))
   have HCS:=mkA hcs
   have HCU:=mkA hcur
   have HON:=mkA hone
   have HPO:=mkA hpos
   clear hcs hone hpos hcp hcur
   have hlt':m < 64:=by omega
   have HRL:=mkA (show (bs.drop (64 * q)).length=m by simp;have:=hq.out;have:=hn'.out;omega)
   have HLL:=mkA (show (bs.drop (64 * q)++List.replicate (128 - m) 0).length=128 by rw [List.length_append,HRL.out,List.length_replicate];omega)
   by_cases h56:56≤m
   ·have h56':(56:Int)≤(m:Int):=by omega
    go_wp2_with (with_reducible refine wpList_copy_splice rfl (.tmp 31) (.tmp 32) 23 23 rfl 5 Tryz.underlying23 (by kernel_rfl) _ _ 128 128 m c' rfl rfl wr.heap.size 0 cur 103 HGF.out cs HN.out HPO.out HFIT.out HON.out wr.heap.size wr HBL.out (Nat.le_refl _) ?_)
    intro w2 hg2 hb2
    have HL0:=mkA (show w2.heap[wr.heap.size]?=some (.cells (u8s (bs.drop (64 * q)++List.replicate (128 - m) 0)) 103 (0,0)) by rw [← splice_u8 m HCU.out HCS.out HRL.out (by omega)];exact hg2)
    have HB2:=mkA hb2
    clear hg2 hb2 HGF HN HPO HFIT HON HBL HCS HCU
    have hcm:w2.cell? ⟨wr.heap.size,m,none⟩=some (.int .u8 (nth (bs.drop (64 * q)++List.replicate (128 - m) 0) m)):=(blk_cell HL0.out m).trans (u8s_at _ _ (by rw [HLL.out];omega))
    have hfm:w2.frozen? ⟨wr.heap.size,m,none⟩=false:=blk_frozen HL0.out m
    go_wp2
    clear hcm hfm
    obtain ⟨wo,rfl⟩:∃ wo:World,wo=wr:=⟨_,rfl⟩
    go_loopw [38] (fun i w3=>∃ (k:Nat) (L:List Int),k≤8∧i=.int .i64 k∧Aside0 (L.length=128)∧Aside0 (∀ j,j < 128→nth L j=tailB ((n:Int) * 8) (bs.drop (64 * q)) 128 k j)∧Aside0 (w3.heap[wo.heap.size]?=some (.cells (u8s L) 103 (0,0)))∧Aside0 (Below wo.heap.size wo w3)) (fun i _=>8 - (intOf i).toNat)
    case atStart=>
     refine ⟨0,(bs.drop (64 * q)++List.replicate (128 - m) 0).set m 128,by omega,rfl,⟨by rw [List.length_set];exact HLL.out⟩,⟨fun j hj=>?_⟩,⟨by rw [← u8s_set];exact blk_set HL0.out _ _⟩,⟨HB2.out.setCell (Nat.le_refl _) _⟩⟩
     exact tailB_start _ _ m _ HRL.out (by omega) (by omega) j hj
    case round=>
     clear HL0 HB2
     obtain ⟨k,L,hk,rfl,hL,hLc,HL,HB3⟩:=hrel
     by_cases hk8:k < 8
     ·have hck:wr.cell? ⟨wo.heap.size,127 - k,none⟩=some (.int .u8 (nth L (127 - k))):=(blk_cell HL.out _).trans (u8s_at _ _ (by rw [hL.out];omega))
      have hfk:wr.frozen? ⟨wo.heap.size,127 - k,none⟩=false:=blk_frozen HL.out _
      go_wp2
      have hk9:=mkA hk8
      clear hk8
      go_roundw
      case rel=>
       refine ⟨k+1,L.set (127 - k) ((n:Int) * 8 / 2 ^ (8 * k) % 256),by have:=hk9.out;omega,by go_num,⟨by rw [List.length_set];exact hL.out⟩,⟨fun j hj=>tailB_step _ _ m 128 k HRL.out (by omega) (by omega) hk9.out L hL.out hLc.out j hj⟩,⟨by rw [← u8s_set];exact blk_set HL.out _ _⟩,⟨HB3.out.setCell (Nat.le_refl _) _⟩⟩
      case measure=>have:=hk9.out;simp [intOf];omega
     ·go_wp2
      have hk9:=mkA (show k=8 by omega)
      clear hk8 hk
      obtain ⟨ws,rfl⟩:∃ ws:World,ws=wr:=⟨_,rfl⟩
      have G1:=mkA (show ws.heap[w.heap.size+1]?=some (.cells (u32s (KK++IV)) 101 (0,0)) from (HB3.out.block _ (by have:=s2.out;omega)).trans H1.out)
      have G0:=mkA (show ws.heap[w.heap.size]?=some (.cells (u8s (List.replicate 32 0)) 43 (0,0)) from (HB3.out.block _ (by have:=s2.out;omega)).trans H0.out)
      have G2:=mkA (show ws.heap[w.heap.size+1+1]?=some (.cells (u32s (runS KK IV bs q)) 99 (0,0)) from (HB3.out.block _ (by have:=s2.out;omega)).trans H2.out)
      have GB:=mkA (HB.out.trans (HB3.out.mono (show w.heap.size≤wo.heap.size by have:=s2.out;omega)))
      clear H0 H1 H2 HB HB3
      go_loopw [9] (fun i w3=>∃ (t:Nat),((t=0∧i=.int .i64 0)∨(t=1∧i=.int .i64 64)∨(t=2∧i=.int .i64 128))∧Aside0 (t≤2)∧Aside0 (w3.heap[w.heap.size+1+1]?=some (.cells (u32s (runS KK (runS KK IV bs q) L t)) 99 (0,0)))∧Aside0 (ws.grownBy w3 (some (w.heap.size+1+1)))) (fun i _=>128 - (intOf i).toNat)
      case atStart=>exact ⟨0,.inl ⟨rfl,rfl⟩,⟨by omega⟩,G2,⟨World.grownBy.refl _ _⟩⟩
      case round=>
       obtain ⟨t,ht,ht2,HS,HG⟩:=hrel
       have hLw:=mkA (show wr.heap[wo.heap.size]?=some (.cells (u8s L) 103 (0,0)) from blk_gb HL.out HG.out (by have:=s2.out;simp;omega))
       have hCw:=mkA (show wr.heap[w.heap.size+1]?=some (.cells (u32s (KK++IV)) 101 (0,0)) from blk_gb G1.out HG.out (by simp))
       have hmx:∀ (o c2:Nat),o+64≤128→Calls Tryz.prog 80 #[.pointer (some ⟨w.heap.size+1+1,0,none⟩),.pointer (some ⟨w.heap.size+1,0,none⟩),.slice (some ⟨wo.heap.size,o,none⟩) 64 c2] wr fun e w'=>e=.returned (.tuple #[])∧w'.heap[w.heap.size+1+1]?=some (.cells (u32s (mixF KK (runS KK (runS KK IV bs q) L t) (L.drop o))) 99 (0,0))∧wr.grownBy w' (some (w.heap.size+1+1)):=fun o c2 ho=>
        mix_calls _ _ _ _ 64 c2 (L.drop o) _ KK IV wr (Nat.le_refl _) (by omega) HS.out (runS_len _ _ _ (runS_len _ _ _ rfl _) _) hCw.out rfl rfl (fun j hj=>by rw [blk_cell hLw.out,u8s_at _ _ (by rw [hL.out];omega),nth_drop]) (blk_lt hLw.out) (by have:=s2.out;omega) (by omega)
       have HMX:=mkA hmx
       clear hmx
       rcases ht with ⟨rfl,rfl⟩|⟨rfl,rfl⟩|⟨rfl,rfl⟩
       ·go_wp2_with fail
        refine (HMX.out 0 _ (by omega)).mono ?_
        rintro e w' ⟨rfl,hH2,hG⟩
        have HG3:=mkA hG
        have HH3:=mkA hH2
        clear hH2 hG
        go_wp2
        go_roundw
        case rel=>exact ⟨1,by simp,⟨by omega⟩,HH3,⟨HG.out.trans HG3.out⟩⟩
        case measure=>simp [intOf]
       ·go_wp2_with fail
        refine (HMX.out 64 _ (by omega)).mono ?_
        rintro e w' ⟨rfl,hH2,hG⟩
        have HG3:=mkA hG
        have HH3:=mkA hH2
        clear hH2 hG
        go_wp2
        go_roundw
        case rel=>exact ⟨2,by simp,⟨by omega⟩,HH3,⟨HG.out.trans HG3.out⟩⟩
        case measure=>simp [intOf]
       ·have HST:=mkA (show wr.heap[w.heap.size+1+1]?=some (.cells (u32s (stP bs)) 99 (0,0)) from by
         rw [HS.out,show runS KK (runS KK IV bs q) L 2=stP bs from ?_]
         unfold stP
         have hd:=hq.out
         have hnn:=hn'.out
         have e1:bs.length / 64=q:=by omega
         have e2:bs.length % 64=m:=by omega
         have e3:L=lastL bs:=by
          unfold lastL
          rw [e1,e2,if_pos h56,hnn]
          exact ext128 _ hL.out (fun j hj=>by rw [hLc.out j hj,hk9.out])
         rw [e1,e2,if_pos h56,e3])
        have HGB:=mkA (show Below w.heap.size w wr from GB.out.grown HG.out (by have:=s2.out;have:=GB.out.size;omega) (fun k hk=>by simp at hk;omega))
        have HZ0:=mkA (show wr.heap[w.heap.size]?=some (.cells (u8s (List.replicate 32 0)) 43 (0,0)) from blk_gb G0.out HG.out (by simp;omega))
        clear HS HG G0 G1 G2 GB HL hLw hCw HMX
        have HSZ:=mkA (show (Tryz.prog.info? 99).map (·.size)=some (u32s (stP bs)).size by rw [u32s_size,stP_len];kernel_rfl)
        have HST2:=mkA (fun (o:Obj)=>blk_alloc HST.out o)
        go_wp2_with (with_reducible refine wpList_load_row rfl 99 _ rfl (w.heap.size+1+1) rfl 99 (u32s (stP bs)) (0,0) _ (HST2.out _) Tryz.underlying99 rfl HSZ.out ?_)
        obtain ⟨wt,rfl⟩:∃ wt:World,wt=wr:=⟨_,rfl⟩
        go_loopw [65] (fun i w3=>∃ (j:Nat) (O:List Int),j≤8∧i=.int .i64 j∧Aside0 (O.length=32)∧Aside0 (∀ i,i < 32→nth O i=if i < 4 * j then outB (stP bs) i else 0)∧Aside0 (w3.heap[wt.heap.size]?=some (.cells (u8s O) 43 (0,0)))∧Aside0 (Below wt.heap.size wt w3)) (fun i _=>8 - (intOf i).toNat)
        case atStart=>exact ⟨0,List.replicate 32 0,by omega,rfl,⟨rfl⟩,⟨fun i hi=>by rw [if_neg (by omega)];exact nth_rep 32 i⟩,⟨new_at rfl⟩,⟨(Below.refl _ _).alloc (Nat.le_refl _) _⟩⟩
        case round=>
         obtain ⟨j,O,hj,rfl,hO,hOc,HO,HB5⟩:=hrel
         by_cases hj8:j < 8
         ·have hidx:∀ w,(Instr.index 99 (.agg (u32s (stP bs))) (.int .i64 (j:Int))).run Tryz.prog w=.ok (.int .u32 (nth (stP bs) j)) w:=fun w=>run_idx_agg Tryz.underlying99 (fun w=>by kernel_rfl) (fun w=>by kernel_rfl) _ j hj8 _ (u32s_at _ j (by rw [show (stP bs).length=8 from runS_len _ _ _ (runS_len _ _ _ rfl _) _];exact hj8)) w
          have hco:∀ x,x < 32→wr.cell? ⟨wt.heap.size,x,none⟩=some (.int .u8 (nth O x)):=fun x hx=>(blk_cell HO.out _).trans (u8s_at _ _ (by rw [hO.out];omega))
          have hc0:=hco (4 * j) (by omega)
          have hc1:=hco (4 * j+1) (by omega)
          have hc2:=hco (4 * j+2) (by omega)
          have hc3:=hco (4 * j+3) (by omega)
          have hf0:wr.frozen? ⟨wt.heap.size,4 * j,none⟩=false:=blk_frozen HO.out _
          have hf1:wr.frozen? ⟨wt.heap.size,4 * j+1,none⟩=false:=blk_frozen HO.out _
          have hf2:wr.frozen? ⟨wt.heap.size,4 * j+2,none⟩=false:=blk_frozen HO.out _
          have hf3:wr.frozen? ⟨wt.heap.size,4 * j+3,none⟩=false:=blk_frozen HO.out _
          clear hco
          go_wp2
          have hj9:=mkA hj8
          clear hj8 hc0 hc1 hc2 hc3 hf0 hf1 hf2 hf3 hidx
          go_roundw
          case rel=>
           refine ⟨j+1,(((O.set (4 * j) (nth (stP bs) j / 16777216 % 256)).set (4 * j+1) (nth (stP bs) j / 65536 % 256)).set (4 * j+2) (nth (stP bs) j / 256 % 256)).set (4 * j+3) (nth (stP bs) j % 256),by have:=hj9.out;omega,by go_num,⟨by simp only [List.length_set];exact hO.out⟩,⟨fun i hi=>out_step _ O j hO.out hj9.out hOc.out i hi⟩,⟨?_⟩,⟨(((HB5.out.setCell (Nat.le_refl _) _).setCell (Nat.le_refl _) _).setCell (Nat.le_refl _) _).setCell (Nat.le_refl _) _⟩⟩
           rw [← u8s_set,← u8s_set,← u8s_set,← u8s_set]
           exact blk_set (blk_set (blk_set (blk_set HO.out _ _) _ _) _ _) _ _
          case measure=>have:=hj9.out;simp [intOf];omega
         ·have hO8:=mkA (show wr.heap[wt.heap.size]?=some (.cells (u8s (sumP bs)) 43 (0,0)) from by
           rw [HO.out,show O=sumP bs from extL _ hO.out (fun i hi=>by rw [hOc.out i hi,if_pos (by omega)])])
          have hz:=mkA (show wr.heap[w.heap.size]?=some (.cells (u8s (List.replicate 32 0)) 43 (0,0)) from (HB5.out.block _ (blk_lt HZ0.out)).trans HZ0.out)
          have hsz:=mkA (show (Tryz.prog.info? 43).map (·.size)=some (u8s (sumP bs)).size by rw [u8s_size,sumP,List.length_map,List.length_range];kernel_rfl)
          have hso:=mkA (show (u8s (List.replicate 32 0)).size=(u8s (sumP bs)).size by rw [u8s_size,u8s_size,sumP,List.length_map,List.length_range,List.length_replicate])
          have hbw:=mkA (HGB.out.trans (HB5.out.mono HGB.out.size))
          clear HO hOc HB5 HST HST2 HZ0
          go_wp2_with (first|(with_reducible refine wpList_load_row rfl 43 _ rfl wt.heap.size rfl 43 (u8s (sumP bs)) (0,0) _ hO8.out Tryz.underlying43 rfl hsz.out ?_)|(with_reducible refine wpList_store_row rfl 43 _ _ rfl w.heap.size (u8s (sumP bs)) rfl rfl 43 _ hz.out hsz.out hso.out (u8s_one _) ?_))
          exact bodyPost_ret (results_cell_row rfl _ _ w.heap.size 43 (u8s (sumP bs)) (0,0) _ rfl (setRow_heap _ _ _ _ _ _ hz.out) Tryz.underlying43 rfl hsz.out) rfl ⟨rfl,below_setRow hbw.out (Nat.le_refl _) _⟩
   ·have h56':¬ (56:Int)≤(m:Int):=by omega
    go_wp2_with (with_reducible refine wpList_copy_splice rfl (.tmp 31) (.tmp 32) 23 23 rfl 5 Tryz.underlying23 (by kernel_rfl) _ _ 128 128 m c' rfl rfl wr.heap.size 0 cur 103 HGF.out cs HN.out HPO.out HFIT.out HON.out wr.heap.size wr HBL.out (Nat.le_refl _) ?_)
    intro w2 hg2 hb2
    have HL0:=mkA (show w2.heap[wr.heap.size]?=some (.cells (u8s (bs.drop (64 * q)++List.replicate (128 - m) 0)) 103 (0,0)) by rw [← splice_u8 m HCU.out HCS.out HRL.out (by omega)];exact hg2)
    have HB2:=mkA hb2
    clear hg2 hb2 HGF HN HPO HFIT HON HBL HCS HCU
    have hcm:w2.cell? ⟨wr.heap.size,m,none⟩=some (.int .u8 (nth (bs.drop (64 * q)++List.replicate (128 - m) 0) m)):=(blk_cell HL0.out m).trans (u8s_at _ _ (by rw [HLL.out];omega))
    have hfm:w2.frozen? ⟨wr.heap.size,m,none⟩=false:=blk_frozen HL0.out m
    go_wp2
    clear hcm hfm
    obtain ⟨wo,rfl⟩:∃ wo:World,wo=wr:=⟨_,rfl⟩
    go_loopw [38] (fun i w3=>∃ (k:Nat) (L:List Int),k≤8∧i=.int .i64 k∧Aside0 (L.length=128)∧Aside0 (∀ j,j < 128→nth L j=tailB ((n:Int) * 8) (bs.drop (64 * q)) 64 k j)∧Aside0 (w3.heap[wo.heap.size]?=some (.cells (u8s L) 103 (0,0)))∧Aside0 (Below wo.heap.size wo w3)) (fun i _=>8 - (intOf i).toNat)
    case atStart=>
     refine ⟨0,(bs.drop (64 * q)++List.replicate (128 - m) 0).set m 128,by omega,rfl,⟨by rw [List.length_set];exact HLL.out⟩,⟨fun j hj=>?_⟩,⟨by rw [← u8s_set];exact blk_set HL0.out _ _⟩,⟨HB2.out.setCell (Nat.le_refl _) _⟩⟩
     exact tailB_start _ _ m _ HRL.out (by omega) (by omega) j hj
    case round=>
     clear HL0 HB2
     obtain ⟨k,L,hk,rfl,hL,hLc,HL,HB3⟩:=hrel
     by_cases hk8:k < 8
     ·have hck:wr.cell? ⟨wo.heap.size,63 - k,none⟩=some (.int .u8 (nth L (63 - k))):=(blk_cell HL.out _).trans (u8s_at _ _ (by rw [hL.out];omega))
      have hfk:wr.frozen? ⟨wo.heap.size,63 - k,none⟩=false:=blk_frozen HL.out _
      go_wp2
      have hk9:=mkA hk8
      clear hk8
      go_roundw
      case rel=>
       refine ⟨k+1,L.set (63 - k) ((n:Int) * 8 / 2 ^ (8 * k) % 256),by have:=hk9.out;omega,by go_num,⟨by rw [List.length_set];exact hL.out⟩,⟨fun j hj=>tailB_step _ _ m 64 k HRL.out (by omega) (by omega) hk9.out L hL.out hLc.out j hj⟩,⟨by rw [← u8s_set];exact blk_set HL.out _ _⟩,⟨HB3.out.setCell (Nat.le_refl _) _⟩⟩
      case measure=>have:=hk9.out;simp [intOf];omega
     ·go_wp2
      have hk9:=mkA (show k=8 by omega)
      clear hk8 hk
      obtain ⟨ws,rfl⟩:∃ ws:World,ws=wr:=⟨_,rfl⟩
      have G1:=mkA (show ws.heap[w.heap.size+1]?=some (.cells (u32s (KK++IV)) 101 (0,0)) from (HB3.out.block _ (by have:=s2.out;omega)).trans H1.out)
      have G0:=mkA (show ws.heap[w.heap.size]?=some (.cells (u8s (List.replicate 32 0)) 43 (0,0)) from (HB3.out.block _ (by have:=s2.out;omega)).trans H0.out)
      have G2:=mkA (show ws.heap[w.heap.size+1+1]?=some (.cells (u32s (runS KK IV bs q)) 99 (0,0)) from (HB3.out.block _ (by have:=s2.out;omega)).trans H2.out)
      have GB:=mkA (HB.out.trans (HB3.out.mono (show w.heap.size≤wo.heap.size by have:=s2.out;omega)))
      clear H0 H1 H2 HB HB3
      go_loopw [9] (fun i w3=>∃ (t:Nat),((t=0∧i=.int .i64 0)∨(t=1∧i=.int .i64 64)∨(t=2∧i=.int .i64 128))∧Aside0 (t≤1)∧Aside0 (w3.heap[w.heap.size+1+1]?=some (.cells (u32s (runS KK (runS KK IV bs q) L t)) 99 (0,0)))∧Aside0 (ws.grownBy w3 (some (w.heap.size+1+1)))) (fun i _=>128 - (intOf i).toNat)
      case atStart=>exact ⟨0,.inl ⟨rfl,rfl⟩,⟨by omega⟩,G2,⟨World.grownBy.refl _ _⟩⟩
      case round=>
       obtain ⟨t,ht,ht2,HS,HG⟩:=hrel
       have hLw:=mkA (show wr.heap[wo.heap.size]?=some (.cells (u8s L) 103 (0,0)) from blk_gb HL.out HG.out (by have:=s2.out;simp;omega))
       have hCw:=mkA (show wr.heap[w.heap.size+1]?=some (.cells (u32s (KK++IV)) 101 (0,0)) from blk_gb G1.out HG.out (by simp))
       have hmx:∀ (o c2:Nat),o+64≤128→Calls Tryz.prog 80 #[.pointer (some ⟨w.heap.size+1+1,0,none⟩),.pointer (some ⟨w.heap.size+1,0,none⟩),.slice (some ⟨wo.heap.size,o,none⟩) 64 c2] wr fun e w'=>e=.returned (.tuple #[])∧w'.heap[w.heap.size+1+1]?=some (.cells (u32s (mixF KK (runS KK (runS KK IV bs q) L t) (L.drop o))) 99 (0,0))∧wr.grownBy w' (some (w.heap.size+1+1)):=fun o c2 ho=>
        mix_calls _ _ _ _ 64 c2 (L.drop o) _ KK IV wr (Nat.le_refl _) (by omega) HS.out (runS_len _ _ _ (runS_len _ _ _ rfl _) _) hCw.out rfl rfl (fun j hj=>by rw [blk_cell hLw.out,u8s_at _ _ (by rw [hL.out];omega),nth_drop]) (blk_lt hLw.out) (by have:=s2.out;omega) (by omega)
       have HMX:=mkA hmx
       clear hmx
       rcases ht with ⟨rfl,rfl⟩|⟨rfl,rfl⟩|⟨rfl,rfl⟩
       ·go_wp2_with fail
        refine (HMX.out 0 _ (by omega)).mono ?_
        rintro e w' ⟨rfl,hH2,hG⟩
        have HG3:=mkA hG
        have HH3:=mkA hH2
        clear hH2 hG
        go_wp2
        go_roundw
        case rel=>exact ⟨1,by simp,⟨by omega⟩,HH3,⟨HG.out.trans HG3.out⟩⟩
        case measure=>simp [intOf]
       ·have HST:=mkA (show wr.heap[w.heap.size+1+1]?=some (.cells (u32s (stP bs)) 99 (0,0)) from by
         rw [HS.out,show runS KK (runS KK IV bs q) L 1=stP bs from ?_]
         unfold stP
         have hd:=hq.out
         have hnn:=hn'.out
         have e1:bs.length / 64=q:=by omega
         have e2:bs.length % 64=m:=by omega
         have e3:L=lastL bs:=by
          unfold lastL
          rw [e1,e2,if_neg h56,hnn]
          exact ext128 _ hL.out (fun j hj=>by rw [hLc.out j hj,hk9.out])
         rw [e1,e2,if_neg h56,e3])
        have HGB:=mkA (show Below w.heap.size w wr from GB.out.grown HG.out (by have:=s2.out;have:=GB.out.size;omega) (fun k hk=>by simp at hk;omega))
        have HZ0:=mkA (show wr.heap[w.heap.size]?=some (.cells (u8s (List.replicate 32 0)) 43 (0,0)) from blk_gb G0.out HG.out (by simp;omega))
        clear HS HG G0 G1 G2 GB HL hLw hCw HMX
        have HSZ:=mkA (show (Tryz.prog.info? 99).map (·.size)=some (u32s (stP bs)).size by rw [u32s_size,stP_len];kernel_rfl)
        have HST2:=mkA (fun (o:Obj)=>blk_alloc HST.out o)
        go_wp2_with (with_reducible refine wpList_load_row rfl 99 _ rfl (w.heap.size+1+1) rfl 99 (u32s (stP bs)) (0,0) _ (HST2.out _) Tryz.underlying99 rfl HSZ.out ?_)
        obtain ⟨wt,rfl⟩:∃ wt:World,wt=wr:=⟨_,rfl⟩
        go_loopw [65] (fun i w3=>∃ (j:Nat) (O:List Int),j≤8∧i=.int .i64 j∧Aside0 (O.length=32)∧Aside0 (∀ i,i < 32→nth O i=if i < 4 * j then outB (stP bs) i else 0)∧Aside0 (w3.heap[wt.heap.size]?=some (.cells (u8s O) 43 (0,0)))∧Aside0 (Below wt.heap.size wt w3)) (fun i _=>8 - (intOf i).toNat)
        case atStart=>exact ⟨0,List.replicate 32 0,by omega,rfl,⟨rfl⟩,⟨fun i hi=>by rw [if_neg (by omega)];exact nth_rep 32 i⟩,⟨new_at rfl⟩,⟨(Below.refl _ _).alloc (Nat.le_refl _) _⟩⟩
        case round=>
         obtain ⟨j,O,hj,rfl,hO,hOc,HO,HB5⟩:=hrel
         by_cases hj8:j < 8
         ·have hidx:∀ w,(Instr.index 99 (.agg (u32s (stP bs))) (.int .i64 (j:Int))).run Tryz.prog w=.ok (.int .u32 (nth (stP bs) j)) w:=fun w=>run_idx_agg Tryz.underlying99 (fun w=>by kernel_rfl) (fun w=>by kernel_rfl) _ j hj8 _ (u32s_at _ j (by rw [show (stP bs).length=8 from runS_len _ _ _ (runS_len _ _ _ rfl _) _];exact hj8)) w
          have hco:∀ x,x < 32→wr.cell? ⟨wt.heap.size,x,none⟩=some (.int .u8 (nth O x)):=fun x hx=>(blk_cell HO.out _).trans (u8s_at _ _ (by rw [hO.out];omega))
          have hc0:=hco (4 * j) (by omega)
          have hc1:=hco (4 * j+1) (by omega)
          have hc2:=hco (4 * j+2) (by omega)
          have hc3:=hco (4 * j+3) (by omega)
          have hf0:wr.frozen? ⟨wt.heap.size,4 * j,none⟩=false:=blk_frozen HO.out _
          have hf1:wr.frozen? ⟨wt.heap.size,4 * j+1,none⟩=false:=blk_frozen HO.out _
          have hf2:wr.frozen? ⟨wt.heap.size,4 * j+2,none⟩=false:=blk_frozen HO.out _
          have hf3:wr.frozen? ⟨wt.heap.size,4 * j+3,none⟩=false:=blk_frozen HO.out _
          clear hco
          go_wp2
          have hj9:=mkA hj8
          clear hj8 hc0 hc1 hc2 hc3 hf0 hf1 hf2 hf3 hidx
          go_roundw
          case rel=>
           refine ⟨j+1,(((O.set (4 * j) (nth (stP bs) j / 16777216 % 256)).set (4 * j+1) (nth (stP bs) j / 65536 % 256)).set (4 * j+2) (nth (stP bs) j / 256 % 256)).set (4 * j+3) (nth (stP bs) j % 256),by have:=hj9.out;omega,by go_num,⟨by simp only [List.length_set];exact hO.out⟩,⟨fun i hi=>out_step _ O j hO.out hj9.out hOc.out i hi⟩,⟨?_⟩,⟨(((HB5.out.setCell (Nat.le_refl _) _).setCell (Nat.le_refl _) _).setCell (Nat.le_refl _) _).setCell (Nat.le_refl _) _⟩⟩
           rw [← u8s_set,← u8s_set,← u8s_set,← u8s_set]
           exact blk_set (blk_set (blk_set (blk_set HO.out _ _) _ _) _ _) _ _
          case measure=>have:=hj9.out;simp [intOf];omega
         ·have hO8:=mkA (show wr.heap[wt.heap.size]?=some (.cells (u8s (sumP bs)) 43 (0,0)) from by
           rw [HO.out,show O=sumP bs from extL _ hO.out (fun i hi=>by rw [hOc.out i hi,if_pos (by omega)])])
          have hz:=mkA (show wr.heap[w.heap.size]?=some (.cells (u8s (List.replicate 32 0)) 43 (0,0)) from (HB5.out.block _ (blk_lt HZ0.out)).trans HZ0.out)
          have hsz:=mkA (show (Tryz.prog.info? 43).map (·.size)=some (u8s (sumP bs)).size by rw [u8s_size,sumP,List.length_map,List.length_range];kernel_rfl)
          have hso:=mkA (show (u8s (List.replicate 32 0)).size=(u8s (sumP bs)).size by rw [u8s_size,u8s_size,sumP,List.length_map,List.length_range,List.length_replicate])
          have hbw:=mkA (HGB.out.trans (HB5.out.mono HGB.out.size))
          clear HO hOc HB5 HST HST2 HZ0
          go_wp2_with (first|(with_reducible refine wpList_load_row rfl 43 _ rfl wt.heap.size rfl 43 (u8s (sumP bs)) (0,0) _ hO8.out Tryz.underlying43 rfl hsz.out ?_)|(with_reducible refine wpList_store_row rfl 43 _ _ rfl w.heap.size (u8s (sumP bs)) rfl rfl 43 _ hz.out hsz.out hso.out (u8s_one _) ?_))
          exact bodyPost_ret (results_cell_row rfl _ _ w.heap.size 43 (u8s (sumP bs)) (0,0) _ rfl (setRow_heap _ _ _ _ _ _ hz.out) Tryz.underlying43 rfl hsz.out) rfl ⟨rfl,below_setRow hbw.out (Nat.le_refl _) _⟩
       ·exact absurd ht2.out (by omega)
end Go.Proofs.YtlnmnjbihgaliaaGreat
end
