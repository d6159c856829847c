import Derived.Test.YtlnmnjbihgaliaaGreatGVary
import Derived.Laws.CopyOwn
set_option linter.unusedVariables false
set_option linter.unusedSimpArgs false
section
open Go.RowKit Go.Proofs.YtlnmnjbihgaliaaGreatW.PrintWords
namespace Go.Proofs.YtlnmnjbihgaliaaGreat.Pr
set_option maxRecDepth 100000 in
set_option maxHeartbeats 4000000 in
theorem rule1(B:Nat)(m:ByteArray)(w:World)(h:w.cell? ⟨B,0,none⟩=some (.string m)):
  Calls Tryz.prog 30 #[.func (.func 21) #[] #[.pointer (some ⟨B,0,none⟩)]] w fun e w'=>e=.returned (.bool (!(m.toList == [71,69,84])))∧Drawn0 w w':=by
 go_enter Tryz.func30,Tryz.ntmps30
 go_wp2
 go_ret
 exact ⟨rfl,by repeat (first|exact Drawn0.refl _|apply Drawn0.step)⟩
set_option maxRecDepth 100000 in
set_option maxHeartbeats 4000000 in
theorem rule2(B:Nat)(s:Int)(w:World)(h:w.cell? ⟨B,0,none⟩=some (.int .i64 s)):
  Calls Tryz.prog 30 #[.func (.func 22) #[] #[.pointer (some ⟨B,0,none⟩)]] w fun e w'=>e=.returned (.bool (!(decide (s ≥ 200) && (s != 206) && (s != 304))))∧Drawn0 w w':=by
 cases h1:decide (s ≥ 200) <;> cases h2:(s != 206) <;> cases h3:(s != 304)
 all_goals
  go_enter Tryz.func30,Tryz.ntmps30
  go_wp2
  go_ret
  exact ⟨rfl,by repeat (first|exact Drawn0.refl _|apply Drawn0.step)⟩
set_option maxRecDepth 100000 in
set_option maxHeartbeats 4000000 in
theorem rule3(A B:Nat)(x y z:Bool)(w:World)(h1:w.cell? ⟨A,0,none⟩=some (.bool x))(h2:w.cell? ⟨B,0,none⟩=some (.bool y))(h3:w.cell? ⟨B,2,none⟩=some (.bool z)):
  Calls Tryz.prog 30 #[.func (.func 23) #[] #[.pointer (some ⟨A,0,none⟩),.pointer (some ⟨B,0,none⟩)]] w fun e w'=>e=.returned (.bool (!(!x && !y && !z)))∧Drawn0 w w':=by
 cases x <;> cases y <;> cases z
 all_goals
  go_enter Tryz.func30,Tryz.ntmps30
  go_wp2
  go_ret
  exact ⟨rfl,by repeat (first|exact Drawn0.refl _|apply Drawn0.step)⟩
set_option maxRecDepth 100000 in
set_option maxHeartbeats 4000000 in
theorem rule5(A:Nat)(x:Bool)(w:World)(h1:w.cell? ⟨A,0,none⟩=some (.bool x)):
  Calls Tryz.prog 30 #[.func (.func 25) #[] #[.pointer (some ⟨A,0,none⟩)]] w fun e w'=>e=.returned (.bool (!(!x)))∧Drawn0 w w':=by
 cases x
 all_goals
  go_enter Tryz.func30,Tryz.ntmps30
  go_wp2
  go_ret
  exact ⟨rfl,by repeat (first|exact Drawn0.refl _|apply Drawn0.step)⟩
set_option maxRecDepth 100000 in
set_option maxHeartbeats 4000000 in
theorem rule7(B:Nat)(A:Option Addr)(n c:Nat)(w:World)(h:w.cell? ⟨B,3,none⟩=some (.slice A n c)):
  Calls Tryz.prog 30 #[.func (.func 28) #[] #[.pointer (some ⟨B,0,none⟩)]] w fun e w'=>e=.returned (.bool (!(decide ((n:Int)≤60000))))∧Drawn0 w w':=by
 go_enter Tryz.func30,Tryz.ntmps30
 go_wp2
 go_ret
 exact ⟨rfl,by repeat (first|exact Drawn0.refl _|apply Drawn0.step)⟩
end Go.Proofs.YtlnmnjbihgaliaaGreat.Pr
end
section
open Go.RowKit Go.Proofs.YtlnmnjbihgaliaaGreatW.PrintWords
namespace Go.Proofs.YtlnmnjbihgaliaaGreat.Pr
set_option maxRecDepth 100000 in
set_option maxHeartbeats 4000000 in
theorem rule4(A B:Nat)(x y z:Bool)(s:Int)(w:World)(h1:w.cell? ⟨A,0,none⟩=some (.bool x))(h2:w.cell? ⟨B,3,none⟩=some (.bool y))(h3:w.cell? ⟨B,4,none⟩=some (.bool z))(h4:w.cell? ⟨B,9,none⟩=some (.int .i64 s)):
  Calls Tryz.prog 30 #[.func (.func 24) #[] #[.pointer (some ⟨A,0,none⟩),.pointer (some ⟨B,0,none⟩)]] w fun e w'=>e=.returned (.bool (!(!x || y || z || decide (s ≥ 0))))∧Drawn0 w w':=by
 cases x <;> cases y <;> cases z <;> cases h5:decide (s ≥ 0)
 all_goals
  go_enter Tryz.func30,Tryz.ntmps30
  go_wp2
  go_ret
  exact ⟨rfl,by repeat (first|exact Drawn0.refl _|apply Drawn0.step)⟩
end Go.Proofs.YtlnmnjbihgaliaaGreat.Pr
end
section
open Go.RowKit Go.Proofs.YtlnmnjbihgaliaaGreatW.PrintWords
namespace Go.Proofs.YtlnmnjbihgaliaaGreat.Pr
def heurL:List Int:=[200,203,204,300,301,308,404,405,410,414,501]
set_option maxRecDepth 100000 in
set_option maxHeartbeats 4000000 in
theorem heur_calls(s:Int)(w:World):Calls Tryz.prog 27 #[.int .i64 s] w fun e w'=>e=.returned (.bool (heurL.contains s))∧Below w.heap.size w w':=by
 have HC:=mkA (fun (W:World)=>Tryz.slices_Contains_int W.heap.size 0 11 11 heurL s (W.alloc (.cells (heurL.map (Value.int .i64)).toArray 3)) (by decide) (by decide) (fun j hj=>by
  rw [Nat.zero_add,blk_cell (heap_alloc_new W _) j]
  simp [List.getD_eq_getElem?_getD,List.getElem?_eq_getElem hj]))
 go_enter Tryz.func27,Tryz.ntmps27
 go_wp2_with (first|(go_at_call 53;refine (HC.out _).mono ?_;rintro e w2 ⟨rfl,rfl⟩)|fail)
 go_ret
 refine ⟨?_,below_alloc (Below.refl _ _) _⟩
 show Ending.returned (Value.bool (decide (s∈List.take 11 heurL)))=_
 rw [show List.take 11 heurL=heurL from rfl,List.contains_eq_mem]
end Go.Proofs.YtlnmnjbihgaliaaGreat.Pr
end
section
open Go.RowKit Go.Proofs.YtlnmnjbihgaliaaGreatW.PrintWords
namespace Go.Proofs.YtlnmnjbihgaliaaGreat.Pr
set_option maxRecDepth 100000 in
set_option maxHeartbeats 4000000 in
theorem rule6(B E R:Nat)(x e:Bool)(a s st:Int)(w:World)(h1:w.cell? ⟨B,3,none⟩=some (.bool x))(h2:w.cell? ⟨B,8,none⟩=some (.int .i64 a))(h3:w.cell? ⟨B,9,none⟩=some (.int .i64 s))(h4:w.cell? ⟨E,0,none⟩=some (.bool e))(h5:w.cell? ⟨R,0,none⟩=some (.int .i64 st)):
  Calls Tryz.prog 30 #[.func (.func 26) #[] #[.pointer (some ⟨B,0,none⟩),.pointer (some ⟨E,0,none⟩),.pointer (some ⟨R,0,none⟩)]] w fun e2 w'=>e2=.returned (.bool (!(x || decide (a ≥ 0) || decide (s ≥ 0) || e || heurL.contains st)))∧Below w.heap.size w w':=by
 have HH:=mkA (fun W=>heur_calls st W)
 generalize heurL.contains st=hv at HH ⊢
 cases x <;> cases h6:decide (a ≥ 0) <;> cases h7:decide (s ≥ 0) <;> cases e
 all_goals
  go_enter Tryz.func30,Tryz.ntmps30
  go_wp2_with (first|(go_at_call 27;refine (HH.out _).mono ?_;rintro e w2 ⟨rfl,hb⟩)|go_in)
  go_ret
  exact ⟨rfl,by first|assumption|exact Below.refl _ _⟩
end Go.Proofs.YtlnmnjbihgaliaaGreat.Pr
end
section
open Go.RowKit Go.Proofs.YtlnmnjbihgaliaaGreatW.PrintWords Go.Proofs.YtlnmnjbihgaliaaGreatW.PrintMore Go.Proofs.YtlnmnjbihgaliaaGreatW.PrintLast
namespace Go.Proofs.YtlnmnjbihgaliaaGreat.Pr
theorem blk_in{w:World}{g:Nat}{o:Obj}(h:w.heap[g]?=some o):g < w.heap.size:=by
 rcases Nat.lt_or_ge g w.heap.size with h1|h1
 ·exact h1
 ·rw [Array.getElem?_eq_none h1] at h;cases h
structure MayS(W0 W:World)(x y:Option Nat):Prop where
 bel:Below W0.heap.size W0 W
 hx:∀ n,x=some n→W0.heap.size≤n∧W.heap[n]?=some (.cells zeroC.cells 51 (0,0))
 hy:∀ n,y=some n→W0.heap.size≤n∧W.heap[n]?=some (.cells zeroC.cells 51 (0,0))
 ne:∀ n m,x=some n→y=some m→n≠m
theorem MayS.call{W0 W W':World}{x y:Option Nat}(h:MayS W0 W x y)(hb:Below W.heap.size W W'):MayS W0 W' x y:=
 ⟨h.bel.trans (hb.mono h.bel.size),fun n hn=>⟨(h.hx n hn).1,(hb.block _ (blk_in (h.hx n hn).2)).trans (h.hx n hn).2⟩,fun n hn=>⟨(h.hy n hn).1,(hb.block _ (blk_in (h.hy n hn).2)).trans (h.hy n hn).2⟩,h.ne⟩
theorem MayS.ax{W0 W:World}{y:Option Nat}(h:MayS W0 W none y):∃ W4,W4=W.alloc (.cells zeroC.cells 51 (0,0))∧MayS W0 W4 (some W.heap.size) y:=
 ⟨_,rfl,h.bel.alloc h.bel.size _,fun n hn=>by cases hn;exact ⟨h.bel.size,heap_alloc_new _ _⟩,fun n hn=>⟨(h.hy n hn).1,(Below.heap_alloc _ _ _ (blk_in (h.hy n hn).2)).trans (h.hy n hn).2⟩,
  fun n m hn hm=>by cases hn;have:=blk_in (h.hy m hm).2;omega⟩
theorem MayS.ay{W0 W:World}{x:Option Nat}(h:MayS W0 W x none):∃ W4,W4=W.alloc (.cells zeroC.cells 51 (0,0))∧MayS W0 W4 x (some W.heap.size):=
 ⟨_,rfl,h.bel.alloc h.bel.size _,fun n hn=>⟨(h.hx n hn).1,(Below.heap_alloc _ _ _ (blk_in (h.hx n hn).2)).trans (h.hx n hn).2⟩,fun n hn=>by cases hn;exact ⟨h.bel.size,heap_alloc_new _ _⟩,
  fun n m hn hm=>by cases hm;have:=blk_in (h.hx n hn).2;omega⟩
theorem toK{K:Act→World→Prop}{a:Act}{w w1:World}(h:w1=w)(k:K a w1):K a w:=h ▸ k
theorem MayS.y1{W0 W:World}{x y:Nat}(h:MayS W0 W (some x) (some y))(cs:Array Value):(W.setRow x cs).heap[y]?=some (.cells zeroC.cells 51 (0,0)):=
 (setRow_other _ _ _ _ (h.ne x y rfl rfl).symm).trans (h.hy y rfl).2
structure MayT(W0 W:World)(x y:Nat)(cx cy:Array Value):Prop where
 bel:Below W0.heap.size W0 W
 hx:W.heap[x]?=some (.cells cx 51 (0,0))
 hy:W.heap[y]?=some (.cells cy 51 (0,0))
theorem MayS.done{W0 W:World}{x y:Nat}(h:MayS W0 W (some x) (some y))(cx cy:Array Value):MayT W0 ((W.setRow x cx).setRow y cy) x y cx cy:=
 ⟨below_setRow (below_setRow h.bel (h.hx x rfl).1 _) (h.hy y rfl).1 _,(setRow_other _ _ _ _ (h.ne x y rfl rfl)).trans (setRow_heap _ _ _ _ _ _ (h.hx x rfl).2),setRow_heap _ _ _ _ _ _ (h.y1 cx)⟩
theorem MayT.call{W0 W W':World}{x y:Nat}{cx cy:Array Value}(h:MayT W0 W x y cx cy)(hb:Below W.heap.size W W'):MayT W0 W' x y cx cy:=
 ⟨h.bel.trans (hb.mono h.bel.size),(hb.block _ (blk_in h.hx)).trans h.hx,(hb.block _ (blk_in h.hy)).trans h.hy⟩
theorem store2_{P:Program}{ops:Array Oper}{Q:Exit→Act→World→Prop}{oi:Oper}{a:Act}{w:World}{K:Act→World→Prop}(hw:Region.wanted oi (yielded ops a.tmps)=true)(hd:oi.dst=none)(ty:TypeId)(x y:Operand)(ho:oi.op=.store ty x y)
  (g:Nat) (cells:Array Value) (hx:a.eval x=.pointer (some ⟨g,0,none⟩)) (hy:a.eval y=.agg cells) (t:TypeId) (old:Array Value) (hg:w.heap[g]?=some (.cells old t (0,0))) (hi:(P.info? ty).map (·.size)=some cells.size)
  (hold:old.size=cells.size) (h1:cells.all (·.oneCell')=true) (h:K a (w.setRow g cells)):if Region.wanted oi (yielded ops a.tmps)=true then Oper.wp P oi a w K Q else K (a.put none undef) w:=by
 rw [if_pos hw]
 refine wp_store_row ty x y ho g cells hx hy t old hg hi hold h1 ?_
 rw [hd]
 exact h
theorem MayT.al{W0 W:World}{x y:Nat}{cx cy:Array Value}(h:MayT W0 W x y cx cy)(o:Obj):MayT W0 (W.alloc o) x y cx cy:=
 ⟨h.bel.alloc h.bel.size _,(Below.heap_alloc _ _ _ (blk_in h.hx)).trans h.hx,(Below.heap_alloc _ _ _ (blk_in h.hy)).trans h.hy⟩
theorem blk_call{W W':World}{g:Nat}{o:Obj}(hb:Below W.heap.size W W')(h:W.heap[g]?=some o):W'.heap[g]?=some o:=(hb.block _ (blk_in h)).trans h
theorem blk_al{W:World}{g:Nat}{o o':Obj}(h:W.heap[g]?=some o):(W.alloc o').heap[g]?=some o:=(Below.heap_alloc _ _ _ (blk_in h)).trans h
theorem cell_of{W:World}{g k:Nat}{cs:Array Value}{t:TypeId}{v:Value}(h:W.heap[g]?=some (.cells cs t (0,0)))(hv:cs[k]?=some v):W.cell? ⟨g,k,none⟩=some v:=by
 simp [World.cell?,h,hv]
theorem toW{P:Program}{c:Code}{Q:Exit→Act→World→Prop}{a:Act}{w w1:World}(h:w1=w)(k:Code.wp P c Q a w1):Code.wp P c Q a w:=h ▸ k
def authB:ByteArray:=⟨#[65,117,116,104,111,114,105,122,97,116,105,111,110]⟩
def expB:ByteArray:=⟨#[69,120,112,105,114,101,115]⟩
def mayF(q0:ByteArray)(st:Int)(an bn bp bu bm:Bool)(ba bs:Int)(secret ends all:Bool)(n:Nat):Bool:=
 (q0.toList == [71,69,84]) && (decide (st ≥ 200) && (st != 206) && (st != 304)) && (!an && !bn && !bp) && (!secret || bu || bm || decide (bs ≥ 0)) && !all && (bu || decide (ba ≥ 0) || decide (bs ≥ 0) || ends || heurL.contains st) && decide ((n:Int)≤60000)
def policy_May.f(k:Nat)(a0_0:ByteArray)(a0_1:ByteArray)(l0_2:List S41)(l0_3:List Int)(a1_0:Int)(a1_1:ByteArray)(l1_2:List S41)(l1_3:List Int):Option Bool:=
 (ctrl_Parse.f k l0_2).bind fun a=>(ctrl_Parse.f k l1_2).bind fun b=>(head_Get.f k l0_2 authB).bind fun s=>(head_Get.f k l1_2 expB).bind fun e=>
  (vary_Names.f k a1_0 a1_1 l1_2 l1_3).bind fun v=>some (mayF a0_0 a1_0 a.1 b.1 b.2.2.1 b.2.2.2.1 b.2.2.2.2.1 b.2.2.2.2.2.2.2.2.1 b.2.2.2.2.2.2.2.2.2.1 s.2 e.2 v.2 l1_3.length)
theorem drawn_below0{B:Nat}{w w1:World}(h:Drawn0 w w1):Below B w w1:=by obtain ⟨q,rfl⟩:=h;exact pw_below_drewN (Below.refl _ _) q
def fnV(n:Nat)(args:Array Value):Value:=.func (.func n) #[] args
def ptrV(g:Nat):Value:=.pointer (some ⟨g,0,none⟩)
def sevenV(Q R x y bs be bv:Nat):Array Value:=#[fnV 21 #[ptrV Q],fnV 22 #[ptrV R],fnV 23 #[ptrV x,ptrV y],fnV 24 #[ptrV bs,ptrV y],fnV 25 #[ptrV bv],fnV 26 #[ptrV y,ptrV be,ptrV R],fnV 28 #[ptrV R]]
def sevenB(q0:ByteArray)(st:Int)(an bn bp bu bm:Bool)(ba bs:Int)(secret ends all:Bool)(n:Nat):Array Bool:=
 #[!(q0.toList == [71,69,84]),!(decide (st ≥ 200) && (st != 206) && (st != 304)),!(!an && !bn && !bp),!(!secret || bu || bm || decide (bs ≥ 0)),!(!all),!(bu || decide (ba ≥ 0) || decide (bs ≥ 0) || ends || heurL.contains st),!decide ((n:Int)≤60000)]
theorem sevenB_any(q0:ByteArray)(st:Int)(an bn bp bu bm:Bool)(ba bs:Int)(secret ends all:Bool)(n:Nat):
  (List.range 7).any (fun j=>(sevenB q0 st an bn bp bu bm ba bs secret ends all n).getD j false)=!mayF q0 st an bn bp bu bm ba bs secret ends all n:=by
 have h:List.range 7=[0,1,2,3,4,5,6]:=by decide
 rw [h]
 simp only [List.any_cons,List.any_nil,Bool.or_false,mayF,Bool.not_and]
 simp only [sevenB,Array.getD]
 simp
 ac_rfl
set_option maxRecDepth 100000 in
theorem seven_calls(W:World)(Q R x y bs be bv b:Nat)(ca cb:Ctl)(a0_0:ByteArray)(a0_1 a0_2 a0_3:Value)(st:Int)(a1_1 a1_2:Value)(A:Option Addr)(n c:Nat)(s2 e2 v2:Bool)
  (hQ:W.heap[Q]?=some (.cells #[.string a0_0,a0_1,a0_2,a0_3] 25 (0,0))) (hR:W.heap[R]?=some (.cells #[.int .i64 st,a1_1,a1_2,.slice A n c] 27 (0,0)))
  (hx:W.heap[x]?=some (.cells ca.cells 51 (0,0))) (hy:W.heap[y]?=some (.cells cb.cells 51 (0,0)))
  (hs:W.heap[bs]?=some (.cells #[.bool s2] 4 (0,0))) (he:W.heap[be]?=some (.cells #[.bool e2] 4 (0,0))) (hv:W.heap[bv]?=some (.cells #[.bool v2] 4 (0,0)))
  (hb:W.heap[b]?=some (.cells (sevenV Q R x y bs be bv) 32 (0,0))) :
  Calls Tryz.prog 29 #[.slice (some ⟨b,0,none⟩) 7 7,.func (.func 30) #[] #[]] W fun e w'=>e=.returned (.bool (!mayF a0_0 st ca.noStore cb.noStore cb.priv cb.pub cb.must cb.maxAge cb.sMax s2 e2 v2 n))∧Below W.heap.size W w':=by
 have h:=contains_calls b 7 (fun j=>(sevenV Q R x y bs be bv).getD j undef) (fun j=>(sevenB a0_0 st ca.noStore cb.noStore cb.priv cb.pub cb.must cb.maxAge cb.sMax s2 e2 v2 n).getD j false) W (by omega) (blk_in hb)
  (by
   intro j hj
   refine cell_of hb ?_
   have hsz:(sevenV Q R x y bs be bv).size=7:=rfl
   rw [Array.getElem?_eq_getElem (by omega)]
   simp [Array.getD,hsz,hj])
  (by
   intro j hj W' hB
   have k:∀ {g k:Nat} {cs:Array Value} {t:TypeId} {v:Value},W.heap[g]?=some (.cells cs t (0,0))→cs[k]?=some v→W'.cell? ⟨g,k,none⟩=some v:=fun h1 h2=>cell_of (blk_call hB h1) h2
   match j,hj with
   |0,_=>exact (rule1 Q a0_0 W' (k hQ rfl)).mono fun e w' h=>⟨h.1,hB.trans (drawn_below0 h.2)⟩
   |1,_=>exact (rule2 R st W' (k hR rfl)).mono fun e w' h=>⟨h.1,hB.trans (drawn_below0 h.2)⟩
   |2,_=>exact (rule3 x y ca.noStore cb.noStore cb.priv W' (k hx rfl) (k hy rfl) (k hy rfl)).mono fun e w' h=>⟨h.1,hB.trans (drawn_below0 h.2)⟩
   |3,_=>exact (rule4 bs y s2 cb.pub cb.must cb.sMax W' (k hs rfl) (k hy rfl) (k hy rfl) (k hy rfl)).mono fun e w' h=>⟨h.1,hB.trans (drawn_below0 h.2)⟩
   |4,_=>exact (rule5 bv v2 W' (k hv rfl)).mono fun e w' h=>⟨h.1,hB.trans (drawn_below0 h.2)⟩
   |5,_=>exact (rule6 y be R cb.pub e2 cb.maxAge cb.sMax st W' (k hy rfl) (k hy rfl) (k hy rfl) (k he rfl) (k hR rfl)).mono fun e w' h=>⟨h.1,hB.trans (h.2.mono hB.size)⟩
   |6,_=>exact (rule7 R A n c W' (k hR rfl)).mono fun e w' h=>⟨h.1,hB.trans (drawn_below0 h.2)⟩)
 rw [sevenB_any] at h
 exact h
set_option maxRecDepth 100000 in
set_option maxHeartbeats 8000000 in
theorem policy_May.calls(k:Nat)(a0_0:ByteArray)(a0_1:ByteArray)(A0_2:Option Addr)(c0_2:Nat)(l0_2:List S41)(A0_3:Option Addr)(c0_3:Nat)(l0_3:List Int)(a1_0:Int)(a1_1:ByteArray)(A1_2:Option Addr)(c1_2:Nat)(l1_2:List S41)(A1_3:Option Addr)(c1_3:Nat)(l1_3:List Int)(r:Bool)(w:World)
  (hr0_2:Kd.C k41 w A0_2 l0_2.length l0_2) (hc0_2:l0_2.length≤c0_2) (hr0_3:Kd.C (Kd.int .u8) w A0_3 l0_3.length l0_3) (hc0_3:l0_3.length≤c0_3)
  (hr1_2:Kd.C k41 w A1_2 l1_2.length l1_2) (hc1_2:l1_2.length≤c1_2) (hr1_3:Kd.C (Kd.int .u8) w A1_3 l1_3.length l1_3) (hc1_3:l1_3.length≤c1_3)
  (h:policy_May.f k a0_0 a0_1 l0_2 l0_3 a1_0 a1_1 l1_2 l1_3=some r) :
  Calls Tryz.prog 9 #[.agg #[.string a0_0,.string a0_1,.slice A0_2 l0_2.length c0_2,.slice A0_3 l0_3.length c0_3],.agg #[.int .i64 a1_0,.string a1_1,.slice A1_2 l1_2.length c1_2,.slice A1_3 l1_3.length c1_3]] w fun e w'=>e=.returned (.bool r)∧Below w.heap.size w w':=by
 unfold policy_May.f at h
 obtain ⟨⟨x1,x2,x3,x4,x5,x6,x7,x8,x9,x10,x11,x12⟩,ha,h⟩:=Option.bind_eq_some_iff.mp h
 obtain ⟨⟨y1,y2,y3,y4,y5,y6,y7,y8,y9,y10,y11,y12⟩,hb,h⟩:=Option.bind_eq_some_iff.mp h
 obtain ⟨⟨s1,s2⟩,hs,h⟩:=Option.bind_eq_some_iff.mp h
 obtain ⟨⟨e1,e2⟩,he,h⟩:=Option.bind_eq_some_iff.mp h
 obtain ⟨⟨v1,v2⟩,hv,h⟩:=Option.bind_eq_some_iff.mp h
 have HH:=mkA (Option.some.inj h)
 have HZ:=mkA (fun (C:Ctl)=>show (Tryz.prog.info? 51).map (·.size)=some C.cells.size by kernel_rfl)
 have HPA:=mkA (fun W (hw:Below w.heap.size w W)=>ctrl_Parse.calls k A0_2 c0_2 l0_2 _ _ _ _ _ _ _ _ _ _ _ _ W (Kd.C_below hr0_2 hw) hc0_2 ha)
 have HPB:=mkA (fun W (hw:Below w.heap.size w W)=>ctrl_Parse.calls k A1_2 c1_2 l1_2 _ _ _ _ _ _ _ _ _ _ _ _ W (Kd.C_below hr1_2 hw) hc1_2 hb)
 have HGA:=mkA (fun W (hw:Below w.heap.size w W)=>head_Get.calls k A0_2 c0_2 l0_2 authB _ _ W (Kd.C_below hr0_2 hw) hc0_2 hs)
 have HGB:=mkA (fun W (hw:Below w.heap.size w W)=>head_Get.calls k A1_2 c1_2 l1_2 expB _ _ W (Kd.C_below hr1_2 hw) hc1_2 he)
 have HNM:=mkA (fun W (hw:Below w.heap.size w W)=>vary_Names.calls k a1_0 a1_1 A1_2 c1_2 l1_2 A1_3 c1_3 l1_3 _ _ W (Kd.C_below hr1_2 hw) hc1_2 (Kd.C_below hr1_3 hw) hc1_3 hv)
 clear h ha hb hs he hv hr0_2 hc0_2 hr0_3 hc0_3 hr1_2 hc1_2 hr1_3 hc1_3
 go_enter Tryz.func9,Tryz.ntmps9
 go_upto_region 1 with (fail)
 have hq0:=heap_alloc_new w (.cells #[.string a0_0,.string a0_1,.slice A0_2 l0_2.length c0_2,.slice A0_3 l0_3.length c0_3] 25)
 have hq1:=(Below.heap_alloc (w.alloc (.cells #[.string a0_0,.string a0_1,.slice A0_2 l0_2.length c0_2,.slice A0_3 l0_3.length c0_3] 25)) (.cells #[.int .i64 a1_0,.string a1_1,.slice A1_2 l1_2.length c1_2,.slice A1_3 l1_3.length c1_3] 27) w.heap.size (by simp)).trans hq0
 have hr1:=heap_alloc_new (w.alloc (.cells #[.string a0_0,.string a0_1,.slice A0_2 l0_2.length c0_2,.slice A0_3 l0_3.length c0_3] 25)) (.cells #[.int .i64 a1_0,.string a1_1,.slice A1_2 l1_2.length c1_2,.slice A1_3 l1_3.length c1_3] 27)
 rw [show (w.alloc (.cells #[.string a0_0,.string a0_1,.slice A0_2 l0_2.length c0_2,.slice A0_3 l0_3.length c0_3] 25)).heap.size=w.heap.size+1 from by simp] at hr1
 have hb0:Below w.heap.size w ((w.alloc (.cells #[.string a0_0,.string a0_1,.slice A0_2 l0_2.length c0_2,.slice A0_3 l0_3.length c0_3] 25)).alloc (.cells #[.int .i64 a1_0,.string a1_1,.slice A1_2 l1_2.length c1_2,.slice A1_3 l1_3.length c1_3] 27)):=((Below.refl _ _).alloc (Nat.le_refl _) _).alloc (by simp) _
 generalize ((w.alloc (.cells #[.string a0_0,.string a0_1,.slice A0_2 l0_2.length c0_2,.slice A0_3 l0_3.length c0_3] 25)).alloc (.cells #[.int .i64 a1_0,.string a1_1,.slice A1_2 l1_2.length c1_2,.slice A1_3 l1_3.length c1_3] 27))=W0 at *
 have HB0:=mkA hb0
 have HQ:=mkA hq1
 have HR:=mkA hr1
 clear hq0 hq1 hr1 hb0
 have HW:=mkA (fun W (h:Below W0.heap.size W0 W)=>show Below w.heap.size w W from HB0.out.trans (h.mono HB0.out.size))
 have HQ2:=mkA (fun W (h:Below W0.heap.size W0 W)=>show W.cell? ⟨w.heap.size,2,none⟩=some (.slice A0_2 l0_2.length c0_2) from (h.cell (p:=⟨w.heap.size,2,none⟩) (blk_in HQ.out)).trans (by simp [World.cell?,HQ.out]))
 have HR2:=mkA (fun W (h:Below W0.heap.size W0 W)=>show W.cell? ⟨w.heap.size+1,2,none⟩=some (.slice A1_2 l1_2.length c1_2) from (h.cell (p:=⟨w.heap.size+1,2,none⟩) (blk_in HR.out)).trans (by simp [World.cell?,HR.out]))
 have HM0:=mkA (show MayS W0 W0.drew none none from { bel:=pw_below_drewN (Below.refl _ _) 1,hx:=fun n hn=>(by cases hn),hy:=fun n hn=>(by cases hn),ne:=fun n m hn=>(by cases hn) })
 have HM:=HM0
 obtain ⟨ca,hca⟩:∃ ca:Ctl,ca=⟨x1,x2,x3,x4,x5,x6,x7,x8,x9,x10,x11,x12⟩:=⟨_,rfl⟩
 obtain ⟨cb,hcb⟩:∃ cb:Ctl,cb=⟨y1,y2,y3,y4,y5,y6,y7,y8,y9,y10,y11,y12⟩:=⟨_,rfl⟩
 have HPA2:=mkA (fun W (h:Below W0.heap.size W0 W)=>show Calls Tryz.prog 18 #[.slice A0_2 l0_2.length c0_2] W fun e w'=>e=.returned (.agg ca.cells)∧Below W.heap.size W w' by rw [hca];exact HPA.out W (HW.out W h))
 have HPB2:=mkA (fun W (h:Below W0.heap.size W0 W)=>show Calls Tryz.prog 18 #[.slice A1_2 l1_2.length c1_2] W fun e w'=>e=.returned (.agg cb.cells)∧Below W.heap.size W w' by rw [hcb];exact HPB.out W (HW.out W h))
 have HCA:=mkA hca
 have HCB:=mkA hcb
 clear hca hcb
 refine start_ (n:=10) (S:=fun w'=>w'.cell? ⟨w.heap.size,2,none⟩=some (.slice A0_2 l0_2.length c0_2)∧w'.cell? ⟨w.heap.size+1,2,none⟩=some (.slice A1_2 l1_2.length c1_2)) (ds:=[8,9]) #[qf,qf,qf,qf,qf,qf,qf,qf,qf,qf] (by kernel_rfl) rfl rfl ⟨(HQ2.out _ (HM0.out.bel)),(HR2.out _ (HM0.out.bel))⟩ (fun hHeld=>?_)
 generalize W0.drew=w0d at HM hHeld ⊢
 clear HM0
 refine pure_ (i:=0) (N:=some 14) (v:=?_) (a':=?_) #[qt,qf,qf,qf,qf,qf,qf,qf,qf,qf] rfl rfl (by kernel_rfl) (fun _ _ _ h=>h) (Or.inl ⟨by rfl,?_⟩) ?_ ?_
 rotate_left
 ·intro w'
  go_simp
  with_reducible rfl
 rotate_left
 ·simp only [Act.put,sAx,sBx,sCx,i64_w,i32_w]
  rfl
 refine pure_ (i:=3) (N:=some 17) (v:=?_) (a':=?_) #[qt,qf,qf,qt,qf,qf,qf,qf,qf,qf] rfl rfl (by kernel_rfl) (fun _ _ _ h=>h) (Or.inl ⟨by rfl,?_⟩) ?_ ?_
 rotate_left
 ·intro w'
  go_simp
  with_reducible rfl
 rotate_left
 ·simp only [Act.put,sAx,sBx,sCx,i64_w,i32_w]
  rfl
 refine take_ (i:=1) (N:=some 15) (v:=?_) (a':=?_) #[qt,qt,qf,qt,qf,qf,qf,qf,qf,qf] rfl rfl (by kernel_rfl) (fun _ _ _ h=>h) (Or.inl ⟨by rfl,?_⟩) hHeld ?_ ?_
 rotate_left
 ·rintro w' ⟨s0,s1⟩
  go_simp
  with_reducible rfl
 rotate_left
 ·simp only [Act.put,sAx,sBx,sCx,i64_w,i32_w]
  rfl
 refine take_ (i:=4) (N:=some 18) (v:=?_) (a':=?_) #[qt,qt,qf,qt,qt,qf,qf,qf,qf,qf] rfl rfl (by kernel_rfl) (fun _ _ _ h=>h) (Or.inl ⟨by rfl,?_⟩) hHeld ?_ ?_
 rotate_left
 ·rintro w' ⟨s0,s1⟩
  go_simp
  with_reducible rfl
 rotate_left
 ·simp only [Act.put,sAx,sBx,sCx,i64_w,i32_w]
  rfl
 refine join_ (σ:=Nat × Nat) 2 #[qt,qt,qt,qt,qt,qt,qt,qt,qf,qf] (fun s=>[(16,.agg ca.cells),(19,.agg cb.cells),(5,.pointer (some ⟨s.1,0,none⟩)),(6,.pointer (some ⟨s.2,0,none⟩))]) (fun s w'=>MayS W0 w' (some s.1) (some s.2)) ?_ ?_
 rotate_left
 ·intro hCont
  refine three_ (i:=2) (j:=6) (k:=7) (Ni:=some 16) (Nj:=some 5) (Nk:=some 6) #[qt,qt,qt,qt,qt,qf,qf,qf,qf,qf] #[qt,qt,qf,qt,qt,qf,qt,qf,qf,qf] #[qt,qt,qf,qt,qt,qf,qf,qt,qf,qf] rfl rfl rfl rfl rfl rfl (by kernel_rfl) (by decide) (by decide) (by decide) (fun K hK=>?_) (fun K hK=>?_) (fun K hK=>?_)
  ·skip
   refine goes_ Tryz.func18 (by kernel_rfl) rfl #[.slice A0_2 l0_2.length c0_2] (by rfl) rfl rfl (by simp only [List.map_toArray,List.map_cons,List.map_nil];rfl) ?_
   with_reducible refine (HPA2.out _ HM.out.bel).mono ?_
   rintro e w3 ⟨rfl,hb⟩
   refine ⟨_,rfl,?_⟩
   have HM:=mkA (HM.out.call hb)
   clear hb
   refine hK.out _ _ ⟨(HQ2.out _ HM.out.bel),(HR2.out _ HM.out.bel)⟩ (fun hHeld=>?_)
   clear hK K
   refine norm_ (a':=?_) ?_ ?_
   rotate_left
   ·show Act.put _ (some 16) _=_
    simp only [Act.put,sAx,sBx,sCx,i64_w,i32_w]
    rfl
   refine three_ (i:=5) (j:=6) (k:=7) (Ni:=some 19) (Nj:=some 5) (Nk:=some 6) #[qt,qt,qt,qt,qt,qt,qf,qf,qf,qf] #[qt,qt,qt,qt,qt,qf,qt,qf,qf,qf] #[qt,qt,qt,qt,qt,qf,qf,qt,qf,qf] rfl rfl rfl rfl rfl rfl (by kernel_rfl) (by decide) (by decide) (by decide) (fun K hK=>?_) (fun K hK=>?_) (fun K hK=>?_)
   ·skip
    refine goes_ Tryz.func18 (by kernel_rfl) rfl #[.slice A1_2 l1_2.length c1_2] (by rfl) rfl rfl (by simp only [List.map_toArray,List.map_cons,List.map_nil];rfl) ?_
    with_reducible refine (HPB2.out _ HM.out.bel).mono ?_
    rintro e w3 ⟨rfl,hb⟩
    refine ⟨_,rfl,?_⟩
    have HM:=mkA (HM.out.call hb)
    clear hb
    refine hK.out _ _ ⟨(HQ2.out _ HM.out.bel),(HR2.out _ HM.out.bel)⟩ (fun hHeld=>?_)
    clear hK K
    refine norm_ (a':=?_) ?_ ?_
    rotate_left
    ·show Act.put _ (some 19) _=_
     simp only [Act.put,sAx,sBx,sCx,i64_w,i32_w]
     rfl
    refine two_ (i:=6) (j:=7) (Ni:=some 5) (Nj:=some 6) #[qt,qt,qt,qt,qt,qt,qt,qf,qf,qf] #[qt,qt,qt,qt,qt,qt,qf,qt,qf,qf] rfl rfl rfl rfl (by kernel_rfl) (by decide) (by decide) (fun K hK=>?_) (fun K hK=>?_)
    ·skip
     refine value_ (w1:=?_) (v:=?_) (by rfl) rfl ?_ ?_
     rotate_left 2
     ·go_simp
      constructor
      ·rfl
      ·rfl
     obtain ⟨w4,hw4,hm⟩:=HM.out.ax
     refine toK hw4 ?_
     have HM:=mkA hm
     clear hw4 hm
     refine hK.out _ _ ⟨(HQ2.out _ HM.out.bel),(HR2.out _ HM.out.bel)⟩ (fun hHeld=>?_)
     clear hK K
     refine norm_ (a':=?_) ?_ ?_
     rotate_left
     ·show Act.put _ (some 5) _=_
      simp only [Act.put,sAx,sBx,sCx,i64_w,i32_w]
      rfl
     refine one_ (i:=7) (N:=some 6) #[qt,qt,qt,qt,qt,qt,qt,qt,qf,qf] rfl rfl (by kernel_rfl) (by decide) (fun K hK=>?_)
     refine value_ (w1:=?_) (v:=?_) (by rfl) rfl ?_ ?_
     rotate_left 2
     ·go_simp
      constructor
      ·rfl
      ·rfl
     obtain ⟨w4,hw4,hm⟩:=HM.out.ay
     refine toK hw4 ?_
     have HM:=mkA hm
     clear hw4 hm
     refine hK.out _ _ ⟨(HQ2.out _ HM.out.bel),(HR2.out _ HM.out.bel)⟩ (fun hHeld=>?_)
     clear hK K
     refine norm_ (a':=?_) ?_ ?_
     rotate_left
     ·show Act.put _ (some 6) _=_
      simp only [Act.put,sAx,sBx,sCx,i64_w,i32_w]
      rfl
     exact norm_ (by first|(simp only [putAll,Act.put,sAx,sBx,sCx];done)|(simp only [putAll,Act.put,sAx,sBx,sCx];rfl)) (hCont (_,_) _ HM.out)
    ·skip
     refine value_ (w1:=?_) (v:=?_) (by rfl) rfl ?_ ?_
     rotate_left 2
     ·go_simp
      constructor
      ·rfl
      ·rfl
     obtain ⟨w4,hw4,hm⟩:=HM.out.ay
     refine toK hw4 ?_
     have HM:=mkA hm
     clear hw4 hm
     refine hK.out _ _ ⟨(HQ2.out _ HM.out.bel),(HR2.out _ HM.out.bel)⟩ (fun hHeld=>?_)
     clear hK K
     refine norm_ (a':=?_) ?_ ?_
     rotate_left
     ·show Act.put _ (some 6) _=_
      simp only [Act.put,sAx,sBx,sCx,i64_w,i32_w]
      rfl
     refine one_ (i:=6) (N:=some 5) #[qt,qt,qt,qt,qt,qt,qt,qt,qf,qf] rfl rfl (by kernel_rfl) (by decide) (fun K hK=>?_)
     refine value_ (w1:=?_) (v:=?_) (by rfl) rfl ?_ ?_
     rotate_left 2
     ·go_simp
      constructor
      ·rfl
      ·rfl
     obtain ⟨w4,hw4,hm⟩:=HM.out.ax
     refine toK hw4 ?_
     have HM:=mkA hm
     clear hw4 hm
     refine hK.out _ _ ⟨(HQ2.out _ HM.out.bel),(HR2.out _ HM.out.bel)⟩ (fun hHeld=>?_)
     clear hK K
     refine norm_ (a':=?_) ?_ ?_
     rotate_left
     ·show Act.put _ (some 5) _=_
      simp only [Act.put,sAx,sBx,sCx,i64_w,i32_w]
      rfl
     exact norm_ (by first|(simp only [putAll,Act.put,sAx,sBx,sCx];done)|(simp only [putAll,Act.put,sAx,sBx,sCx];rfl)) (hCont (_,_) _ HM.out)
   ·skip
    refine value_ (w1:=?_) (v:=?_) (by rfl) rfl ?_ ?_
    rotate_left 2
    ·go_simp
     constructor
     ·rfl
     ·rfl
    obtain ⟨w4,hw4,hm⟩:=HM.out.ax
    refine toK hw4 ?_
    have HM:=mkA hm
    clear hw4 hm
    refine hK.out _ _ ⟨(HQ2.out _ HM.out.bel),(HR2.out _ HM.out.bel)⟩ (fun hHeld=>?_)
    clear hK K
    refine norm_ (a':=?_) ?_ ?_
    rotate_left
    ·show Act.put _ (some 5) _=_
     simp only [Act.put,sAx,sBx,sCx,i64_w,i32_w]
     rfl
    refine two_ (i:=5) (j:=7) (Ni:=some 19) (Nj:=some 6) #[qt,qt,qt,qt,qt,qt,qt,qf,qf,qf] #[qt,qt,qt,qt,qt,qf,qt,qt,qf,qf] rfl rfl rfl rfl (by kernel_rfl) (by decide) (by decide) (fun K hK=>?_) (fun K hK=>?_)
    ·skip
     refine goes_ Tryz.func18 (by kernel_rfl) rfl #[.slice A1_2 l1_2.length c1_2] (by rfl) rfl rfl (by simp only [List.map_toArray,List.map_cons,List.map_nil];rfl) ?_
     with_reducible refine (HPB2.out _ HM.out.bel).mono ?_
     rintro e w3 ⟨rfl,hb⟩
     refine ⟨_,rfl,?_⟩
     have HM:=mkA (HM.out.call hb)
     clear hb
     refine hK.out _ _ ⟨(HQ2.out _ HM.out.bel),(HR2.out _ HM.out.bel)⟩ (fun hHeld=>?_)
     clear hK K
     refine norm_ (a':=?_) ?_ ?_
     rotate_left
     ·show Act.put _ (some 19) _=_
      simp only [Act.put,sAx,sBx,sCx,i64_w,i32_w]
      rfl
     refine one_ (i:=7) (N:=some 6) #[qt,qt,qt,qt,qt,qt,qt,qt,qf,qf] rfl rfl (by kernel_rfl) (by decide) (fun K hK=>?_)
     refine value_ (w1:=?_) (v:=?_) (by rfl) rfl ?_ ?_
     rotate_left 2
     ·go_simp
      constructor
      ·rfl
      ·rfl
     obtain ⟨w4,hw4,hm⟩:=HM.out.ay
     refine toK hw4 ?_
     have HM:=mkA hm
     clear hw4 hm
     refine hK.out _ _ ⟨(HQ2.out _ HM.out.bel),(HR2.out _ HM.out.bel)⟩ (fun hHeld=>?_)
     clear hK K
     refine norm_ (a':=?_) ?_ ?_
     rotate_left
     ·show Act.put _ (some 6) _=_
      simp only [Act.put,sAx,sBx,sCx,i64_w,i32_w]
      rfl
     exact norm_ (by first|(simp only [putAll,Act.put,sAx,sBx,sCx];done)|(simp only [putAll,Act.put,sAx,sBx,sCx];rfl)) (hCont (_,_) _ HM.out)
    ·skip
     refine value_ (w1:=?_) (v:=?_) (by rfl) rfl ?_ ?_
     rotate_left 2
     ·go_simp
      constructor
      ·rfl
      ·rfl
     obtain ⟨w4,hw4,hm⟩:=HM.out.ay
     refine toK hw4 ?_
     have HM:=mkA hm
     clear hw4 hm
     refine hK.out _ _ ⟨(HQ2.out _ HM.out.bel),(HR2.out _ HM.out.bel)⟩ (fun hHeld=>?_)
     clear hK K
     refine norm_ (a':=?_) ?_ ?_
     rotate_left
     ·show Act.put _ (some 6) _=_
      simp only [Act.put,sAx,sBx,sCx,i64_w,i32_w]
      rfl
     refine one_ (i:=5) (N:=some 19) #[qt,qt,qt,qt,qt,qt,qt,qt,qf,qf] rfl rfl (by kernel_rfl) (by decide) (fun K hK=>?_)
     refine goes_ Tryz.func18 (by kernel_rfl) rfl #[.slice A1_2 l1_2.length c1_2] (by rfl) rfl rfl (by simp only [List.map_toArray,List.map_cons,List.map_nil];rfl) ?_
     with_reducible refine (HPB2.out _ HM.out.bel).mono ?_
     rintro e w3 ⟨rfl,hb⟩
     refine ⟨_,rfl,?_⟩
     have HM:=mkA (HM.out.call hb)
     clear hb
     refine hK.out _ _ ⟨(HQ2.out _ HM.out.bel),(HR2.out _ HM.out.bel)⟩ (fun hHeld=>?_)
     clear hK K
     refine norm_ (a':=?_) ?_ ?_
     rotate_left
     ·show Act.put _ (some 19) _=_
      simp only [Act.put,sAx,sBx,sCx,i64_w,i32_w]
      rfl
     exact norm_ (by first|(simp only [putAll,Act.put,sAx,sBx,sCx];done)|(simp only [putAll,Act.put,sAx,sBx,sCx];rfl)) (hCont (_,_) _ HM.out)
   ·skip
    refine value_ (w1:=?_) (v:=?_) (by rfl) rfl ?_ ?_
    rotate_left 2
    ·go_simp
     constructor
     ·rfl
     ·rfl
    obtain ⟨w4,hw4,hm⟩:=HM.out.ay
    refine toK hw4 ?_
    have HM:=mkA hm
    clear hw4 hm
    refine hK.out _ _ ⟨(HQ2.out _ HM.out.bel),(HR2.out _ HM.out.bel)⟩ (fun hHeld=>?_)
    clear hK K
    refine norm_ (a':=?_) ?_ ?_
    rotate_left
    ·show Act.put _ (some 6) _=_
     simp only [Act.put,sAx,sBx,sCx,i64_w,i32_w]
     rfl
    refine two_ (i:=5) (j:=6) (Ni:=some 19) (Nj:=some 5) #[qt,qt,qt,qt,qt,qt,qf,qt,qf,qf] #[qt,qt,qt,qt,qt,qf,qt,qt,qf,qf] rfl rfl rfl rfl (by kernel_rfl) (by decide) (by decide) (fun K hK=>?_) (fun K hK=>?_)
    ·skip
     refine goes_ Tryz.func18 (by kernel_rfl) rfl #[.slice A1_2 l1_2.length c1_2] (by rfl) rfl rfl (by simp only [List.map_toArray,List.map_cons,List.map_nil];rfl) ?_
     with_reducible refine (HPB2.out _ HM.out.bel).mono ?_
     rintro e w3 ⟨rfl,hb⟩
     refine ⟨_,rfl,?_⟩
     have HM:=mkA (HM.out.call hb)
     clear hb
     refine hK.out _ _ ⟨(HQ2.out _ HM.out.bel),(HR2.out _ HM.out.bel)⟩ (fun hHeld=>?_)
     clear hK K
     refine norm_ (a':=?_) ?_ ?_
     rotate_left
     ·show Act.put _ (some 19) _=_
      simp only [Act.put,sAx,sBx,sCx,i64_w,i32_w]
      rfl
     refine one_ (i:=6) (N:=some 5) #[qt,qt,qt,qt,qt,qt,qt,qt,qf,qf] rfl rfl (by kernel_rfl) (by decide) (fun K hK=>?_)
     refine value_ (w1:=?_) (v:=?_) (by rfl) rfl ?_ ?_
     rotate_left 2
     ·go_simp
      constructor
      ·rfl
      ·rfl
     obtain ⟨w4,hw4,hm⟩:=HM.out.ax
     refine toK hw4 ?_
     have HM:=mkA hm
     clear hw4 hm
     refine hK.out _ _ ⟨(HQ2.out _ HM.out.bel),(HR2.out _ HM.out.bel)⟩ (fun hHeld=>?_)
     clear hK K
     refine norm_ (a':=?_) ?_ ?_
     rotate_left
     ·show Act.put _ (some 5) _=_
      simp only [Act.put,sAx,sBx,sCx,i64_w,i32_w]
      rfl
     exact norm_ (by first|(simp only [putAll,Act.put,sAx,sBx,sCx];done)|(simp only [putAll,Act.put,sAx,sBx,sCx];rfl)) (hCont (_,_) _ HM.out)
    ·skip
     refine value_ (w1:=?_) (v:=?_) (by rfl) rfl ?_ ?_
     rotate_left 2
     ·go_simp
      constructor
      ·rfl
      ·rfl
     obtain ⟨w4,hw4,hm⟩:=HM.out.ax
     refine toK hw4 ?_
     have HM:=mkA hm
     clear hw4 hm
     refine hK.out _ _ ⟨(HQ2.out _ HM.out.bel),(HR2.out _ HM.out.bel)⟩ (fun hHeld=>?_)
     clear hK K
     refine norm_ (a':=?_) ?_ ?_
     rotate_left
     ·show Act.put _ (some 5) _=_
      simp only [Act.put,sAx,sBx,sCx,i64_w,i32_w]
      rfl
     refine one_ (i:=5) (N:=some 19) #[qt,qt,qt,qt,qt,qt,qt,qt,qf,qf] rfl rfl (by kernel_rfl) (by decide) (fun K hK=>?_)
     refine goes_ Tryz.func18 (by kernel_rfl) rfl #[.slice A1_2 l1_2.length c1_2] (by rfl) rfl rfl (by simp only [List.map_toArray,List.map_cons,List.map_nil];rfl) ?_
     with_reducible refine (HPB2.out _ HM.out.bel).mono ?_
     rintro e w3 ⟨rfl,hb⟩
     refine ⟨_,rfl,?_⟩
     have HM:=mkA (HM.out.call hb)
     clear hb
     refine hK.out _ _ ⟨(HQ2.out _ HM.out.bel),(HR2.out _ HM.out.bel)⟩ (fun hHeld=>?_)
     clear hK K
     refine norm_ (a':=?_) ?_ ?_
     rotate_left
     ·show Act.put _ (some 19) _=_
      simp only [Act.put,sAx,sBx,sCx,i64_w,i32_w]
      rfl
     exact norm_ (by first|(simp only [putAll,Act.put,sAx,sBx,sCx];done)|(simp only [putAll,Act.put,sAx,sBx,sCx];rfl)) (hCont (_,_) _ HM.out)
  ·skip
   refine value_ (w1:=?_) (v:=?_) (by rfl) rfl ?_ ?_
   rotate_left 2
   ·go_simp
    constructor
    ·rfl
    ·rfl
   obtain ⟨w4,hw4,hm⟩:=HM.out.ax
   refine toK hw4 ?_
   have HM:=mkA hm
   clear hw4 hm
   refine hK.out _ _ ⟨(HQ2.out _ HM.out.bel),(HR2.out _ HM.out.bel)⟩ (fun hHeld=>?_)
   clear hK K
   refine norm_ (a':=?_) ?_ ?_
   rotate_left
   ·show Act.put _ (some 5) _=_
    simp only [Act.put,sAx,sBx,sCx,i64_w,i32_w]
    rfl
   refine two_ (i:=2) (j:=7) (Ni:=some 16) (Nj:=some 6) #[qt,qt,qt,qt,qt,qf,qt,qf,qf,qf] #[qt,qt,qf,qt,qt,qf,qt,qt,qf,qf] rfl rfl rfl rfl (by kernel_rfl) (by decide) (by decide) (fun K hK=>?_) (fun K hK=>?_)
   ·skip
    refine goes_ Tryz.func18 (by kernel_rfl) rfl #[.slice A0_2 l0_2.length c0_2] (by rfl) rfl rfl (by simp only [List.map_toArray,List.map_cons,List.map_nil];rfl) ?_
    with_reducible refine (HPA2.out _ HM.out.bel).mono ?_
    rintro e w3 ⟨rfl,hb⟩
    refine ⟨_,rfl,?_⟩
    have HM:=mkA (HM.out.call hb)
    clear hb
    refine hK.out _ _ ⟨(HQ2.out _ HM.out.bel),(HR2.out _ HM.out.bel)⟩ (fun hHeld=>?_)
    clear hK K
    refine norm_ (a':=?_) ?_ ?_
    rotate_left
    ·show Act.put _ (some 16) _=_
     simp only [Act.put,sAx,sBx,sCx,i64_w,i32_w]
     rfl
    refine two_ (i:=5) (j:=7) (Ni:=some 19) (Nj:=some 6) #[qt,qt,qt,qt,qt,qt,qt,qf,qf,qf] #[qt,qt,qt,qt,qt,qf,qt,qt,qf,qf] rfl rfl rfl rfl (by kernel_rfl) (by decide) (by decide) (fun K hK=>?_) (fun K hK=>?_)
    ·skip
     refine goes_ Tryz.func18 (by kernel_rfl) rfl #[.slice A1_2 l1_2.length c1_2] (by rfl) rfl rfl (by simp only [List.map_toArray,List.map_cons,List.map_nil];rfl) ?_
     with_reducible refine (HPB2.out _ HM.out.bel).mono ?_
     rintro e w3 ⟨rfl,hb⟩
     refine ⟨_,rfl,?_⟩
     have HM:=mkA (HM.out.call hb)
     clear hb
     refine hK.out _ _ ⟨(HQ2.out _ HM.out.bel),(HR2.out _ HM.out.bel)⟩ (fun hHeld=>?_)
     clear hK K
     refine norm_ (a':=?_) ?_ ?_
     rotate_left
     ·show Act.put _ (some 19) _=_
      simp only [Act.put,sAx,sBx,sCx,i64_w,i32_w]
      rfl
     refine one_ (i:=7) (N:=some 6) #[qt,qt,qt,qt,qt,qt,qt,qt,qf,qf] rfl rfl (by kernel_rfl) (by decide) (fun K hK=>?_)
     refine value_ (w1:=?_) (v:=?_) (by rfl) rfl ?_ ?_
     rotate_left 2
     ·go_simp
      constructor
      ·rfl
      ·rfl
     obtain ⟨w4,hw4,hm⟩:=HM.out.ay
     refine toK hw4 ?_
     have HM:=mkA hm
     clear hw4 hm
     refine hK.out _ _ ⟨(HQ2.out _ HM.out.bel),(HR2.out _ HM.out.bel)⟩ (fun hHeld=>?_)
     clear hK K
     refine norm_ (a':=?_) ?_ ?_
     rotate_left
     ·show Act.put _ (some 6) _=_
      simp only [Act.put,sAx,sBx,sCx,i64_w,i32_w]
      rfl
     exact norm_ (by first|(simp only [putAll,Act.put,sAx,sBx,sCx];done)|(simp only [putAll,Act.put,sAx,sBx,sCx];rfl)) (hCont (_,_) _ HM.out)
    ·skip
     refine value_ (w1:=?_) (v:=?_) (by rfl) rfl ?_ ?_
     rotate_left 2
     ·go_simp
      constructor
      ·rfl
      ·rfl
     obtain ⟨w4,hw4,hm⟩:=HM.out.ay
     refine toK hw4 ?_
     have HM:=mkA hm
     clear hw4 hm
     refine hK.out _ _ ⟨(HQ2.out _ HM.out.bel),(HR2.out _ HM.out.bel)⟩ (fun hHeld=>?_)
     clear hK K
     refine norm_ (a':=?_) ?_ ?_
     rotate_left
     ·show Act.put _ (some 6) _=_
      simp only [Act.put,sAx,sBx,sCx,i64_w,i32_w]
      rfl
     refine one_ (i:=5) (N:=some 19) #[qt,qt,qt,qt,qt,qt,qt,qt,qf,qf] rfl rfl (by kernel_rfl) (by decide) (fun K hK=>?_)
     refine goes_ Tryz.func18 (by kernel_rfl) rfl #[.slice A1_2 l1_2.length c1_2] (by rfl) rfl rfl (by simp only [List.map_toArray,List.map_cons,List.map_nil];rfl) ?_
     with_reducible refine (HPB2.out _ HM.out.bel).mono ?_
     rintro e w3 ⟨rfl,hb⟩
     refine ⟨_,rfl,?_⟩
     have HM:=mkA (HM.out.call hb)
     clear hb
     refine hK.out _ _ ⟨(HQ2.out _ HM.out.bel),(HR2.out _ HM.out.bel)⟩ (fun hHeld=>?_)
     clear hK K
     refine norm_ (a':=?_) ?_ ?_
     rotate_left
     ·show Act.put _ (some 19) _=_
      simp only [Act.put,sAx,sBx,sCx,i64_w,i32_w]
      rfl
     exact norm_ (by first|(simp only [putAll,Act.put,sAx,sBx,sCx];done)|(simp only [putAll,Act.put,sAx,sBx,sCx];rfl)) (hCont (_,_) _ HM.out)
   ·skip
    refine value_ (w1:=?_) (v:=?_) (by rfl) rfl ?_ ?_
    rotate_left 2
    ·go_simp
     constructor
     ·rfl
     ·rfl
    obtain ⟨w4,hw4,hm⟩:=HM.out.ay
    refine toK hw4 ?_
    have HM:=mkA hm
    clear hw4 hm
    refine hK.out _ _ ⟨(HQ2.out _ HM.out.bel),(HR2.out _ HM.out.bel)⟩ (fun hHeld=>?_)
    clear hK K
    refine norm_ (a':=?_) ?_ ?_
    rotate_left
    ·show Act.put _ (some 6) _=_
     simp only [Act.put,sAx,sBx,sCx,i64_w,i32_w]
     rfl
    refine one_ (i:=2) (N:=some 16) #[qt,qt,qt,qt,qt,qf,qt,qt,qf,qf] rfl rfl (by kernel_rfl) (by decide) (fun K hK=>?_)
    refine goes_ Tryz.func18 (by kernel_rfl) rfl #[.slice A0_2 l0_2.length c0_2] (by rfl) rfl rfl (by simp only [List.map_toArray,List.map_cons,List.map_nil];rfl) ?_
    with_reducible refine (HPA2.out _ HM.out.bel).mono ?_
    rintro e w3 ⟨rfl,hb⟩
    refine ⟨_,rfl,?_⟩
    have HM:=mkA (HM.out.call hb)
    clear hb
    refine hK.out _ _ ⟨(HQ2.out _ HM.out.bel),(HR2.out _ HM.out.bel)⟩ (fun hHeld=>?_)
    clear hK K
    refine norm_ (a':=?_) ?_ ?_
    rotate_left
    ·show Act.put _ (some 16) _=_
     simp only [Act.put,sAx,sBx,sCx,i64_w,i32_w]
     rfl
    refine one_ (i:=5) (N:=some 19) #[qt,qt,qt,qt,qt,qt,qt,qt,qf,qf] rfl rfl (by kernel_rfl) (by decide) (fun K hK=>?_)
    refine goes_ Tryz.func18 (by kernel_rfl) rfl #[.slice A1_2 l1_2.length c1_2] (by rfl) rfl rfl (by simp only [List.map_toArray,List.map_cons,List.map_nil];rfl) ?_
    with_reducible refine (HPB2.out _ HM.out.bel).mono ?_
    rintro e w3 ⟨rfl,hb⟩
    refine ⟨_,rfl,?_⟩
    have HM:=mkA (HM.out.call hb)
    clear hb
    refine hK.out _ _ ⟨(HQ2.out _ HM.out.bel),(HR2.out _ HM.out.bel)⟩ (fun hHeld=>?_)
    clear hK K
    refine norm_ (a':=?_) ?_ ?_
    rotate_left
    ·show Act.put _ (some 19) _=_
     simp only [Act.put,sAx,sBx,sCx,i64_w,i32_w]
     rfl
    exact norm_ (by first|(simp only [putAll,Act.put,sAx,sBx,sCx];done)|(simp only [putAll,Act.put,sAx,sBx,sCx];rfl)) (hCont (_,_) _ HM.out)
  ·skip
   refine value_ (w1:=?_) (v:=?_) (by rfl) rfl ?_ ?_
   rotate_left 2
   ·go_simp
    constructor
    ·rfl
    ·rfl
   obtain ⟨w4,hw4,hm⟩:=HM.out.ay
   refine toK hw4 ?_
   have HM:=mkA hm
   clear hw4 hm
   refine hK.out _ _ ⟨(HQ2.out _ HM.out.bel),(HR2.out _ HM.out.bel)⟩ (fun hHeld=>?_)
   clear hK K
   refine norm_ (a':=?_) ?_ ?_
   rotate_left
   ·show Act.put _ (some 6) _=_
    simp only [Act.put,sAx,sBx,sCx,i64_w,i32_w]
    rfl
   refine two_ (i:=2) (j:=6) (Ni:=some 16) (Nj:=some 5) #[qt,qt,qt,qt,qt,qf,qf,qt,qf,qf] #[qt,qt,qf,qt,qt,qf,qt,qt,qf,qf] rfl rfl rfl rfl (by kernel_rfl) (by decide) (by decide) (fun K hK=>?_) (fun K hK=>?_)
   ·skip
    refine goes_ Tryz.func18 (by kernel_rfl) rfl #[.slice A0_2 l0_2.length c0_2] (by rfl) rfl rfl (by simp only [List.map_toArray,List.map_cons,List.map_nil];rfl) ?_
    with_reducible refine (HPA2.out _ HM.out.bel).mono ?_
    rintro e w3 ⟨rfl,hb⟩
    refine ⟨_,rfl,?_⟩
    have HM:=mkA (HM.out.call hb)
    clear hb
    refine hK.out _ _ ⟨(HQ2.out _ HM.out.bel),(HR2.out _ HM.out.bel)⟩ (fun hHeld=>?_)
    clear hK K
    refine norm_ (a':=?_) ?_ ?_
    rotate_left
    ·show Act.put _ (some 16) _=_
     simp only [Act.put,sAx,sBx,sCx,i64_w,i32_w]
     rfl
    refine two_ (i:=5) (j:=6) (Ni:=some 19) (Nj:=some 5) #[qt,qt,qt,qt,qt,qt,qf,qt,qf,qf] #[qt,qt,qt,qt,qt,qf,qt,qt,qf,qf] rfl rfl rfl rfl (by kernel_rfl) (by decide) (by decide) (fun K hK=>?_) (fun K hK=>?_)
    ·skip
     refine goes_ Tryz.func18 (by kernel_rfl) rfl #[.slice A1_2 l1_2.length c1_2] (by rfl) rfl rfl (by simp only [List.map_toArray,List.map_cons,List.map_nil];rfl) ?_
     with_reducible refine (HPB2.out _ HM.out.bel).mono ?_
     rintro e w3 ⟨rfl,hb⟩
     refine ⟨_,rfl,?_⟩
     have HM:=mkA (HM.out.call hb)
     clear hb
     refine hK.out _ _ ⟨(HQ2.out _ HM.out.bel),(HR2.out _ HM.out.bel)⟩ (fun hHeld=>?_)
     clear hK K
     refine norm_ (a':=?_) ?_ ?_
     rotate_left
     ·show Act.put _ (some 19) _=_
      simp only [Act.put,sAx,sBx,sCx,i64_w,i32_w]
      rfl
     refine one_ (i:=6) (N:=some 5) #[qt,qt,qt,qt,qt,qt,qt,qt,qf,qf] rfl rfl (by kernel_rfl) (by decide) (fun K hK=>?_)
     refine value_ (w1:=?_) (v:=?_) (by rfl) rfl ?_ ?_
     rotate_left 2
     ·go_simp
      constructor
      ·rfl
      ·rfl
     obtain ⟨w4,hw4,hm⟩:=HM.out.ax
     refine toK hw4 ?_
     have HM:=mkA hm
     clear hw4 hm
     refine hK.out _ _ ⟨(HQ2.out _ HM.out.bel),(HR2.out _ HM.out.bel)⟩ (fun hHeld=>?_)
     clear hK K
     refine norm_ (a':=?_) ?_ ?_
     rotate_left
     ·show Act.put _ (some 5) _=_
      simp only [Act.put,sAx,sBx,sCx,i64_w,i32_w]
      rfl
     exact norm_ (by first|(simp only [putAll,Act.put,sAx,sBx,sCx];done)|(simp only [putAll,Act.put,sAx,sBx,sCx];rfl)) (hCont (_,_) _ HM.out)
    ·skip
     refine value_ (w1:=?_) (v:=?_) (by rfl) rfl ?_ ?_
     rotate_left 2
     ·go_simp
      constructor
      ·rfl
      ·rfl
     obtain ⟨w4,hw4,hm⟩:=HM.out.ax
     refine toK hw4 ?_
     have HM:=mkA hm
     clear hw4 hm
     refine hK.out _ _ ⟨(HQ2.out _ HM.out.bel),(HR2.out _ HM.out.bel)⟩ (fun hHeld=>?_)
     clear hK K
     refine norm_ (a':=?_) ?_ ?_
     rotate_left
     ·show Act.put _ (some 5) _=_
      simp only [Act.put,sAx,sBx,sCx,i64_w,i32_w]
      rfl
     refine one_ (i:=5) (N:=some 19) #[qt,qt,qt,qt,qt,qt,qt,qt,qf,qf] rfl rfl (by kernel_rfl) (by decide) (fun K hK=>?_)
     refine goes_ Tryz.func18 (by kernel_rfl) rfl #[.slice A1_2 l1_2.length c1_2] (by rfl) rfl rfl (by simp only [List.map_toArray,List.map_cons,List.map_nil];rfl) ?_
     with_reducible refine (HPB2.out _ HM.out.bel).mono ?_
     rintro e w3 ⟨rfl,hb⟩
     refine ⟨_,rfl,?_⟩
     have HM:=mkA (HM.out.call hb)
     clear hb
     refine hK.out _ _ ⟨(HQ2.out _ HM.out.bel),(HR2.out _ HM.out.bel)⟩ (fun hHeld=>?_)
     clear hK K
     refine norm_ (a':=?_) ?_ ?_
     rotate_left
     ·show Act.put _ (some 19) _=_
      simp only [Act.put,sAx,sBx,sCx,i64_w,i32_w]
      rfl
     exact norm_ (by first|(simp only [putAll,Act.put,sAx,sBx,sCx];done)|(simp only [putAll,Act.put,sAx,sBx,sCx];rfl)) (hCont (_,_) _ HM.out)
   ·skip
    refine value_ (w1:=?_) (v:=?_) (by rfl) rfl ?_ ?_
    rotate_left 2
    ·go_simp
     constructor
     ·rfl
     ·rfl
    obtain ⟨w4,hw4,hm⟩:=HM.out.ax
    refine toK hw4 ?_
    have HM:=mkA hm
    clear hw4 hm
    refine hK.out _ _ ⟨(HQ2.out _ HM.out.bel),(HR2.out _ HM.out.bel)⟩ (fun hHeld=>?_)
    clear hK K
    refine norm_ (a':=?_) ?_ ?_
    rotate_left
    ·show Act.put _ (some 5) _=_
     simp only [Act.put,sAx,sBx,sCx,i64_w,i32_w]
     rfl
    refine one_ (i:=2) (N:=some 16) #[qt,qt,qt,qt,qt,qf,qt,qt,qf,qf] rfl rfl (by kernel_rfl) (by decide) (fun K hK=>?_)
    refine goes_ Tryz.func18 (by kernel_rfl) rfl #[.slice A0_2 l0_2.length c0_2] (by rfl) rfl rfl (by simp only [List.map_toArray,List.map_cons,List.map_nil];rfl) ?_
    with_reducible refine (HPA2.out _ HM.out.bel).mono ?_
    rintro e w3 ⟨rfl,hb⟩
    refine ⟨_,rfl,?_⟩
    have HM:=mkA (HM.out.call hb)
    clear hb
    refine hK.out _ _ ⟨(HQ2.out _ HM.out.bel),(HR2.out _ HM.out.bel)⟩ (fun hHeld=>?_)
    clear hK K
    refine norm_ (a':=?_) ?_ ?_
    rotate_left
    ·show Act.put _ (some 16) _=_
     simp only [Act.put,sAx,sBx,sCx,i64_w,i32_w]
     rfl
    refine one_ (i:=5) (N:=some 19) #[qt,qt,qt,qt,qt,qt,qt,qt,qf,qf] rfl rfl (by kernel_rfl) (by decide) (fun K hK=>?_)
    refine goes_ Tryz.func18 (by kernel_rfl) rfl #[.slice A1_2 l1_2.length c1_2] (by rfl) rfl rfl (by simp only [List.map_toArray,List.map_cons,List.map_nil];rfl) ?_
    with_reducible refine (HPB2.out _ HM.out.bel).mono ?_
    rintro e w3 ⟨rfl,hb⟩
    refine ⟨_,rfl,?_⟩
    have HM:=mkA (HM.out.call hb)
    clear hb
    refine hK.out _ _ ⟨(HQ2.out _ HM.out.bel),(HR2.out _ HM.out.bel)⟩ (fun hHeld=>?_)
    clear hK K
    refine norm_ (a':=?_) ?_ ?_
    rotate_left
    ·show Act.put _ (some 19) _=_
     simp only [Act.put,sAx,sBx,sCx,i64_w,i32_w]
     rfl
    exact norm_ (by first|(simp only [putAll,Act.put,sAx,sBx,sCx];done)|(simp only [putAll,Act.put,sAx,sBx,sCx];rfl)) (hCont (_,_) _ HM.out)
 rintro ⟨x,y⟩ w' hm
 have HM:=mkA hm
 clear hm
 have hHeld:w'.cell? ⟨w.heap.size,2,none⟩=some (.slice A0_2 l0_2.length c0_2)∧w'.cell? ⟨w.heap.size+1,2,none⟩=some (.slice A1_2 l1_2.length c1_2):=⟨HQ2.out _ HM.out.bel,HR2.out _ HM.out.bel⟩
 refine norm_ (a':=?_) ?_ ?_
 rotate_left
 ·simp only [putAll,Act.put,sAx,sBx,sCx]
  rfl
 refine last_ (i:=8) (N:=none) #[qt,qt,qt,qt,qt,qt,qt,qt,qt,qf] rfl rfl (by kernel_rfl) (by decide) (fun K hK=>?_)
 refine store2_ (by rfl) rfl 51 _ _ rfl x ca.cells rfl rfl 51 _ (HM.out.hx x rfl).2 (HZ.out _) rfl (cells_one _) ?_
 have HY:=mkA (HM.out.y1 ca.cells)
 refine hK.out _ _ ?_
 clear hK K
 refine last_ (i:=9) (N:=none) #[qt,qt,qt,qt,qt,qt,qt,qt,qt,qt] rfl rfl (by kernel_rfl) (by decide) (fun K hK=>?_)
 refine store2_ (by rfl) rfl 51 _ _ rfl y cb.cells rfl rfl 51 _ HY.out (HZ.out _) rfl (cells_one _) ?_
 refine hK.out _ _ ?_
 clear hK K
 refine done_ (by kernel_rfl) ?_
 have HT:=mkA (HM.out.done ca.cells cb.cells)
 generalize (w'.setRow x ca.cells).setRow y cb.cells=W2 at HT ⊢
 clear HM HY hHeld HPA HPB HPA2 HPB2
 have hq2:=HQ2.out W2 HT.out.bel
 have hr2:=HR2.out W2 HT.out.bel
 go_upto_region 3 with (first|(go_at_call 19;refine (HGA.out _ (HW.out _ HT.out.bel)).mono ?_;rintro e w3 ⟨rfl,hb⟩;have HT:=mkA (HT.out.call hb);clear hb)|fail)
 have HT1:=mkA (HT.out.al (.cells #[.bool s2] 4))
 have HS1:=mkA (heap_alloc_new w3 (.cells #[.bool s2] 4))
 generalize w3.alloc (.cells #[.bool s2] 4)=W3 at HT1 HS1 ⊢
 generalize w3.heap.size=bs at HS1 ⊢
 clear HT hq2 hr2
 have hr2:=HR2.out W3 HT1.out.bel
 go_upto_region 4 with (first|(go_at_call 19;refine (HGB.out _ (HW.out _ HT1.out.bel)).mono ?_;rintro e w4 ⟨rfl,hb⟩;have HT:=mkA (HT1.out.call hb);have HS:=mkA (blk_call hb HS1.out);clear hb HT1 HS1)|fail)
 have HT1:=mkA (HT.out.al (.cells #[.bool e2] 4))
 have HS1:=mkA (blk_al (o':=.cells #[.bool e2] 4) HS.out)
 have HE1:=mkA (heap_alloc_new w4 (.cells #[.bool e2] 4))
 generalize w4.alloc (.cells #[.bool e2] 4)=W4 at HT1 HS1 HE1 ⊢
 generalize w4.heap.size=be at HE1 ⊢
 clear HT HS hr2
 have HRB:=mkA (show W4.heap[w.heap.size+1]?=some (.cells #[.int .i64 a1_0,.string a1_1,.slice A1_2 l1_2.length c1_2,.slice A1_3 l1_3.length c1_3] 27 (0,0)) from (HT1.out.bel.block _ (blk_in HR.out)).trans HR.out)
 go_upto_region 5 with (first|(go_at_call 20;refine (HNM.out _ (HW.out _ HT1.out.bel)).mono ?_;rintro e w5 ⟨v0,rfl,_,hb⟩;have HT:=mkA (HT1.out.call hb);have HS:=mkA (blk_call hb HS1.out);have HE:=mkA (blk_call hb HE1.out);clear hb HT1 HS1 HE1)|(with_reducible refine wpList_load_row rfl 27 _ rfl (w.heap.size+1) rfl 27 _ (0,0) _ HRB.out Tryz.underlying27 rfl (by kernel_rfl) ?_)|fail)
 have HT1:=mkA (HT.out.al (.cells #[.bool v2] 4))
 have HS1:=mkA (blk_al (o':=.cells #[.bool v2] 4) HS.out)
 have HE1:=mkA (blk_al (o':=.cells #[.bool v2] 4) HE.out)
 have HV1:=mkA (heap_alloc_new w5 (.cells #[.bool v2] 4))
 generalize w5.alloc (.cells #[.bool v2] 4)=W5 at HT1 HS1 HE1 HV1 ⊢
 generalize w5.heap.size=bv at HV1 ⊢
 clear HT HS HE HRB
 have HQ5:=mkA (show W5.heap[w.heap.size]?=some _ from (HT1.out.bel.block _ (blk_in HQ.out)).trans HQ.out)
 have HR5:=mkA (show W5.heap[w.heap.size+1]?=some _ from (HT1.out.bel.block _ (blk_in HR.out)).trans HR.out)
 have HB5:=mkA (HW.out _ HT1.out.bel)
 have HX5:=mkA HT1.out.hx
 have HY5:=mkA HT1.out.hy
 clear HQ HR HT1 HNM HGA HGB HQ2 HR2 HW HB0 HZ
 go_upto_region 6 with (fail)
 have hq6:=blk_al (o':=.cells (sevenV w.heap.size (w.heap.size+1) x y bs be bv) 32) HQ5.out
 have hr6:=blk_al (o':=.cells (sevenV w.heap.size (w.heap.size+1) x y bs be bv) 32) HR5.out
 have hx6:=blk_al (o':=.cells (sevenV w.heap.size (w.heap.size+1) x y bs be bv) 32) HX5.out
 have hy6:=blk_al (o':=.cells (sevenV w.heap.size (w.heap.size+1) x y bs be bv) 32) HY5.out
 have hs6:=blk_al (o':=.cells (sevenV w.heap.size (w.heap.size+1) x y bs be bv) 32) HS1.out
 have he6:=blk_al (o':=.cells (sevenV w.heap.size (w.heap.size+1) x y bs be bv) 32) HE1.out
 have hv6:=blk_al (o':=.cells (sevenV w.heap.size (w.heap.size+1) x y bs be bv) 32) HV1.out
 have H7:=mkA (seven_calls _ _ _ _ _ _ _ _ _ ca cb _ _ _ _ _ _ _ _ _ _ s2 e2 v2 hq6 hr6 hx6 hy6 hs6 he6 hv6 (heap_alloc_new W5 (.cells (sevenV w.heap.size (w.heap.size+1) x y bs be bv) 32)))
 have HB6:=mkA (HB5.out.alloc HB5.out.size (.cells (sevenV w.heap.size (w.heap.size+1) x y bs be bv) 32))
 clear hq6 hr6 hx6 hy6 hs6 he6 hv6 HQ5 HR5 HX5 HY5 HS1 HE1 HV1 HB5
 obtain ⟨W6,hw6⟩:∃ W6,W6=W5.alloc (.cells (sevenV w.heap.size (w.heap.size+1) x y bs be bv) 32):=⟨_,rfl⟩
 rw [← hw6] at H7 HB6
 refine toW hw6 ?_
 clear hw6
 go_wp2_with (first|(go_at_call 29;refine H7.out.mono ?_;rintro e w7 ⟨rfl,hb⟩;have HB7:=mkA (HB6.out.trans (hb.mono HB6.out.size));clear hb)|fail)
 go_ret
 refine ⟨?_,HB7.out⟩
 rw [← HH.out,HCA.out,HCB.out]
 simp
end Go.Proofs.YtlnmnjbihgaliaaGreat.Pr
end
