import Derived.Test.YtlnmnjbihgaliaaGreatRowsX
import Derived.Test.YtlnmnjbihgaliaaGreatGKnown
import Derived.Lib.SlBytesConst
import Derived.Laws.CopyOwn
set_option linter.unusedVariables false
set_option linter.unusedSimpArgs false
open Go.RowKit Go.Proofs.YtlnmnjbihgaliaaGreatW.PrintWords Go.Proofs.YtlnmnjbihgaliaaGreatW.PrintMore Go.Proofs.YtlnmnjbihgaliaaGreatW.PrintLast
namespace Go.Proofs.YtlnmnjbihgaliaaGreat.Pr
/-- The state of ambryseat.Request, Response between two statements: the argument's block, the result's (still zero), the variable's, the row of fields so far. -/
structure SI(w0:World)(gA gZ gR:Nat)(tA tR:TypeId)(cs cz:Array Value)(s0 s1:Value)(l:List S41)(v:Value)(W:World):Prop where
 bel:Below w0.heap.size w0 W
 ha:W.heap[gA]?=some (.cells cs tA (0,0))
 hz:W.heap[gZ]?=some (.cells cz tR (0,0))
 hr:W.heap[gR]?=some (.cells #[s0,s1,v,.slice none 0 0] tR (0,0))
 ho:Kd.R k41 41 W w0.heap.size (fun _=>True) v l
 hn:l.length≤20
section
variable {w0:World} {gA gZ gR:Nat} {tA tR:TypeId} {cs cz:Array Value} {s0 s1:Value} {l l1:List S41} {v v1:Value} {W W1:World}
theorem SI.below(h:SI w0 gA gZ gR tA tR cs cz s0 s1 l v W)(hb:Below W.heap.size W W1):SI w0 gA gZ gR tA tR cs cz s0 s1 l v W1:=
 ⟨h.bel.trans (hb.mono h.bel.size),blk_below h.ha hb,blk_below h.hz hb,blk_below h.hr hb,Kd.R_below h.ho hb,h.hn⟩
theorem SI.al(h:SI w0 gA gZ gR tA tR cs cz s0 s1 l v W)(o:Obj):SI w0 gA gZ gR tA tR cs cz s0 s1 l v (W.alloc o):=h.below (below_alloc (Below.refl _ _) _)
theorem SI.grown(h:SI w0 gA gZ gR tA tR cs cz s0 s1 l v W)(hb:Below w0.heap.size w0 W1)(hg:W.grownBy W1 none):SI w0 gA gZ gR tA tR cs cz s0 s1 l v W1:=
 ⟨hb,(hg.block gA (blk_in h.ha) (by simp)).trans h.ha,(hg.block gZ (blk_in h.hz) (by simp)).trans h.hz,(hg.block gR (blk_in h.hr) (by simp)).trans h.hr,Kd.R_grown h.ho hg (by simp),h.hn⟩
theorem SI.hr1(h:SI w0 gA gZ gR tA tR cs cz s0 s1 l v W)(htR:tR≠41)(hg:W.grownBy W1 v.ownBlock):
  W1.heap[gR]?=some (.cells #[s0,s1,v,.slice none 0 0] tR (0,0)):=(hg.block gR (blk_in h.hr) (Kd.R_ne h.ho h.hr (fun e=>htR e.symm))).trans h.hr
theorem SI.ha1(h:SI w0 gA gZ gR tA tR cs cz s0 s1 l v W)(htA:tA≠41)(hg:W.grownBy W1 v.ownBlock):W1.heap[gA]?=some (.cells cs tA (0,0)):=(hg.block gA (blk_in h.ha) (Kd.R_ne h.ho h.ha (fun e=>htA e.symm))).trans h.ha
/-- The row grown and laid into the result. -/
theorem SI.put(h:SI w0 gA gZ gR tA tR cs cz s0 s1 l v W)(htA:tA≠41)(htR:tR≠41)(hR:w0.heap.size≤gR∧gA≠gR∧gZ≠gR)
  (ho:Kd.R k41 41 W1 w0.heap.size (fun _=>True) v1 (l++l1)) (hb:Below w0.heap.size w0 W1) (hg:W.grownBy W1 v.ownBlock) (hn:(l++l1).length≤20) :
  SI w0 gA gZ gR tA tR cs cz s0 s1 (l++l1) v1 (W1.setCell ⟨gR,2,none⟩ v1):=by
 have hA1:W1.heap[gA]?=some (.cells cs tA (0,0)):=(hg.block gA (blk_in h.ha) (Kd.R_ne h.ho h.ha (fun e=>htA e.symm))).trans h.ha
 have hZ1:W1.heap[gZ]?=some (.cells cz tR (0,0)):=(hg.block gZ (blk_in h.hz) (Kd.R_ne h.ho h.hz (fun e=>htR e.symm))).trans h.hz
 have hR1:=h.hr1 htR hg
 have hR2:=blk_set hR1 2 v1
 refine ⟨hb.setCell hR.1 v1,(Below.heap_setCell W1 _ v1 gA hR.2.1).trans hA1,(Below.heap_setCell W1 _ v1 gZ hR.2.2).trans hZ1,hR2,?_,hn⟩
 exact Kd.R_set ho hR1 (fun q hq=>by
  rcases List.mem_cons.1 hq with rfl|hq
  ·exact fun e=>htR e.symm
  ·rw [show k41.E=[] from rfl] at hq;cases hq) 2 v1
/-- The body laid into the result: what stands then. -/
structure SF(w0:World)(gZ gR:Nat)(tR:TypeId)(cz:Array Value)(s0 s1:Value)(l:List S41)(b:List Int)(W:World):Prop where
 bel:Below w0.heap.size w0 W
 hz:W.heap[gZ]?=some (.cells cz tR (0,0))
 hs:∃ v A n c,n=b.length∧W.heap[gR]?=some (.cells #[s0,s1,v,.slice A n c] tR (0,0))∧Kd.R k41 41 W w0.heap.size (fun _=>True) v l∧n≤c∧∀ W':World,(∀ k,w0.heap.size≤k→k < W.heap.size→k≠gZ→W'.heap[k]?=W.heap[k]?)→Kd.C (Kd.int .u8) W' A n b
theorem SI.bare(h:SI w0 gA gZ gR tA tR cs cz s0 s1 l v W):SF w0 gZ gR tR cz s0 s1 l [] W:=⟨h.bel,h.hz,v,none,0,0,rfl,h.hr,h.ho,Nat.le_refl _,fun _ _=>Kd.C_nil _ _⟩
theorem lit_C{W:World}{g:Nat}{fr:Nat × Nat}{L:List Int}(h:W.heap[g]?=some (.cells (L.map (Value.int .u8)).toArray 5 fr))(k:Nat)(hk:k≤L.length)(hL:L.length≤1000):Kd.C (Kd.int .u8) W (some ⟨g,0,none⟩) k (L.take k):=by
 refine Kd.C_of_reads (enc:=Value.int .u8) (d:=0) (h1:=fun _=>rfl) ⟨by rw [List.length_take];omega,by omega,fun _=>⟨_,rfl,fun j hj=>?_⟩⟩
 rw [add_plain,mk_cell h]
 simp [List.getD_eq_getElem?_getD,List.getElem?_eq_getElem (show j < L.length by omega),hj]
theorem SI.body(h:SI w0 gA gZ gR tA tR cs cz s0 s1 l v W)(htR:tR≠41∧tR≠5)(hR:w0.heap.size≤gR∧gA≠gR∧gZ≠gR){g:Nat}{fr:Nat × Nat}{L:List Int}{m:Nat}(k:Nat)
  (hgb:w0.heap.size≤g) (hg:W.heap[g]?=some (.cells (L.map (Value.int .u8)).toArray 5 fr)) (hk:k≤m) (hm:L.length=m) (hL:L.length≤1000) :
  SF w0 gZ gR tR cz s0 s1 l (L.take k) (W.setCell ⟨gR,3,none⟩ (.slice (some ⟨g,0,none⟩) k m)):=by
 have hgZ:g≠gZ:=fun e=>by rw [e,h.hz] at hg;injection hg with hg;injection hg with _ hg;exact htR.2 hg
 have hgR:g≠gR:=fun e=>by rw [e,h.hr] at hg;injection hg with hg;injection hg with _ hg;exact htR.2 hg
 refine ⟨h.bel.setCell hR.1 _,(Below.heap_setCell W _ _ gZ hR.2.2).trans h.hz,v,_,_,_,by rw [List.length_take];omega,blk_set h.hr 3 _,Kd.R_set h.ho h.hr (fun q hq=>?_) 3 _,hk,fun W' hW=>lit_C (fr:=fr) (L:=L) ?_ k (by omega) hL⟩
 ·rcases List.mem_cons.1 hq with rfl|hq
  ·exact fun e=>htR.1 e.symm
  ·rw [show k41.E=[] from rfl] at hq;cases hq
 ·rw [hW g hgb (by have:=blk_in hg;simpa using this) hgZ,Below.heap_setCell W _ _ g hgR];exact hg
end
theorem R_setRow{α:Type}{d:Kd α}{e base:Nat}{ok:Nat→Prop}{W:World}{v:Value}{xs:List α}{g t:Nat}{cells:Array Value}(h:d.R e W base ok v xs)(hb:W.heap[g]?=some (.cells cells t (0,0)))(hE:d.E=[])(ht:e≠t)(cs:Array Value):d.R e (W.setRow g cs) base (fun k=>ok k∧k≠g) v xs:=
 Kd.R_step (Kd.R_types h hb (fun q hq=>by
  rcases List.mem_cons.1 hq with rfl|hq
  ·exact ht
  ·rw [hE] at hq;cases hq)) (fun k hk _=>setRow_other _ _ _ _ hk.2)
theorem size_setRow(W:World)(g:Nat)(cs:Array Value):(W.setRow g cs).heap.size=W.heap.size:=by unfold World.setRow;simp
theorem name_K{K:Act→World→Prop}{a:Act}{W:World}(S:World→Prop)(h:S W)(k:∀ W',S W'→K a W'):K a W:=k W h
theorem two_field{W:World}{g:Nat}{fr:Nat × Nat}{a b a' b':ByteArray}(h:W.heap[g]?=some (.cells #[.string a,.string b,.string a',.string b'] 41 fr)):Kd.C k41 W (some ⟨g,0,none⟩) 2 [⟨a,b⟩,⟨a',b'⟩]:=by
 refine ⟨rfl,by decide,fun _=>⟨_,rfl,fun j p hp=>?_⟩⟩
 have hj:j=0∨j=1:=by
  rcases Nat.lt_or_ge j 2 with hj|hj
  ·omega
  ·rw [List.getElem?_eq_none (by simpa using hj)] at hp;cases hp
 rcases hj with rfl|rfl
 ·injection hp with hp
  subst hp
  refine ⟨[.string a,.string b],rfl,k41_mk W _,fun i u hu=>?_⟩
  rw [add_plain,mk_cell h]
  match i,hu with
  |0,hu=>exact hu
  |1,hu=>exact hu
 ·injection hp with hp
  subst hp
  refine ⟨[.string a',.string b'],rfl,k41_mk W _,fun i u hu=>?_⟩
  rw [add_plain,mk_cell h]
  match i,hu with
  |0,hu=>exact hu
  |1,hu=>exact hu
theorem R_sliceN{α:Type}{d:Kd α}{e base:Nat}{ok:Nat→Prop}{w:World}{v:Value}{xs:List α}(h:d.R e w base ok v xs):∃ A n c,v=.slice A n c:=by
 obtain ⟨A,c,h⟩:=Kd.R_slice h
 exact ⟨A,_,c,h⟩
theorem name_world{P:Program}{c:Code}{Q:Exit→Act→World→Prop}{a:Act}{W:World}(S:World→Prop)(h:S W)(k:∀ W',S W'→Code.wp P c Q a W'):Code.wp P c Q a W:=k W h
theorem new2(w0:World)(o o':Obj):((w0.alloc o).alloc o').heap[w0.heap.size+1]?=some o':=by have:=heap_alloc_new (w0.alloc o) o';simpa using this
theorem hl_{n m:Nat}(h:n≤20)(hm:m≤20):(n+m) * 32≤140737488355328:=by omega
theorem hn_{l l1:List S41}{k:Nat}(h:l.length≤k)(hm:k+l1.length≤20):(l++l1).length≤20:=by rw [List.length_append];omega
theorem tm(x m:Int)(h:0≤x)(hm:0 < m):0≤x % m∧x % m < m:=⟨Int.emod_nonneg _ (by omega),Int.emod_lt_of_pos _ hm⟩
theorem lit_cell(W:World)(L:List Value)(t:TypeId)(i:Int)(d:Value)(h0:0≤i)(h1:i < L.length):(W.alloc (.cells L.toArray t)).cell? ⟨W.heap.size,i.toNat,none⟩=some (L.getD i.toNat d):=by
 rw [blk_cell (heap_alloc_new W _)]
 simp [List.getD_eq_getElem?_getD,List.getElem?_eq_getElem (show i.toNat < L.length by omega)]
theorem u8w(x:Int)(h:0≤x∧x≤255):IntKind.u8.wrap (x / 4)=x / 4:=by
 unfold IntKind.wrap
 simp [IntKind.bits,IntKind.signed]
 omega
theorem getD_map{α β:Type}(f:α→β)(L:List α)(i:Nat)(d:α):(L.map f).getD i (f d)=f (L.getD i d):=by
 rw [List.getD_eq_getElem?_getD,List.getElem?_map,List.getD_eq_getElem?_getD]
 cases L[i]? <;> rfl
theorem store_row_step{P:Program}{ops:Array Oper}{o:Oper}{a:Act}{w:World}{K:Act→World→Prop}{Q:Exit→Act→World→Prop}(hw:Region.wanted o (yielded ops a.tmps)=true)(ty:TypeId)(x y:Operand)(ho:o.op=.store ty x y)
  (g:Nat) (cells:Array Value) (hx:a.eval x=.pointer (some ⟨g,0,none⟩)) (hy:a.eval y=.agg cells)
  (t:TypeId) (old:Array Value) (hg:w.heap[g]?=some (.cells old t (0,0))) (hi:(P.info? ty).map (·.size)=some cells.size)
  (hold:old.size=cells.size) (h1:cells.all (·.oneCell')=true) (hd:o.dst=none)
  (h:K a (w.setRow g cells)):if Region.wanted o (yielded ops a.tmps)=true then Oper.wp P o a w K Q else K a w:=by
 rw [if_pos hw]
 exact wp_store_row ty x y ho g cells hx hy t old hg hi hold h1 (by rw [hd];exact h)
/-- What the first statement of Request makes, in whatever order: two rows of texts, the variable's block. -/
structure RQ(W1:World)(cx cy cz:List Value)(tz:TypeId)(x y z:Option Nat)(W:World):Prop where
 bel:Below W1.heap.size W1 W
 hx:∀ g,x=some g→W.heap[g]?=some (.cells cx.toArray 9 (0,0))
 hy:∀ g,y=some g→W.heap[g]?=some (.cells cy.toArray 9 (0,0))
 hz:∀ g,z=some g→W.heap[g]?=some (.cells cz.toArray tz (0,0))∧W1.heap.size≤g
section
variable {W1 W:World} {cx cy cz:List Value} {tz:TypeId} {x y z:Option Nat}
theorem RQ.al(h:RQ W1 cx cy cz tz x y z W)(o:Obj):RQ W1 cx cy cz tz x y z (W.alloc o):=
 ⟨h.bel.alloc h.bel.size _,fun g hg=>blk_al (h.hx g hg),fun g hg=>blk_al (h.hy g hg),fun g hg=>⟨blk_al (h.hz g hg).1,(h.hz g hg).2⟩⟩
theorem RQ.litx(h:RQ W1 cx cy cz tz none y z W):RQ W1 cx cy cz tz (some W.heap.size) y z (W.alloc (.cells cx.toArray 9)):=
 ⟨(h.al _).bel,fun g hg=>by cases hg;exact heap_alloc_new _ _,(h.al _).hy,(h.al _).hz⟩
theorem RQ.lity(h:RQ W1 cx cy cz tz x none z W):RQ W1 cx cy cz tz x (some W.heap.size) z (W.alloc (.cells cy.toArray 9)):=
 ⟨(h.al _).bel,(h.al _).hx,fun g hg=>by cases hg;exact heap_alloc_new _ _,(h.al _).hz⟩
theorem RQ.litz(h:RQ W1 cx cy cz tz x y none W):RQ W1 cx cy cz tz x y (some W.heap.size) (W.alloc (.cells cz.toArray tz)):=
 ⟨(h.al _).bel,(h.al _).hx,(h.al _).hy,fun g hg=>by cases hg;exact ⟨heap_alloc_new _ _,h.bel.size⟩⟩
theorem row_str{g:Nat}{fr:Nat × Nat}{L:List ByteArray}(h:W.heap[g]?=some (.cells (L.map Value.string).toArray 9 fr))(i:Int)(d:ByteArray)(h0:0≤i)(h1:i < L.length):W.cell? ⟨g,i.toNat,none⟩=some (.string (L.getD i.toNat d)):=by
 rw [mk_cell h]
 simp [List.getD_eq_getElem?_getD,List.getElem?_eq_getElem (show i.toNat < L.length by omega)]
end
/-- One field, where its value is not empty. -/
def optF(n s:ByteArray):List S41:=if s.toList.isEmpty=true then [] else [⟨n,s⟩]
theorem optF_len(n s:ByteArray):(optF n s).length≤1:=by unfold optF;split <;> simp
end Go.Proofs.YtlnmnjbihgaliaaGreat.Pr
