import Derived.Test.YtlnmnjbihgaliaaGreatGRef
import Derived.Laws.IdiomStrings
import Derived.Test.YtlnmnjbihgaliaaGreatVWords
import Derived.Laws.CopyOwn
import Derived.Deep.MidRow
set_option linter.unusedVariables false
set_option linter.unusedSimpArgs false
namespace Go.Proofs.YtlnmnjbihgaliaaGreatW.PrintLast
theorem i32_w (n : Int) : IntKind.i32.wrap n = Go.RowKit.wrap32 n := by unfold Go.RowKit.wrap32; exact IntKind.wrap_i32 n
end Go.Proofs.YtlnmnjbihgaliaaGreatW.PrintLast
namespace Go.Proofs.YtlnmnjbihgaliaaGreatW.PrintMore
theorem max_three (ats : Array TypeId) (ty : TypeId) (a b c : Value) : Builtin.max_ ats ty #[a, b, c] = (Builtin.max2 a b >>= fun s => Builtin.max2 s c >>= fun s => pure s) := by simp only [Builtin.max_, List.foldlM_cons, List.foldlM_nil]
theorem min_three (ats : Array TypeId) (ty : TypeId) (a b c : Value) : Builtin.min_ ats ty #[a, b, c] = (Builtin.min2 a b >>= fun s => Builtin.min2 s c >>= fun s => pure s) := by simp only [Builtin.min_, List.foldlM_cons, List.foldlM_nil]
theorem max_four (ats : Array TypeId) (ty : TypeId) (a b c d : Value) : Builtin.max_ ats ty #[a, b, c, d] = (Builtin.max2 a b >>= fun s => Builtin.max2 s c >>= fun s => Builtin.max2 s d >>= fun s => pure s) := by simp only [Builtin.max_, List.foldlM_cons, List.foldlM_nil]
theorem min_four (ats : Array TypeId) (ty : TypeId) (a b c d : Value) : Builtin.min_ ats ty #[a, b, c, d] = (Builtin.min2 a b >>= fun s => Builtin.min2 s c >>= fun s => Builtin.min2 s d >>= fun s => pure s) := by simp only [Builtin.min_, List.foldlM_cons, List.foldlM_nil]
end Go.Proofs.YtlnmnjbihgaliaaGreatW.PrintMore
section
open Go.RowKit Go.Proofs.YtlnmnjbihgaliaaGreatW.PrintWords
namespace Go.Proofs.YtlnmnjbihgaliaaGreat
theorem mk_cell{w:World}{g:Nat}{t:TypeId}{cs:Array Value}{fr:Nat × Nat}(h:w.heap[g]?=some (.cells cs t fr))(i:Nat):w.cell? ⟨g,i,none⟩=cs[i]?:=by
 simp [World.cell?,h]
theorem mk_frozen{w:World}{g:Nat}{t:TypeId}{cs:Array Value}{fr:Nat × Nat}(h:w.heap[g]?=some (.cells cs t fr))(i:Nat)(hi:i < fr.1):w.frozen? ⟨g,i,none⟩=false:=by
 simp [World.frozen?,h];omega
theorem mk_set{w:World}{g:Nat}{t:TypeId}{cs:Array Value}{fr:Nat × Nat}(h:w.heap[g]?=some (.cells cs t fr))(i:Nat)(v:Value):(w.setCell ⟨g,i,none⟩ v).heap[g]?=some (.cells (cs.setIfInBounds i v) t fr):=by
 simp [World.setCell,Array.getElem?_modify,h]
/-- One byte in small letters. -/
def lowB(c:Int):Int:=if 65≤c then (if c≤90 then c+32 else c) else c
def lowS(s:ByteArray):ByteArray:=strOfNums ((bytesOf s).map lowB)
def lowF(s:ByteArray):Option ByteArray:=if s.size≤9223372036854775807 then some (lowS s) else none
/-- The row, of which the first k are small. -/
def LowRow(w:World)(g:Nat)(n:Nat)(bs:List Int)(k:Nat):Prop:=
 ∃ (cs:Array Value) (fr:Nat × Nat),w.heap[g]?=some (.cells cs 5 fr)∧n≤fr.1∧n≤cs.size∧∀ j,j < n→cs[j]?=some (.int .u8 (if j < k then lowB (nth bs j) else nth bs j))
theorem bytes_nth(s:ByteArray)(j:Nat)(h:j < s.size):nth (bytesOf s) j=((s.data.toList.getD j 0).toNat:Int):=by
 have h':j < s.data.toList.length:=by rw [data_length];exact h
 simp [nth,bytesOf,List.getD_eq_getElem?_getD,List.getElem?_eq_getElem h']
theorem bytes_range(s:ByteArray)(j:Nat):0≤nth (bytesOf s) j∧nth (bytesOf s) j≤255:=by
 by_cases h:j < s.size
 ·rw [bytes_nth s j h];have:=(s.data.toList.getD j 0).toNat_lt;omega
 ·have:(bytesOf s).length≤j:=by rw [bytesOf_length];omega
  simp [nth,List.getElem?_eq_none this]
theorem low_start(w:World)(s:ByteArray):LowRow (Lib.bytesWorld w 5 s) w.heap.size s.size (bytesOf s) 0:=by
 refine ⟨_,_,Lib.bytesWorld_at_new w 5 s,?_,?_,fun j hj=>?_⟩
 ·simp [Lib.bytesCells]
 ·simp [Lib.bytesCells]
 ·rw [if_neg (by omega)]
  have h:=Lib.bytesWorld_cell w 5 s j hj
  rw [mk_cell (Lib.bytesWorld_at_new w 5 s)] at h
  rw [h,bytes_nth s j hj]
theorem low_cell{w:World}{g n:Nat}{bs:List Int}{k:Nat}(h:LowRow w g n bs k)(hk:k < n):w.cell? ⟨g,k,none⟩=some (.int .u8 (nth bs k))∧w.frozen? ⟨g,k,none⟩=false:=by
 obtain ⟨cs,fr,h1,h2,h3,h4⟩:=h
 refine ⟨?_,mk_frozen h1 k (by omega)⟩
 rw [mk_cell h1,h4 k hk,if_neg (by omega)]
theorem low_put{w:World}{g n:Nat}{bs:List Int}{k:Nat}(h:LowRow w g n bs k)(hk:k < n):LowRow (w.setCell ⟨g,k,none⟩ (.int .u8 (lowB (nth bs k)))) g n bs (k+1):=by
 obtain ⟨cs,fr,h1,h2,h3,h4⟩:=h
 refine ⟨_,fr,mk_set h1 k _,h2,by simpa using h3,fun j hj=>?_⟩
 rw [Array.getElem?_setIfInBounds]
 by_cases e:k=j
 ·subst e;rw [if_pos rfl,if_pos (by omega),if_pos (by omega)]
 ·rw [if_neg e,h4 j hj]
  by_cases e2:j < k
  ·rw [if_pos e2,if_pos (by omega)]
  ·rw [if_neg e2,if_neg (by omega)]
theorem low_skip{w:World}{g n:Nat}{bs:List Int}{k:Nat}(h:LowRow w g n bs k)(hk:lowB (nth bs k)=nth bs k):LowRow w g n bs (k+1):=by
 obtain ⟨cs,fr,h1,h2,h3,h4⟩:=h
 refine ⟨cs,fr,h1,h2,h3,fun j hj=>?_⟩
 rw [h4 j hj]
 by_cases e:j=k
 ·subst e;rw [if_neg (by omega),if_pos (by omega),hk]
 ·by_cases e2:j < k
  ·rw [if_pos e2,if_pos (by omega)]
  ·rw [if_neg e2,if_neg (by omega)]
theorem low_reads{w:World}{g n:Nat}{bs:List Int}(h:LowRow w g n bs n)(hn:bs.length=n)(hb:n≤9223372036854775807):Kd.C (Kd.int .u8) w (some ⟨g,0,none⟩) n (bs.map lowB):=by
 obtain ⟨cs,fr,h1,h2,h3,h4⟩:=h
 refine Kd.C_of_reads (enc:=Value.int .u8) (d:=(0:Int)) (h1:=fun _=>rfl) ⟨by rw [List.length_map,hn],hb,fun _=>⟨_,rfl,fun j hj=>?_⟩⟩
 rw [add_plain,mk_cell h1]
 try rw [Nat.zero_add]
 rw [h4 j hj,if_pos hj]
 have h':j < bs.length:=by omega
 simp [nth,List.getD_eq_getElem?_getD,List.getElem?_eq_getElem h']
set_option maxRecDepth 100000 in
set_option maxHeartbeats 4000000 in
theorem small_calls(s:ByteArray)(w:World)(hs:s.size≤9223372036854775807):Calls Tryz.prog 49 #[.string s] w fun e w'=>e=.returned (.string (lowS s))∧Below w.heap.size w w':=by
 have kb:=fun W=>print_bytes (P:=Tryz.prog) 9 23 5 Tryz.underlying9 Tryz.underlying23 Tryz.underlying5 s W
 obtain ⟨n,hn⟩:∃ n,s.size=n:=⟨_,rfl⟩
 have HS:=mkA hn
 simp only [hn] at kb
 rw [hn] at hs
 clear hn
 go_enter Tryz.func49,Tryz.ntmps49
 go_wp2
 generalize grownCap w n 0 5=cap
 go_loopw [10] (fun i wr=>∃ (k:Nat),k≤n∧i=.int .i64 k∧Aside0 (LowRow wr w.heap.size n (bytesOf s) k)∧Aside0 (Below w.heap.size w wr)) (fun i _=>n - (intOf i).toNat)
 case atStart=>exact ⟨0,by omega,rfl,⟨by have:=low_start w s;rw [HS.out] at this;exact this⟩,⟨Go.Proofs.YtlnmnjbihgaliaaGreatW.PrintWords.bytes_below (Below.refl _ _) (Nat.le_refl _) 5 s⟩⟩
 case round=>
  obtain ⟨k,hk,rfl,HL,HB⟩:=hrel
  by_cases hlt:k < n
  ·
   obtain ⟨c0,f0⟩:=low_cell HL.out hlt
   obtain ⟨r0,r1⟩:=bytes_range s k
   have i0:(0:Int)≤(k:Int):=by omega
   have i1:(k:Int) < (n:Int):=by omega
   generalize hcv:nth (bytesOf s) k=c at c0 r0 r1
   by_cases ha:65≤c
   ·by_cases hz:c≤90
    ·have hw1:(c+97) % 256=c+97:=by omega
     have HC:=mkA (And.intro hcv (And.intro hlt (show lowB c=c+97 - 65 by unfold lowB;rw [if_pos ha,if_pos hz];omega)))
     go_wp2
     go_roundw
     case rel=>exact ⟨k+1,HC.out.2.1,by go_num,⟨by have:=low_put HL.out HC.out.2.1;rw [HC.out.1,HC.out.2.2] at this;exact this⟩,⟨Below.setCell HB.out (Nat.le_refl _) _⟩⟩
     case measure=>have:=HC.out.2.1;simp [intOf];omega
    ·have HC:=mkA (And.intro hcv (And.intro hlt (show lowB c=c by unfold lowB;rw [if_pos ha,if_neg hz])))
     go_wp2
     go_roundw
     case rel=>exact ⟨k+1,HC.out.2.1,by go_num,⟨low_skip HL.out (by rw [HC.out.1,HC.out.2.2])⟩,HB⟩
     case measure=>have:=HC.out.2.1;simp [intOf];omega
   ·have HC:=mkA (And.intro hcv (And.intro hlt (show lowB c=c by unfold lowB;rw [if_neg ha])))
    go_wp2
    go_roundw
    case rel=>exact ⟨k+1,HC.out.2.1,by go_num,⟨low_skip HL.out (by rw [HC.out.1,HC.out.2.2])⟩,HB⟩
    case measure=>have:=HC.out.2.1;simp [intOf];omega
  ·
   have hkn:k=n:=by omega
   subst hkn
   have hcv:=Kd.C_string (P:=Tryz.prog) (src:=23) (dst:=9) (c:=cap) Tryz.underlying23 Tryz.underlying5 Tryz.underlying9 (low_reads HL.out (by rw [bytesOf_length,HS.out]) hs)
   go_wp2
   go_ret
   exact ⟨rfl,HB.out⟩
set_option maxRecDepth 100000 in
set_option maxHeartbeats 4000000 in
theorem Low_calls(s:ByteArray)(w:World)(hs:s.size≤9223372036854775807):Calls Tryz.prog 38 #[.string s] w fun e w'=>e=.returned (.string (lowS s))∧Below w.heap.size w w':=by
 have kb:=fun W=>print_bytes (P:=Tryz.prog) 9 23 5 Tryz.underlying9 Tryz.underlying23 Tryz.underlying5 s W
 obtain ⟨n,hn⟩:∃ n,s.size=n:=⟨_,rfl⟩
 have HS:=mkA hn
 simp only [hn] at kb
 rw [hn] at hs
 clear hn
 go_enter Tryz.func38,Tryz.ntmps38
 go_wp2
 generalize grownCap w n 0 5=cap
 go_loopw [4] (fun i wr=>∃ (k:Nat),k≤n∧i=.int .i64 k∧Aside0 (LowRow wr w.heap.size n (bytesOf s) k)∧Aside0 (Below w.heap.size w wr)) (fun i _=>n - (intOf i).toNat)
 case atStart=>exact ⟨0,by omega,rfl,⟨by have:=low_start w s;rw [HS.out] at this;exact this⟩,⟨Go.Proofs.YtlnmnjbihgaliaaGreatW.PrintWords.bytes_below (Below.refl _ _) (Nat.le_refl _) 5 s⟩⟩
 case round=>
  obtain ⟨k,hk,rfl,HL,HB⟩:=hrel
  by_cases hlt:k < n
  ·
   obtain ⟨c0,f0⟩:=low_cell HL.out hlt
   obtain ⟨r0,r1⟩:=bytes_range s k
   have i0:(0:Int)≤(k:Int):=by omega
   have i1:(k:Int) < (n:Int):=by omega
   generalize hcv:nth (bytesOf s) k=c at c0 r0 r1
   by_cases ha:65≤c
   ·by_cases hz:c≤90
    ·have hw1:(c+32) % 256=c+32:=by omega
     have HC:=mkA (And.intro hcv (And.intro hlt (show lowB c=c+32 by unfold lowB;rw [if_pos ha,if_pos hz])))
     go_wp2
     go_roundw
     case rel=>exact ⟨k+1,HC.out.2.1,by go_num,⟨by have:=low_put HL.out HC.out.2.1;rw [HC.out.1,HC.out.2.2] at this;exact this⟩,⟨Below.setCell HB.out (Nat.le_refl _) _⟩⟩
     case measure=>have:=HC.out.2.1;simp [intOf];omega
    ·have HC:=mkA (And.intro hcv (And.intro hlt (show lowB c=c by unfold lowB;rw [if_pos ha,if_neg hz])))
     go_wp2
     go_roundw
     case rel=>exact ⟨k+1,HC.out.2.1,by go_num,⟨by have:=low_put HL.out HC.out.2.1;rw [HC.out.1,HC.out.2.2] at this;exact this⟩,⟨Below.setCell HB.out (Nat.le_refl _) _⟩⟩
     case measure=>have:=HC.out.2.1;simp [intOf];omega
   ·have HC:=mkA (And.intro hcv (And.intro hlt (show lowB c=c by unfold lowB;rw [if_neg ha])))
    go_wp2
    go_roundw
    case rel=>exact ⟨k+1,HC.out.2.1,by go_num,⟨by have:=low_put HL.out HC.out.2.1;rw [HC.out.1,HC.out.2.2] at this;exact this⟩,⟨Below.setCell HB.out (Nat.le_refl _) _⟩⟩
    case measure=>have:=HC.out.2.1;simp [intOf];omega
  ·
   have hkn:k=n:=by omega
   subst hkn
   have hcv:=Kd.C_string (P:=Tryz.prog) (src:=23) (dst:=9) (c:=cap) Tryz.underlying23 Tryz.underlying5 Tryz.underlying9 (low_reads HL.out (by rw [bytesOf_length,HS.out]) hs)
   go_wp2
   go_ret
   exact ⟨rfl,HB.out⟩
end Go.Proofs.YtlnmnjbihgaliaaGreat
end
section
open Go.RowKit Go.Proofs.YtlnmnjbihgaliaaGreatW.PrintWords Go.Proofs.YtlnmnjbihgaliaaGreatW.PrintMore Go.Proofs.YtlnmnjbihgaliaaGreatW.PrintLast
namespace Go.Proofs.YtlnmnjbihgaliaaGreat
/-- A length, in four bytes. -/
def len4(n:Int):List Int:=[n / 16777216 % 256,n / 65536 % 256,n / 256 % 256,n % 256]
def partB(p:ByteArray):List Int:=len4 p.size++bytesOf p
def keyL(parts:List ByteArray):List Int:=(parts.map partB).flatten
theorem keyL_take(parts:List ByteArray)(k:Nat)(h:k < parts.length):keyL (parts.take (k+1))=keyL (parts.take k)++partB (parts[k]):=by
 unfold keyL
 rw [List.take_succ_eq_append_getElem h,List.map_append,List.flatten_append]
 simp
theorem keyL_take_le(parts:List ByteArray)(k:Nat):(keyL (parts.take k)).length≤(keyL parts).length:=by
 have:keyL parts=keyL (parts.take k)++keyL (parts.drop k):=by
  unfold keyL
  rw [← List.flatten_append,← List.map_append,List.take_append_drop]
 rw [this,List.length_append];omega
theorem keyL_many(parts:List ByteArray):parts.length≤(keyL parts).length:=by
 induction parts with
 |nil=>simp
 |cons p l ih=>
  have:keyL (p :: l)=partB p++keyL l:=by simp [keyL]
  rw [this,List.length_append,partB,List.length_append]
  have h4:(len4 p.size).length=4:=rfl
  simp only [List.length_cons]
  omega
theorem four_reads(W:World)(n:Int):Kd.C (Kd.int .u8) (W.alloc (.cells #[.int .u8 (n / 16777216 % 256),.int .u8 (n / 65536 % 256),.int .u8 (n / 256 % 256),.int .u8 (n % 256)] 5)) (some ⟨W.heap.size,0,none⟩) 4 (len4 n):=by
 refine Kd.C_of_reads (enc:=Value.int .u8) (d:=(0:Int)) (h1:=fun _=>rfl) ⟨rfl,by omega,fun _=>⟨_,rfl,fun j hj=>?_⟩⟩
 rw [add_plain,mk_cell (heap_alloc_new W _)]
 match j,hj with
 |0,_=>rfl
 |1,_=>rfl
 |2,_=>rfl
 |3,_=>rfl
set_option maxRecDepth 100000 in
set_option maxHeartbeats 4000000 in
theorem shakey_calls(A:Option Addr)(c:Nat)(ps:List ByteArray)(w:World)(hr:Kd.C Kd.string w A ps.length ps)(hc:ps.length≤c)(hbig:(keyL ps).length≤140737488355000):
  Calls Tryz.prog 36 #[.slice A ps.length c] w fun e w'=>e=.returned (.agg (u8s (sumP (keyL ps))))∧Below w.heap.size w w':=by
 have HR:=mkA hr
 have HBG:=mkA hbig
 clear hr hbig
 go_enter Tryz.func36,Tryz.ntmps36
 go_wp2
 obtain ⟨W0,hW0⟩:∃ W0,W0=w.alloc (.cells (u8s (List.replicate 32 0)) 43):=⟨_,rfl⟩
 have HW0:=mkA hW0
 have HWS:=mkA (show W0.heap.size=w.heap.size+1 by rw [hW0];simp)
 clear hW0
 go_loopw [3,9] (fun v i wr=>∃ (k:Nat),k≤ps.length∧i=.int .i64 k∧Aside0 (Kd.R (Kd.int .u8) 5 wr W0.heap.size (fun _=>True) v (keyL (ps.take k)))∧Aside0 (Below W0.heap.size W0 wr)) (fun _ i _=>ps.length - (intOf i).toNat)
 case atStart=>exact ⟨0,Nat.zero_le _,rfl,⟨Kd.R_nil _ _ _ _ _⟩,⟨by rw [HW0.out];exact (congrArg (fun z=>Below _ _ (w.alloc (Obj.cells z 43))) (show u8s (List.replicate 32 0)=_ by kernel_rfl)).mp (Below.refl _ _)⟩⟩
 case round=>
  obtain ⟨k,hk,rfl,HO,HB0⟩:=hrel
  have HB:=mkA (show Below w.heap.size w wr from ((Below.refl w.heap.size w).alloc (Nat.le_refl _) _).trans (by rw [← HW0.out];exact HB0.out.mono (by rw [HWS.out];omega)))
  have hps:ps.length≤140737488355000:=Nat.le_trans (keyL_many ps) HBG.out
  by_cases hlt:k < ps.length
  ·
   obtain ⟨ad,rfl,hcell⟩:=Kd.at_string (Kd.C_below HR.out HB.out) (k:Int) (by omega) (by omega)
   have hp:rdOf ByteArray.empty ps (k:Int)=ps[k]:=by simp [rdOf,hlt]
   rw [hp,show ((k:Int)).toNat=k from by omega] at hcell
   have i0:(0:Int)≤(k:Int):=by omega
   have i1:(k:Int) < (ps.length:Int):=by omega
   have ht1:(k:Int).toNat=k:=by omega
   generalize hpk:ps[k]=p at hcell
   have HT:=mkA (show keyL (ps.take (k+1))=keyL (ps.take k)++partB p by rw [keyL_take ps k hlt,hpk])
   have HL:=mkA (Nat.le_trans (keyL_take_le ps (k+1)) HBG.out)
   have HLT:=mkA hlt
   clear hpk hp hlt
   have HL4:=mkA (show (keyL (ps.take k)).length+(len4 p.size).length < 140737488355328 by have:=HL.out;rw [HT.out,List.length_append,partB,List.length_append] at this;omega)
   have HL5:=mkA (show (keyL (ps.take k)++len4 p.size).length+p.size≤140737488355328 by have:=HL.out;rw [HT.out,List.length_append,partB,List.length_append,bytesOf_length] at this;rw [List.length_append];omega)
   have HB2:=mkA (fun o:Obj=>(HB0.out.alloc HB0.out.size o))
   have HS2:=mkA (fun o:Obj=>(show W0.heap.size≤(wr.alloc o).heap.size by have:=HB0.out.size;simp;omega))
   go_wp2_with (first|(at_builtin;(with_reducible refine gate_builtin (b:=.append) (xs:=#[.tmp 15,.tmp 27]) rfl ?_);refine Kd.R_append_rows (Kd.int .u8) (w0:=W0) W0.heap.size rfl (.tmp 15) (.tmp 27) 23 5 (.int .u8 0) 1 rfl Tryz.underlying23 info5' rfl (by decide) (by omega) u3 (keyL (ps.take k)) (len4 p.size) (some ⟨wr.heap.size,0,none⟩) 4 4 (fun _=>True) (fun _=>False) rfl rfl ?aO ?aR (fun _ _ h=>h) (fun _ h=>h.elim) ?aF ?aB ?aS ?aL ?_;(case aO=>exact Kd.R_alloc HO.out _);(case aR=>exact four_reads wr p.size);(case aF=>exact fun _ _=>trivial);(case aB=>exact HB2.out _);(case aS=>exact HS2.out _);(case aL=>have:=HL4.out;have h4:(len4 p.size).length=4:=rfl;omega);intro v1 w1 ho hb hg hat;have HO1:=mkA (show Kd.R (Kd.int .u8) 5 w1 W0.heap.size (fun _=>True) v1 (keyL (ps.take k)++len4 p.size) from ho);have HB1:=mkA hb;clear ho hb hg hat)|(at_builtin;refine print_append_str (w0:=W0) W0.heap.size rfl (.tmp 29) (.tmp 30) 23 9 5 rfl Tryz.underlying23 Tryz.underlying9 info5' v1 (keyL (ps.take k)++len4 p.size) p rfl rfl ?aO ?aB ?aS ?aL ?_;(case aO=>exact Kd.own_of_R HO1.out);(case aB=>exact HB1.out);(case aS=>exact HB1.out.size);(case aL=>exact HL5.out);intro v2 w2 ho0 hb hg;have ho:=Kd.R_of_own (h1:=fun _=>rfl) (ok:=fun _=>True) ho0 (fun _ _=>trivial);have HO2:=mkA ho;have HB2:=mkA hb;clear ho0 ho hb hg))
   go_roundw
   case rel=>exact ⟨k+1,HLT.out,by go_num,⟨by rw [HT.out,partB,← List.append_assoc];exact HO2.out⟩,HB2⟩
   case measure=>have:=HLT.out;simp [intOf];omega
  ·
   have hkn:k=ps.length:=by omega
   have HO2:Kd.R (Kd.int .u8) 5 wr W0.heap.size (fun _=>True) u3 (keyL ps):=by have:=HO.out;rwa [hkn,List.take_length] at this
   clear hk hkn
   obtain ⟨inner,hil,hown⟩:=Kd.R_own HO2
   obtain ⟨Ao,co,hv,hco,hC⟩:=Kd.R_reads HO2
   subst hv
   have hcap:co≤9223372036854775807:=by
    rcases hown with ⟨h1,_⟩|⟨g,cap,cur,h1,_,_,_,h2,_⟩
    ·injection h1 with _ _ h1;omega
    ·injection h1 with _ _ h1;rw [h1];exact h2
   have hsum:=sum_calls Ao (keyL ps).length co (keyL ps) wr rfl hco hcap (Nat.le_trans HBG.out (by omega)) (fun hp=>bytes_of_C hC hp)
   have HSM:=mkA hsum
   have hsz:=mkA (show (Tryz.prog.info? 43).map (·.size)=some (u8s (sumP (keyL ps))).size by rw [u8s_size,sumP_len];kernel_rfl)
   have hso:=mkA (show (u8s (List.replicate 32 0)).size=(u8s (sumP (keyL ps))).size by rw [u8s_size,u8s_size,sumP_len,List.length_replicate])
   have hz0:=mkA (fun (w2:World) (hb2:Below W0.heap.size W0 w2)=>show w2.heap[w.heap.size]?=some (.cells (u8s (List.replicate 32 0)) 43 (0,0)) from (hb2.block _ (by rw [HWS.out];omega)).trans (by rw [HW0.out];exact heap_alloc_new _ _))
   have hwb:=mkA (fun (w2:World) (hb2:Below W0.heap.size W0 w2)=>show Below w.heap.size w w2 from ((Below.refl w.heap.size w).alloc (Nat.le_refl _) _).trans (by rw [← HW0.out];exact hb2.mono (by rw [HWS.out];omega)))
   clear hsum hC hown hil hcap hco hps
   go_wp2_with (first|(go_at_call 61;refine HSM.out.mono ?_;rintro e w2 ⟨rfl,hb2⟩;have HB2:=mkA (below_then HB0.out HB0.out.size hb2);clear hb2)|(with_reducible refine wpList_store_row rfl 43 _ _ rfl w.heap.size (u8s (sumP (keyL ps))) rfl rfl 43 _ (hz0.out _ HB2.out) hsz.out hso.out (u8s_one _) ?_))
   exact bodyPost_ret (results_cell_row rfl _ _ w.heap.size 43 (u8s (sumP (keyL ps))) (0,0) _ rfl (setRow_heap _ _ _ _ _ _ (hz0.out _ HB2.out)) Tryz.underlying43 rfl hsz.out) rfl ⟨rfl,below_setRow (hwb.out _ HB2.out) (Nat.le_refl _) _⟩
end Go.Proofs.YtlnmnjbihgaliaaGreat
end
section
open Go.RowKit Go.Proofs.YtlnmnjbihgaliaaGreatW.PrintWords Go.Proofs.YtlnmnjbihgaliaaGreatW.PrintMore Go.Proofs.YtlnmnjbihgaliaaGreatW.PrintLast
namespace Go.Proofs.YtlnmnjbihgaliaaGreat
/-- The first i bytes of four. -/
def putT(n:Int)(i:Nat):List Int:=(List.range i).map fun j=>n / 2 ^ (8 * (3 - j)) % 256
theorem putT_succ(n:Int)(i:Nat):putT n (i+1)=putT n i++[n / 2 ^ (8 * (3 - i)) % 256]:=by simp [putT,List.range_succ]
theorem putT_len(n:Int)(i:Nat):(putT n i).length=i:=by simp [putT]
theorem putT_four(n:Int):putT n 4=len4 n:=by
 simp [putT,len4,List.range_succ]
set_option maxRecDepth 100000 in
set_option maxHeartbeats 4000000 in
theorem put4_calls(v:Value)(l:List Int)(n:Int)(w0 w:World)(hr:Kd.R (Kd.int .u8) 5 w w0.heap.size (fun _=>True) v l)(hb:Below w0.heap.size w0 w)(hl:l.length≤140737488355200)(hn:0≤n):
  Calls Tryz.prog 62 #[v,.int .u64 n,.int .i64 4] w fun e w'=>∃ v',e=.returned v'∧Kd.R (Kd.int .u8) 5 w' w0.heap.size (fun _=>True) v' (l++len4 n)∧Below w0.heap.size w0 w':=by
 have HR:=mkA hr
 have HB:=mkA hb
 have HL:=mkA hl
 clear hr hb hl
 go_enter Tryz.func62,Tryz.ntmps62
 go_wp2
 go_loopw [0,7] (fun v iv wr=>∃ (i:Nat),i≤4∧iv=.int .i64 (3 - (i:Int))∧Aside0 (Kd.R (Kd.int .u8) 5 wr w0.heap.size (fun _=>True) v (l++putT n i))∧Aside0 (Below w0.heap.size w0 wr)) (fun _ iv _=>(intOf iv+1).toNat)
 case atStart=>exact ⟨0,by omega,rfl,⟨by simpa [putT] using HR.out⟩,HB⟩
 case round=>
  clear HR HB
  obtain ⟨i,hi,rfl,HO,HB⟩:=hrel
  by_cases hi4:i < 4
  ·have i1:(0:Int)≤3 - (i:Int):=by omega
   have i2:(i:Int)≤3:=by omega
   have e1:(8 * (3 - (i:Int))).toNat=8 * (3 - i):=by omega
   have i3:(0:Int)≤8 * (3 - (i:Int)):=by omega
   go_wp2_with ((at_builtin;(with_reducible refine gate_builtin (b:=.append) (xs:=#[.tmp 14,.tmp 20]) rfl ?_);refine Kd.R_append (Kd.int .u8) (w0:=w0) w0.heap.size rfl (.tmp 14) (.tmp 20) 23 5 (.int .u8 0) 1 rfl Tryz.underlying23 info5' rfl (by decide) (by omega) u0 (l++putT n i) (n / 2 ^ (8 * (3 - i)) % 256) [.int .u8 (n / 2 ^ (8 * (3 - i)) % 256)] (fun _=>True) (fun _=>False) rfl rfl ?aP (fun _ hk=>hk.elim) ?aF ?aO ?aB ?aS ?aL ?_;(case aP=>exact rfl);(case aF=>exact fun _ _=>trivial);(case aO=>exact HO.out);(case aB=>exact HB.out);(case aS=>exact HB.out.size);(case aL=>have:=HL.out;simp [putT_len];omega);intro v3 w3 ho hb hg hat;have HO3:=mkA ho;have HB3:=mkA hb;clear ho hb hg hat))
   have hi9:=mkA hi4
   clear hi4 i1 i2 e1 i3
   go_roundw
   case rel=>exact ⟨i+1,by have:=hi9.out;omega,by go_num,⟨by rw [putT_succ,← List.append_assoc];exact HO3.out⟩,HB3⟩
   case measure=>have:=hi9.out;simp [intOf];omega
  ·have i1:¬ (0:Int)≤3 - (i:Int):=by omega
   have e8:=mkA (show i=4 by omega)
   go_wp2
   go_ret
   refine ⟨_,rfl,?_,HB.out⟩
   have h:=HO.out
   rw [e8.out,putT_four] at h
   exact h
section
variable {P:Program} {ops:Array Oper} {o:Oper} {a:Act} {Q:Exit→Act→World→Prop} {Kc:Act→World→Prop}
/-- A string appended, as one step of a region that draws. -/
theorem append_str_step{w0 W:World}(base:Nat)(hw:Region.wanted o (yielded ops a.tmps)=true)(s x:Operand)(t u e:TypeId)
  (ho:o.op=.call { callee:=.builtin .append,args:=#[s,x],argTypes:=#[t,u] })
  (ht:P.underlying t=some (.slice e)) (hu:P.underlying u=some .string) (hinfo:(P.info? e).map (fun i=>(i.zero,i.size,i.bytes))=some (some (.int .u8 0),1,1))
  (v:Value) (xs:List Int) (y:ByteArray) (hs:a.eval s=v) (hx:a.eval x=.string y)
  (HO:W.ownsRow base e 1 v xs.length (nums .u8 xs)) (HB:Below base w0 W) (hbase:base≤W.heap.size) (hl:xs.length+y.size≤140737488355328)
  (h:∀ v1 w1,w1.ownsRow base e 1 v1 (xs++bytesOf y).length (nums .u8 (xs++bytesOf y))→Below base w0 w1→W.grownBy w1 v.ownBlock→Kc (a.put o.dst v1) w1) :
  if Region.wanted o (yielded ops a.tmps)=true then Oper.wp P o a W Kc Q else Kc (a.put o.dst undef) W:=by
 obtain ⟨i0,hi,hzz⟩:=Option.map_eq_some_iff.1 hinfo
 simp only [Prod.mk.injEq] at hzz
 obtain ⟨hz0,hz1,hz2⟩:=hzz
 obtain ⟨v',w',hr,h2,h3,h4⟩:=Lib.run_append_own_string (P:=P) W base t u o.type e i0 ht hu hi hz0 hz1 hz2 v xs.length (nums .u8 xs) HO y (by simp only [maxLen];omega) hl hbase
 rw [if_pos hw]
 unfold Oper.wp execOp
 simp only [ho,resolve,invoke,builtin,Sem.run_bind,Sem.run_pure,Result.andThen_ok,List.map_toArray,List.map_cons,List.map_nil,hs,hx,hr]
 have hl2:(xs++bytesOf y).length=xs.length+y.size:=by rw [List.length_append,bytesOf_length]
 have hc:nums .u8 (xs++bytesOf y)=nums .u8 xs++Lib.strCells y:=by
  rw [nums_append]
  congr 1
  simp [nums,bytesOf,Lib.strCells]
 exact h v' w' (by rw [hl2,hc];exact h2) (HB.grown h3 hbase (own_base HO)) h3
end
set_option maxRecDepth 100000 in
set_option maxHeartbeats 4000000 in
theorem refkey_calls(A:Option Addr)(c:Nat)(ps:List ByteArray)(w:World)(hr:Kd.C Kd.string w A ps.length ps)(hc:ps.length≤c)(hbig:(keyL ps).length≤140737488355000):
  Calls Tryz.prog 37 #[.slice A ps.length c] w fun e w'=>e=.returned (.agg (u8s (sumR (keyL ps))))∧Below w.heap.size w w':=by
 have HR:=mkA hr
 have HBG:=mkA hbig
 clear hr hbig
 go_enter Tryz.func37,Tryz.ntmps37
 go_wp2
 obtain ⟨W0,hW0⟩:∃ W0,W0=w.alloc (.cells (u8s (List.replicate 32 0)) 43):=⟨_,rfl⟩
 have HW0:=mkA hW0
 have HWS:=mkA (show W0.heap.size=w.heap.size+1 by rw [hW0];simp)
 clear hW0
 go_loopw [3,4] (fun v i wr=>∃ (k:Nat),k≤ps.length∧i=.int .i64 k∧Aside0 (Kd.R (Kd.int .u8) 5 wr W0.heap.size (fun _=>True) v (keyL (ps.take k)))∧Aside0 (Below W0.heap.size W0 wr)) (fun _ i _=>ps.length - (intOf i).toNat)
 case atStart=>exact ⟨0,Nat.zero_le _,rfl,⟨Kd.R_nil _ _ _ _ _⟩,⟨by rw [HW0.out];exact (congrArg (fun z=>Below _ _ (w.alloc (Obj.cells z 43))) (show u8s (List.replicate 32 0)=_ by kernel_rfl)).mp (Below.refl _ _)⟩⟩
 case round=>
  obtain ⟨k,hk,rfl,HO,HB0⟩:=hrel
  have HB:=mkA (show Below w.heap.size w wr from ((Below.refl w.heap.size w).alloc (Nat.le_refl _) _).trans (by rw [← HW0.out];exact HB0.out.mono (by rw [HWS.out];omega)))
  have hps:ps.length≤140737488355000:=Nat.le_trans (keyL_many ps) HBG.out
  by_cases hlt:k < ps.length
  ·
   obtain ⟨ad,rfl,hcell⟩:=Kd.at_string HR.out (k:Int) (by omega) (by omega)
   have hp:rdOf ByteArray.empty ps (k:Int)=ps[k]:=by simp [rdOf,hlt]
   rw [hp,show ((k:Int)).toNat=k from by omega] at hcell
   have i0:(0:Int)≤(k:Int):=by omega
   have i1:(k:Int) < (ps.length:Int):=by omega
   have ht1:(k:Int).toNat=k:=by omega
   generalize hpk:ps[k]=p at hcell
   have HT:=mkA (show keyL (ps.take (k+1))=keyL (ps.take k)++partB p by rw [keyL_take ps k hlt,hpk])
   have HL:=mkA (Nat.le_trans (keyL_take_le ps (k+1)) HBG.out)
   have HLT:=mkA hlt
   have HL4:=mkA (show (keyL (ps.take k)).length≤140737488355200 by have:=HL.out;rw [HT.out,List.length_append,partB,List.length_append] at this;omega)
   have HL5:=mkA (show (keyL (ps.take k)++len4 p.size).length+p.size≤140737488355328 by have:=HL.out;rw [HT.out,List.length_append,partB,List.length_append,bytesOf_length] at this;rw [List.length_append];omega)
   have HCL:=mkA (fun (W:World) (hb:Below W0.heap.size W0 W)=>show W.cell? (ad.add k)=some (.string p) from by
    have hlt2:=World.block_lt_of_cell? _ _ hcell
    have hbb:Below w.heap.size w W:=((Below.refl w.heap.size w).alloc (Nat.le_refl _) _).trans (by rw [← HW0.out];exact hb.mono (by rw [HWS.out];omega))
    exact (hbb.cell hlt2).trans hcell)
   have hu:IntKind.u64.wrap (p.size:Int)=p.size:=IntWalk.u64_in _ (by have:=HL5.out;omega)
   have HPUT:=mkA (fun (W:World) (h1:Kd.R (Kd.int .u8) 5 W W0.heap.size (fun _=>True) u3 (keyL (ps.take k))) (h2:Below W0.heap.size W0 W)=>show Calls Tryz.prog 62 #[u3,.int .u64 (IntKind.u64.wrap (p.size:Int)),.int .i64 4] W _ from by rw [hu];exact put4_calls u3 (keyL (ps.take k)) (p.size:Int) W0 W h1 h2 HL4.out (Int.natCast_nonneg _))
   clear hpk hp hlt hcell HR hu
   go_upto_region 5 with (fail)
   refine start_ (n:=14) (S:=fun w'=>w'.cell? (ad.add k)=some (.string p)) (ds:=[]) #[qf,qf,qf,qf,qf,qf,qf,qf,qf,qf,qf,qf,qf,qf] (by kernel_rfl) rfl rfl (HCL.out _ HB0.out.drew) (fun hHeld=>?_)
   refine pure_ (i:=0) (N:=some 11) (v:=?_) (a':=?_) #[qt,qf,qf,qf,qf,qf,qf,qf,qf,qf,qf,qf,qf,qf] rfl rfl (by kernel_rfl) (fun _ _ _ h=>h) (Or.inl ⟨by rfl,?_⟩) ?_ ?_
   rotate_left
   ·intro w'
    go_simp
    with_reducible rfl
   rotate_left
   ·simp only [Act.put,sAx,sBx,sCx,i64_w,i32_w]
    rfl
   refine pure_ (i:=1) (N:=some 12) (v:=?_) (a':=?_) #[qt,qt,qf,qf,qf,qf,qf,qf,qf,qf,qf,qf,qf,qf] rfl rfl (by kernel_rfl) (fun _ _ _ h=>h) (Or.inl ⟨by rfl,?_⟩) ?_ ?_
   rotate_left
   ·intro w'
    go_simp
    with_reducible rfl
   rotate_left
   ·simp only [Act.put,sAx,sBx,sCx,i64_w,i32_w]
    rfl
   refine pure_ (i:=2) (N:=some 13) (v:=?_) (a':=?_) #[qt,qt,qt,qf,qf,qf,qf,qf,qf,qf,qf,qf,qf,qf] rfl rfl (by kernel_rfl) (fun _ _ _ h=>h) (Or.inl ⟨by rfl,?_⟩) ?_ ?_
   rotate_left
   ·intro w'
    go_simp
    with_reducible rfl
   rotate_left
   ·simp only [Act.put,sAx,sBx,sCx,i64_w,i32_w]
    rfl
   refine pure_ (i:=3) (N:=some 14) (v:=?_) (a':=?_) #[qt,qt,qt,qt,qf,qf,qf,qf,qf,qf,qf,qf,qf,qf] rfl rfl (by kernel_rfl) (fun _ _ _ h=>h) (Or.inl ⟨by rfl,?_⟩) ?_ ?_
   rotate_left
   ·intro w'
    go_simp
    with_reducible rfl
   rotate_left
   ·simp only [Act.put,sAx,sBx,sCx,i64_w,i32_w]
    rfl
   refine pure_ (i:=8) (N:=some 19) (v:=?_) (a':=?_) #[qt,qt,qt,qt,qf,qf,qf,qf,qt,qf,qf,qf,qf,qf] rfl rfl (by kernel_rfl) (fun _ _ _ h=>h) (Or.inl ⟨by rfl,?_⟩) ?_ ?_
   rotate_left
   ·intro w'
    go_simp
    with_reducible rfl
   rotate_left
   ·simp only [Act.put,sAx,sBx,sCx,i64_w,i32_w]
    rfl
   refine pure_ (i:=9) (N:=some 20) (v:=?_) (a':=?_) #[qt,qt,qt,qt,qf,qf,qf,qf,qt,qt,qf,qf,qf,qf] rfl rfl (by kernel_rfl) (fun _ _ _ h=>h) (Or.inl ⟨by rfl,?_⟩) ?_ ?_
   rotate_left
   ·intro w'
    go_simp
    with_reducible rfl
   rotate_left
   ·simp only [Act.put,sAx,sBx,sCx,i64_w,i32_w]
    rfl
   refine pure_ (i:=10) (N:=some 21) (v:=?_) (a':=?_) #[qt,qt,qt,qt,qf,qf,qf,qf,qt,qt,qt,qf,qf,qf] rfl rfl (by kernel_rfl) (fun _ _ _ h=>h) (Or.inl ⟨by rfl,?_⟩) ?_ ?_
   rotate_left
   ·intro w'
    go_simp
    with_reducible rfl
   rotate_left
   ·simp only [Act.put,sAx,sBx,sCx,i64_w,i32_w]
    rfl
   refine take_ (i:=4) (N:=some 15) (v:=?_) (a':=?_) #[qt,qt,qt,qt,qt,qf,qf,qf,qt,qt,qt,qf,qf,qf] rfl rfl (by kernel_rfl) (fun _ _ _ h=>h) (Or.inl ⟨by rfl,?_⟩) hHeld ?_ ?_
   rotate_left
   ·intro w' s0
    go_simp
    with_reducible rfl
   rotate_left
   ·simp only [Act.put,sAx,sBx,sCx,i64_w,i32_w]
    rfl
   refine pure_ (i:=5) (N:=some 16) (v:=?_) (a':=?_) #[qt,qt,qt,qt,qt,qt,qf,qf,qt,qt,qt,qf,qf,qf] rfl rfl (by kernel_rfl) (fun _ _ _ h=>h) (Or.inl ⟨by rfl,?_⟩) ?_ ?_
   rotate_left
   ·intro w'
    go_simp
    with_reducible rfl
   rotate_left
   ·simp only [Act.put,sAx,sBx,sCx,i64_w,i32_w]
    rfl
   refine pure_ (i:=6) (N:=some 17) (v:=?_) (a':=?_) #[qt,qt,qt,qt,qt,qt,qt,qf,qt,qt,qt,qf,qf,qf] rfl rfl (by kernel_rfl) (fun _ _ _ h=>h) (Or.inl ⟨by rfl,?_⟩) ?_ ?_
   rotate_left
   ·intro w'
    go_simp
    with_reducible rfl
   rotate_left
   ·simp only [Act.put,sAx,sBx,sCx,i64_w,i32_w]
    rfl
   refine take_ (i:=11) (N:=some 22) (v:=?_) (a':=?_) #[qt,qt,qt,qt,qt,qt,qt,qf,qt,qt,qt,qt,qf,qf] rfl rfl (by kernel_rfl) (fun _ _ _ h=>h) (Or.inl ⟨by rfl,?_⟩) hHeld ?_ ?_
   rotate_left
   ·intro w' s0
    go_simp
    with_reducible rfl
   rotate_left
   ·simp only [Act.put,sAx,sBx,sCx,i64_w,i32_w]
    rfl
   refine one_ (i:=7) (N:=some 18) #[qt,qt,qt,qt,qt,qt,qt,qt,qt,qt,qt,qt,qf,qf] rfl rfl (by kernel_rfl) (by decide) (fun K hK=>?_)
   refine goes_ Tryz.func62 (by kernel_rfl) rfl #[u3,.int .u64 (IntKind.u64.wrap (p.size:Int)),.int .i64 4] (by rfl) rfl rfl (by simp only [List.map_toArray,List.map_cons,List.map_nil];rfl) ?_
   with_reducible refine ((HPUT.out _ (Kd.R_drew HO.out) (HB0.out.drew))).mono ?_
   rintro e w3 ⟨v1,rfl,ho,hb⟩
   refine ⟨_,rfl,?_⟩
   have HO1:=mkA ho
   have HB1:=mkA hb
   clear ho hb
   refine hK.out _ _ (HCL.out _ HB1.out) (fun hHeld=>?_)
   clear hK K
   refine norm_ (a':=?_) ?_ ?_
   rotate_left
   ·show Act.put _ (some 18) _=_
    simp only [Act.put,sAx,sBx,sCx,i64_w,i32_w]
    rfl
   refine one_ (i:=12) (N:=some 23) #[qt,qt,qt,qt,qt,qt,qt,qt,qt,qt,qt,qt,qt,qf] rfl rfl (by kernel_rfl) (by decide) (fun K hK=>?_)
   refine append_str_step (w0:=W0) W0.heap.size (by rfl) (.tmp 18) (.tmp 22) 23 9 5 rfl Tryz.underlying23 Tryz.underlying9 info5' v1 (keyL (ps.take k)++len4 p.size) p rfl rfl (Kd.own_of_R HO1.out) HB1.out HB1.out.size HL5.out ?_
   intro v2 w2 ho0 hb hg
   have ho:=Kd.R_of_own (h1:=fun _=>rfl) (ok:=fun _=>True) ho0 (fun _ _=>trivial)
   have HO2:=mkA ho
   have HB2:=mkA hb
   clear ho0 ho hb hg
   refine hK.out _ _ (HCL.out _ HB2.out) (fun hHeld=>?_)
   clear hK K
   refine norm_ (a':=?_) ?_ ?_
   rotate_left
   ·show Act.put _ (some 23) _=_
    simp only [Act.put,sAx,sBx,sCx,i64_w,i32_w]
    rfl
   refine pure_ (i:=13) (N:=some 3) (v:=?_) (a':=?_) #[qt,qt,qt,qt,qt,qt,qt,qt,qt,qt,qt,qt,qt,qt] rfl rfl (by kernel_rfl) (fun _ _ _ h=>h) (Or.inl ⟨by rfl,?_⟩) ?_ ?_
   rotate_left
   ·intro w'
    go_simp
    with_reducible rfl
   rotate_left
   ·simp only [Act.put,sAx,sBx,sCx,i64_w,i32_w]
    rfl
   refine done_ (by kernel_rfl) ?_
   go_wp2
   go_roundw
   case rel=>exact ⟨k+1,HLT.out,by go_num,⟨by rw [HT.out,partB,← List.append_assoc];exact HO2.out⟩,HB2⟩
   case measure=>have:=HLT.out;simp [intOf];omega
  ·
   have hkn:k=ps.length:=by omega
   have HO2:Kd.R (Kd.int .u8) 5 wr W0.heap.size (fun _=>True) u3 (keyL ps):=by have:=HO.out;rwa [hkn,List.take_length] at this
   clear hk hkn
   obtain ⟨Ao,co,hv,hco,hC⟩:=Kd.R_reads HO2
   subst hv
   have hsum:=refsum_calls Ao co (keyL ps) wr hC hco HBG.out
   have HSM:=mkA hsum
   have hsz:=mkA (show (Tryz.prog.info? 43).map (·.size)=some (u8s (sumR (keyL ps))).size by rw [u8s_size,← sums_eq,sumP_len];kernel_rfl)
   have hso:=mkA (show (u8s (List.replicate 32 0)).size=(u8s (sumR (keyL ps))).size by rw [u8s_size,u8s_size,← sums_eq,sumP_len,List.length_replicate])
   have hz0:=mkA (fun (w2:World) (hb2:Below W0.heap.size W0 w2)=>show w2.heap[w.heap.size]?=some (.cells (u8s (List.replicate 32 0)) 43 (0,0)) from (hb2.block _ (by rw [HWS.out];omega)).trans (by rw [HW0.out];exact heap_alloc_new _ _))
   have hwb:=mkA (fun (w2:World) (hb2:Below W0.heap.size W0 w2)=>show Below w.heap.size w w2 from ((Below.refl w.heap.size w).alloc (Nat.le_refl _) _).trans (by rw [← HW0.out];exact hb2.mono (by rw [HWS.out];omega)))
   clear hsum hC hco hps
   go_wp2_with (first|(go_at_call 63;refine HSM.out.mono ?_;rintro e w2 ⟨rfl,hb2⟩;have HB2:=mkA (below_then HB0.out HB0.out.size hb2);clear hb2)|(with_reducible refine wpList_store_row rfl 43 _ _ rfl w.heap.size (u8s (sumR (keyL ps))) rfl rfl 43 _ (hz0.out _ HB2.out) hsz.out hso.out (u8s_one _) ?_))
   exact bodyPost_ret (results_cell_row rfl _ _ w.heap.size 43 (u8s (sumR (keyL ps))) (0,0) _ rfl (setRow_heap _ _ _ _ _ _ (hz0.out _ HB2.out)) Tryz.underlying43 rfl hsz.out) rfl ⟨rfl,below_setRow (hwb.out _ HB2.out) (Nat.le_refl _) _⟩
end Go.Proofs.YtlnmnjbihgaliaaGreat
end
