import Derived.Test.YtlnmnjbihgaliaaGreatRowsX
import Derived.Test.YtlnmnjbihgaliaaGreatGVary
import Derived.Test.YtlnmnjbihgaliaaGreatGMay
import Derived.Test.YtlnmnjbihgaliaaGreatGWd
import Derived.Test.YtlnmnjbihgaliaaGreatPr14
import Derived.ArgAppend
set_option linter.unusedVariables false
set_option linter.unusedSimpArgs false
open Go.RowKit Go.Proofs.YtlnmnjbihgaliaaGreatW.PrintWords Go.Proofs.YtlnmnjbihgaliaaGreatW.PrintMore Go.Proofs.YtlnmnjbihgaliaaGreatW.PrintLast
namespace Go.Proofs.YtlnmnjbihgaliaaGreat.Pr
def insL(x:ByteArray):List ByteArray→List ByteArray
 |[]=>[x]
 |y :: t=>if Op.bytesLess y.toList x.toList=true then y :: insL x t else if (y.toList == x.toList)=true then y :: t else x :: y :: t
def insAll(P:List ByteArray):List ByteArray:=P.foldl (fun acc s=>insL (lowS s) acc) []
def namesR(P:List ByteArray):List ByteArray:=if P.any isStar=true then [] else insAll P
theorem namesR_star{P:List ByteArray}(h:P.any isStar=true):namesR P=[]:=if_pos h
theorem namesR_none{P:List ByteArray}(h:P.any isStar=false):namesR P=insAll P:=if_neg (by rw [h];decide)
theorem insL_at(x:ByteArray):∀ (L:List ByteArray) (b:Nat),b≤L.length→(∀ i (hi:i < L.length),i < b→Op.bytesLess L[i].toList x.toList=true)→insL x L=L.take b++insL x (L.drop b)
 |L,0,_,_=>rfl
 |[],b+1,h,_=>by simp at h
 |y :: t,b+1,h,hl=>by
  have h0:=hl 0 (by simp) (by omega)
  simp only [List.getElem_cons_zero] at h0
  have ih:=insL_at x t b (by simpa using h) (fun i hi hb=>by
   have:=hl (i+1) (by simpa using hi) (by omega)
   simpa using this)
  show (if Op.bytesLess y.toList x.toList=true then y :: insL x t else if (y.toList == x.toList)=true then y :: t else x :: y :: t)=_
  rw [if_pos h0,ih]
  rfl
theorem insAll_take(P:List ByteArray)(j:Nat)(hj:j < P.length):insAll (P.take (j+1))=insL (lowS P[j]) (insAll (P.take j)):=by
 unfold insAll
 rw [List.take_succ_eq_append_getElem hj,List.foldl_append]
 rfl
theorem insL_in(x:ByteArray)(L:List ByteArray)(b:Nat)(so:ByteArray)(hb:b < L.length)(hso:L[b]=so)(hl:∀ i (hi:i < L.length),i < b→Op.bytesLess L[i].toList x.toList=true)(h1:Op.bytesLess so.toList x.toList=false)(h2:(so.toList == x.toList)=false):L.take b++([x]++L.drop b)=insL x L:=by
 rw [insL_at x L b (by omega) hl,List.drop_eq_getElem_cons hb,hso]
 show _=_++(if Op.bytesLess so.toList x.toList=true then so :: insL x (L.drop (b+1)) else if (so.toList == x.toList)=true then so :: L.drop (b+1) else x :: so :: L.drop (b+1))
 rw [if_neg (by rw [h1];decide),if_neg (by rw [h2];decide)]
 rfl
theorem insL_eq(x:ByteArray)(L:List ByteArray)(b:Nat)(so:ByteArray)(hb:b < L.length)(hso:L[b]=so)(hl:∀ i (hi:i < L.length),i < b→Op.bytesLess L[i].toList x.toList=true)(h1:Op.bytesLess so.toList x.toList=false)(h2:(so.toList == x.toList)=true):L=insL x L:=by
 rw [insL_at x L b (by omega) hl,List.drop_eq_getElem_cons hb,hso]
 show _=_++(if Op.bytesLess so.toList x.toList=true then so :: insL x (L.drop (b+1)) else if (so.toList == x.toList)=true then so :: L.drop (b+1) else x :: so :: L.drop (b+1))
 rw [if_neg (by rw [h1];decide),if_pos h2,← hso,← List.drop_eq_getElem_cons hb,List.take_append_drop]
theorem insL_end(x:ByteArray)(L:List ByteArray)(hl:∀ i (hi:i < L.length),i < L.length→Op.bytesLess L[i].toList x.toList=true):L.take L.length++([x]++L.drop L.length)=insL x L:=by
 rw [insL_at x L L.length (Nat.le_refl _) hl,List.drop_length]
 rfl
theorem sub_reads{W:World}{ad:Addr}{n b:Nat}{L:List ByteArray}(h:Kd.C Kd.string W (some ad) n L)(hb:b≤n):Kd.C Kd.string W (some (ad.add b)) (n - b) (L.drop b):=by
 obtain ⟨r1,r2,r3⟩:=Kd.reads_of_C (enc:=Value.string) (d:=ByteArray.empty) (h1:=fun _=>rfl) h
 refine Kd.C_of_reads (enc:=Value.string) (d:=ByteArray.empty) (h1:=fun _=>rfl) ⟨by rw [List.length_drop,r1],by omega,fun hp=>⟨_,rfl,fun j hj=>?_⟩⟩
 obtain ⟨a,ha,hc⟩:=r3 (by omega)
 cases ha
 rw [Addr.add_add,hc (b+j) (by omega)]
 simp [List.getD_eq_getElem?_getD]
theorem grows_step{ops:Array Oper}{o:Oper}{a:Act}{Q:Exit→Act→World→Prop}{Kc:Act→World→Prop}{w:World}(hw:Region.wanted o (yielded ops a.tmps)=true)(s x:Operand)(t:TypeId)(hop:o.op=Op.call { callee:=Callee.builtin Builtin.append,args:=#[s,x],argTypes:=#[t,t] })
  (e:TypeId) (h1:Tryz.prog.underlying t=some (.slice e)) (hinfo:(Tryz.prog.info? e).map (fun i=>(i.zero,i.size,i.bytes))=some (some (.string ⟨#[]⟩),1,16))
  (b:Addr) (n cap:Nat) (outL:List ByteArray) (hnl:n≤outL.length) (hs:a.eval s=.slice (some b) n cap) (holds:∀ j:Nat,j < outL.length→w.cell? (b.add j)=some (.string (outL.getD j ByteArray.empty)))
  (A:Option Addr) (m c:Nat) (X:List ByteArray) (hx:a.eval x=.slice A m c) (hC:Kd.C Kd.string w A m X) (hcn:n≤cap) (hfull:cap < n+m) (b2:n+m≤100000)
  (hK:∀ v' w',w'.ownsRow w.heap.size e 1 v' (n+m) (encs Value.string (outL.take n++X))→w.grownBy w' none→Kc (a.put o.dst v') w') :
  if Region.wanted o (yielded ops a.tmps)=true then Oper.wp Tryz.prog o a w Kc Q else Kc (a.put o.dst undef) w:=by
 obtain ⟨i0,hi,hzz⟩:=Option.map_eq_some_iff.1 hinfo
 simp only [Prod.mk.injEq] at hzz
 obtain ⟨hz0,hz1,hz2⟩:=hzz
 obtain ⟨r1,_,r3⟩:=Kd.reads_of_C (enc:=Value.string) (d:=ByteArray.empty) (h1:=fun _=>rfl) hC
 obtain ⟨ad,rfl,hc⟩:=r3 (by omega)
 have tk:(outL.take n).length=n:=by rw [List.length_take];omega
 obtain ⟨v1,w1,hr1,o1,g1⟩:=run_append_arg_grows (P:=Tryz.prog) w t o.type e i0 (.string ⟨#[]⟩) 1 16 h1 hi hz0 hz1 hz2 rfl (by omega) b n cap (encs Value.string (outL.take n)) (by rw [encs,List.length_map,tk,Nat.mul_one]) (fun j u hu=>by
   have hj:j < n:=by have:=(List.getElem?_eq_some_iff.1 hu).1;rw [encs,List.length_map,tk] at this;exact this
   rw [holds j (by omega),← hu]
   have hjl:j < outL.length:=by omega
   simp [encs,List.getElem?_take,hj,List.getD_eq_getElem?_getD,List.getElem?_eq_getElem hjl]) ad m c (encs Value.string X) (by simp [encs,r1]) (fun j u hu=>by
   have hj:j < m:=by have:=(List.getElem?_eq_some_iff.1 hu).1;simpa [encs,r1] using this
   rw [hc j hj,← hu]
   have hjl:j < X.length:=by omega
   simp [encs,List.getD_eq_getElem?_getD,List.getElem?_eq_getElem hjl]) hfull (by simp only [maxLen];omega) (by omega)
 rw [if_pos hw]
 unfold Oper.wp execOp
 simp only [hop,resolve,invoke,builtin,Sem.run_bind,Sem.run_pure,Result.andThen_ok,List.map_toArray,List.map_cons,List.map_nil,hs,hx,hr1]
 refine hK v1 w1 ?_ g1
 rw [show encs Value.string (outL.take n++X)=encs Value.string (outL.take n)++encs Value.string X from by simp [encs]]
 exact o1
set_option maxRecDepth 100000 in
set_option maxHeartbeats 8000000 in
theorem names13_calls(k:Nat)(st:Int)(rs:ByteArray)(A:Option Addr)(c:Nat)(l:List S41)(v3:Value)(hv3:v3.oneCell'=true)(P:List ByteArray)(w:World)(hC:Kd.C k41 w A l.length l)(hc:l.length≤c)
  (h:ambryref10_List.f k l ⟨#[86,97,114,121]⟩=some P) (hP:P.length≤20000) (hsz:∀ p∈P,p.size≤300) :
  Calls Tryz.prog 32 #[.agg #[.int .i64 st,.string rs,.slice A l.length c,v3]] w fun e w'=>∃ v:Value,e=.returned (.tuple #[v,.bool (P.any isStar)])∧Kd.R Kd.string 9 w' w.heap.size (fun _=>True) v (namesR P)∧Below w.heap.size w w':=by
 have HL:=mkA (fun W hb=>ambryref10_List.calls k A c l _ P W (Kd.C_below hC hb) hc h)
 have HN:=mkA hP
 have HS:=mkA hsz
 clear h hC hc hP hsz
 go_enter Tryz.func32,Tryz.ntmps32
 go_wp2_with (first|(go_at_call 55;refine (HL.out _ (below_alloc (Below.refl _ _) _)).mono ?_;rintro e w3 ⟨v3,rfl,hr3,hb3⟩;have HR3:=mkA hr3;have HB3:=mkA hb3;clear hb3;obtain ⟨A3,c3,rfl,_,_⟩:=Kd.R_reads hr3;clear hr3)|fail)
 have hX3:Below w.heap.size w w3:=((Below.refl w.heap.size w).alloc (Nat.le_refl _) _).trans (HB3.out.mono (by simp))
 have HX3:=mkA hX3
 obtain ⟨_,hc3,hC⟩:=Kd.R_reads' HR3.out
 have HC3:=mkA hC
 clear hX3 hC HR3 HB3 HL
 go_loopw [5,6] (fun v i wr=>∃ (j:Nat) (outL:List ByteArray),j≤P.length∧i=.int .i64 j∧Aside0 ((P.take j).any isStar=false)∧Aside0 (outL.length≤j)∧Aside0 (outL=insAll (P.take j))∧Aside0 (Kd.R Kd.string 9 wr w3.heap.size (fun _=>True) v outL)∧Aside0 (Below w3.heap.size w3 wr)) (fun _ i _=>P.length - (intOf i).toNat)
 case atStart=>exact ⟨0,[],Nat.zero_le _,rfl,⟨rfl⟩,⟨Nat.le_refl _⟩,⟨rfl⟩,⟨Kd.R_nil _ _ _ _ _⟩,⟨Below.refl _ _⟩⟩
 case round=>
  obtain ⟨j,outL,hj,rfl,HST,HOL,HEQ,HO,HB⟩:=hrel
  by_cases hlt:j < P.length
  ·obtain ⟨ad,rfl,hcell⟩:=Kd.at_string (Kd.C_below HC3.out HB.out) (j:Int) (by omega) (by omega)
   have hp:rdOf ByteArray.empty P (j:Int)=P[j]:=by simp [rdOf,hlt]
   rw [hp,show ((j:Int)).toNat=j from by omega] at hcell
   have i0:(0:Int)≤(j:Int):=by omega
   have i1:(j:Int) < (P.length:Int):=by omega
   have ht1:(j:Int).toNat=j:=by omega
   have hfit:=HS.out _ (List.getElem_mem hlt)
   have hat:=any_take P j hlt
   have hall:isStar P[j]=true→P.any isStar=true:=fun hs=>List.any_eq_true.2 ⟨P[j],List.getElem_mem hlt,hs⟩
   have hins:=insAll_take P j hlt
   generalize P[j]=s at hcell hfit hat hall hins
   have HINS:=mkA hins
   clear hins
   have HSM:=mkA (fun W=>Low_calls s W (Nat.le_trans hfit (by omega)))
   have HAT:=mkA hat
   have HLT:=mkA hlt
   have HALL:=mkA hall
   clear hp hlt hfit hat hall
   cases hs:isStar s with
   |true=>
    have hsb:(s.toList == [42])=true:=hs
    have HR:=mkA (HALL.out hs)
    go_wp2
    go_ret2
    exact ⟨_,by first|(rw [HR.out];rfl)|rfl,by rw [namesR_star HR.out];exact Kd.R_nil _ _ _ _ _,HX3.out.trans (HB.out.mono HX3.out.size)⟩
   |false=>
    have hsb:(s.toList == [42])=false:=hs
    have HS0:=mkA hs
    go_wp2_with (first|(go_at_call 38;refine (HSM.out _).mono ?_;rintro e w5 ⟨rfl,hb5⟩;have HO5:=mkA (Kd.R_below HO.out hb5);have HB5:=mkA (below_then HB.out HB.out.size hb5);clear hb5)|fail)
    obtain ⟨A5,c5,rfl⟩:=Kd.R_slice HO5.out
    obtain ⟨_,hc5,hC5⟩:=Kd.R_reads' HO5.out
    have HC5:=mkA hC5
    have hn5:outL.length≤20000:=Nat.le_trans HOL.out (Nat.le_trans hj HN.out)
    clear hC5
    go_loopw [8] (fun a wr2=>∃ (b:Nat),b≤outL.length∧a=.int .i64 b∧Aside0 (∀ i (hi:i < outL.length),i < b→Op.bytesLess outL[i].toList (lowS s).toList=true)∧wr2=w5) (fun a _=>outL.length - (intOf a).toNat)
    case atStart=>exact ⟨0,Nat.zero_le _,rfl,⟨fun i hi h=>absurd h (Nat.not_lt_zero _)⟩,rfl⟩
    case round=>
     obtain ⟨b,hb,rfl,HLS,rfl⟩:=hrel
     by_cases hlt2:b < outL.length
     ·obtain ⟨ad5,had5,hcell5⟩:=Kd.at_string HC5.out (b:Int) (by omega) (by omega)
      subst had5
      have hso:outL[b]=rdOf ByteArray.empty outL (b:Int):=by simp [rdOf,hlt2]
      generalize rdOf ByteArray.empty outL (b:Int)=so at hcell5 hso
      have HSO:=mkA hso
      have HLT2:=mkA hlt2
      clear hso
      rw [show ((b:Int)).toNat=b from by omega] at hcell5
      have k0:(0:Int)≤(b:Int):=by omega
      have k1:(b:Int) < (outL.length:Int):=by omega
      have kt:(b:Int).toNat=b:=by omega
      go_wp2
      ·rename_i hls
       exact ⟨⟨b+1,by omega,by go_num,⟨fun i hi h=>by rcases Nat.lt_or_eq_of_le (Nat.le_of_lt_succ h) with h|rfl;exact HLS.out i hi h;rw [HSO.out];exact hls⟩,trivial⟩,by simp [intOf];omega⟩
      ·have hor:((b:Int) == (outL.length:Int))=true∨(!so.toList == (lowS s).toList)=true:=by assumption
       have HFIN:=mkA (insL_in _ _ b so HLT2.out HSO.out HLS.out (by assumption) (by
        rcases hor with h|h
        ·have:=beq_iff_eq.1 h;omega
        ·simpa using h))
       clear hor
       go_upto_region 13 with (fail)
       have HN5:=mkA hn5
       have hbc:b≤c5:=by omega
       have hne:¬ c5=b:=by omega
       have HBN:=mkA hb
       have HSUB0:=mkA (sub_reads HC5.out hb)
       have HCW:=mkA (fun W (h:Below wr.heap.size wr W)=>Kd.C_below HC5.out h)
       obtain ⟨wd,hwd,HBd⟩:∃ wd,wd=wr.drew∧Aside0 (Below w3.heap.size w3 wd):=⟨_,rfl,⟨pw_below_drewN HB5.out 1⟩⟩
       have HDR:=mkA (show Below wr.heap.size wr wd from by rw [hwd];exact pw_below_drewN (Below.refl _ _) 1)
       have HSUB:=mkA (sub_reads (HCW.out _ HDR.out) hb)
       have HOLD:=mkA (fun (W:World) (hg:(wd.alloc (.cells #[.string (lowS s)] 9)).grownBy W (Value.slice (some ⟨wd.heap.size,0,none⟩) 1 1).ownBlock)=>show ∀ j:Nat,j < outL.length→W.cell? (ad5.add j)=some (.string (outL.getD j ByteArray.empty)) from fun j hj=>by
        obtain ⟨r1,_,r3⟩:=Kd.reads_of_C (enc:=Value.string) (d:=ByteArray.empty) (h1:=fun _=>rfl) (HCW.out _ HDR.out)
        obtain ⟨a,ha,hc⟩:=r3 (by omega)
        cases ha
        have hcj:=hc j hj
        have hblk:ad5.block < wd.heap.size:=Kd.C_lt (HCW.out _ HDR.out) (by omega) (by decide)
        have hb2:(ad5.add j).block=ad5.block:=by unfold Addr.add;split <;> rfl
        rw [World.grownBy.cell_far hg _ (by rw [hb2];simp;omega) (by rw [hb2];simp [Value.ownBlock];omega)]
        exact (Below.cell ((Below.refl wd.heap.size wd).alloc (Nat.le_refl _) _) (by rw [hb2];exact hblk)).trans hcj)
       have HLIT:=mkA (show Kd.R Kd.string 9 (wd.alloc (.cells #[.string (lowS s)] 9)) w3.heap.size (fun _=>True) (.slice (some ⟨wd.heap.size,0,none⟩) 1 1) [lowS s] from Kd.R_of_own (h1:=fun _=>rfl) (World.ownsRow_lit (base:=w3.heap.size) (e:=9) (size:=1) wd #[.string (lowS s)] 1 HBd.out.size (by decide) (by rfl)) (fun _ _=>trivial))
       refine start_ (n:=12) (S:=fun w'=>True) (ds:=[]) #[qf,qf,qf,qf,qf,qf,qf,qf,qf,qf,qf,qf] (by kernel_rfl) rfl rfl trivial (fun hHeld=>?_)
       rw [← hwd]
       clear hwd hHeld
       have hHeld:True:=trivial
       refine pure_ (i:=0) (N:=some 54) (v:=?_) (a':=?_) #[qt,qf,qf,qf,qf,qf,qf,qf,qf,qf,qf,qf] rfl rfl (by kernel_rfl) (fun _ _ _ h=>h) (Or.inl ⟨by rfl,?_⟩) ?_ ?_
       rotate_left
       ·intro w'
        go_simp
        with_reducible rfl
       rotate_left
       ·simp only [Act.put,sAx,sBx,sCx,i64_w,i32_w]
        rfl
       refine pure_ (i:=1) (N:=some 55) (v:=?_) (a':=?_) #[qt,qt,qf,qf,qf,qf,qf,qf,qf,qf,qf,qf] rfl rfl (by kernel_rfl) (fun _ _ _ h=>h) (Or.inl ⟨by rfl,?_⟩) ?_ ?_
       rotate_left
       ·intro w'
        go_simp
        with_reducible rfl
       rotate_left
       ·simp only [Act.put,sAx,sBx,sCx,i64_w,i32_w]
        rfl
       refine pure_ (i:=2) (N:=some 56) (v:=?_) (a':=?_) #[qt,qt,qt,qf,qf,qf,qf,qf,qf,qf,qf,qf] rfl rfl (by kernel_rfl) (fun _ _ _ h=>h) (Or.inl ⟨by rfl,?_⟩) ?_ ?_
       rotate_left
       ·intro w'
        go_simp
        with_reducible rfl
       rotate_left
       ·simp only [Act.put,sAx,sBx,sCx,i64_w,i32_w]
        rfl
       refine pure_ (i:=3) (N:=some 57) (v:=?_) (a':=?_) #[qt,qt,qt,qt,qf,qf,qf,qf,qf,qf,qf,qf] rfl rfl (by kernel_rfl) (fun _ _ _ h=>h) (Or.inl ⟨by rfl,?_⟩) ?_ ?_
       rotate_left
       ·intro w'
        go_simp
        with_reducible rfl
       rotate_left
       ·simp only [Act.put,sAx,sBx,sCx,i64_w,i32_w]
        rfl
       refine pure_ (i:=4) (N:=some 58) (v:=?_) (a':=?_) #[qt,qt,qt,qt,qt,qf,qf,qf,qf,qf,qf,qf] rfl rfl (by kernel_rfl) (fun _ _ _ h=>h) (Or.inl ⟨by rfl,?_⟩) ?_ ?_
       rotate_left
       ·intro w'
        go_simp
        with_reducible rfl
       rotate_left
       ·simp only [Act.put,sAx,sBx,sCx,i64_w,i32_w]
        rfl
       refine pure_ (i:=6) (N:=some 60) (v:=?_) (a':=?_) #[qt,qt,qt,qt,qt,qf,qt,qf,qf,qf,qf,qf] rfl rfl (by kernel_rfl) (fun _ _ _ h=>h) (Or.inl ⟨by rfl,?_⟩) ?_ ?_
       rotate_left
       ·intro w'
        go_simp
        with_reducible rfl
       rotate_left
       ·simp only [Act.put,sAx,sBx,sCx,i64_w,i32_w]
        rfl
       refine pure_ (i:=7) (N:=some 61) (v:=?_) (a':=?_) #[qt,qt,qt,qt,qt,qf,qt,qt,qf,qf,qf,qf] rfl rfl (by kernel_rfl) (fun _ _ _ h=>h) (Or.inl ⟨by rfl,?_⟩) ?_ ?_
       rotate_left
       ·intro w'
        go_simp
        with_reducible rfl
       rotate_left
       ·simp only [Act.put,sAx,sBx,sCx,i64_w,i32_w]
        rfl
       refine pure_ (i:=8) (N:=some 62) (v:=?_) (a':=?_) #[qt,qt,qt,qt,qt,qf,qt,qt,qt,qf,qf,qf] rfl rfl (by kernel_rfl) (fun _ _ _ h=>h) (Or.inl ⟨by rfl,?_⟩) ?_ ?_
       rotate_left
       ·intro w'
        go_simp
        with_reducible rfl
       rotate_left
       ·simp only [Act.put,sAx,sBx,sCx,i64_w,i32_w]
        rfl
       refine one_ (i:=5) (N:=some 59) #[qt,qt,qt,qt,qt,qt,qt,qt,qt,qf,qf,qf] rfl rfl (by kernel_rfl) (by decide) (fun K hK=>?_)
       refine value_ (w1:=?_) (v:=?_) (by rfl) rfl ?_ ?_
       rotate_left 2
       ·go_simp
        constructor
        ·rfl
        ·rfl
       have HB1:=mkA (HBd.out.alloc HBd.out.size (.cells #[.string (lowS s)] 9))
       refine hK.out _ _ trivial (fun hHeld=>?_)
       clear hK K
       refine norm_ (a':=?_) ?_ ?_
       rotate_left
       ·show Act.put _ (some 59) _=_
        simp only [Act.put,sAx,sBx,sCx,i64_w,i32_w]
        rfl
       refine one_ (i:=9) (N:=some 63) #[qt,qt,qt,qt,qt,qt,qt,qt,qt,qt,qf,qf] rfl rfl (by kernel_rfl) (by decide) (fun K hK=>?_)
       refine rows_step Kd.string (w0:=w3) w3.heap.size (by rfl) (.tmp 59) (.tmp 62) 46 9 (.string ⟨#[]⟩) 16 rfl Tryz.underlying46 info9 rfl (by decide) (by decide) (.slice (some ⟨wd.heap.size,0,none⟩) 1 1) [lowS s] (outL.drop b) (some (ad5.add b)) (outL.length - b) (c5 - b) (fun _=>True) (fun _=>False) rfl rfl HLIT.out (Kd.C_alloc HSUB.out _) (fun x cs h=>h) (fun _ h=>h.elim) (fun _ _=>trivial) HB1.out HB1.out.size (by have:=HN5.out;first|(simp;done)|(simp;omega)) ?_
       intro v6 w6 ho hb hg hat
       have HO6:=mkA ho
       have HB6:=mkA hb
       have HG6:=mkA hg
       clear ho hb hg hat
       obtain ⟨A6,c6,eo6⟩:=Kd.R_slice HO6.out
       subst eo6
       obtain ⟨_,_,hC6⟩:=Kd.R_reads' HO6.out
       have HC6:=mkA hC6
       clear hC6
       refine hK.out _ _ trivial (fun hHeld=>?_)
       clear hK K
       refine norm_ (a':=?_) ?_ ?_
       rotate_left
       ·show Act.put _ (some 63) _=_
        simp only [Act.put,sAx,sBx,sCx,i64_w,i32_w]
        rfl
       refine one_ (i:=10) (N:=some 64) #[qt,qt,qt,qt,qt,qt,qt,qt,qt,qt,qt,qf] rfl rfl (by kernel_rfl) (by decide) (fun K hK=>?_)
       refine grows_step (by rfl) (.tmp 57) (.tmp 63) 46 rfl 9 Tryz.underlying46 info9 ad5 b b outL (by have:=HBN.out;omega) rfl (HOLD.out _ HG6.out) A6 _ c6 _ rfl HC6.out (Nat.le_refl _) (by simp) (by have:=HN5.out;first|(simp;done)|(simp;omega)) ?_
       intro v7 w7 ho hg
       have HO7:=mkA ho
       have HB7:=mkA (HB6.out.grown hg HB6.out.size (fun k hk=>by cases hk))
       clear ho hg
       refine hK.out _ _ trivial (fun hHeld=>?_)
       clear hK K
       refine norm_ (a':=?_) ?_ ?_
       rotate_left
       ·show Act.put _ (some 64) _=_
        simp only [Act.put,sAx,sBx,sCx,i64_w,i32_w]
        rfl
       refine pure_ (i:=11) (N:=some 5) (v:=?_) (a':=?_) #[qt,qt,qt,qt,qt,qt,qt,qt,qt,qt,qt,qt] rfl rfl (by kernel_rfl) (fun _ _ _ h=>h) (Or.inl ⟨by rfl,?_⟩) ?_ ?_
       rotate_left
       ·intro w'
        go_simp
        with_reducible rfl
       rotate_left
       ·simp only [Act.put,sAx,sBx,sCx,i64_w,i32_w]
        rfl
       refine done_ (by kernel_rfl) ?_
       go_wp2
       have hL:(outL.take b++([lowS s]++outL.drop b)).length=b+([lowS s]++outL.drop b).length:=by rw [List.length_append,List.length_take];have:=HBN.out;omega
       have HWJ:=mkA (show wrap64 ((j:Int)+1)=((j+1:Nat):Int) by have:=HN.out;have:=HLT.out;rw [w64_in] <;> omega)
       exact ⟨⟨j+1,outL.take b++([lowS s]++outL.drop b),HLT.out,by rw [HWJ.out],⟨by rw [HAT.out,HST.out,HS0.out];rfl⟩,⟨by rw [hL];have h1:=HOL.out;have h2:=HBN.out;simp;omega⟩,⟨by rw [HFIN.out,HINS.out,HEQ.out]⟩,⟨Kd.R_of_own (h1:=fun _=>rfl) (by rw [hL];exact own_less HO7.out HB6.out.size) (fun _ _=>trivial)⟩,HB7⟩,by rw [HWJ.out];have:=HLT.out;simp [intOf];omega⟩
      ·have hor:((b:Int) == (outL.length:Int))=false∧(!so.toList == (lowS s).toList)=false:=by assumption
       have HFIN:=mkA (insL_eq _ _ b so HLT2.out HSO.out HLS.out (by assumption) (by simpa using hor.2))
       clear hor
       have HWJ:=mkA (show wrap64 ((j:Int)+1)=((j+1:Nat):Int) by have:=HN.out;have:=HLT.out;rw [w64_in] <;> omega)
       exact ⟨⟨j+1,outL,HLT.out,by rw [HWJ.out],⟨by rw [HAT.out,HST.out,HS0.out];rfl⟩,⟨Nat.le_trans HOL.out (Nat.le_succ _)⟩,⟨by rw [HINS.out,← HEQ.out];exact HFIN.out⟩,HO5,HB5⟩,by rw [HWJ.out];have:=HLT.out;simp [intOf];omega⟩
     ·have hbn:b=outL.length:=by omega
      subst hbn
      have HFIN:=mkA (insL_end _ _ HLS.out)
      cases A5 with
      |none=>
       obtain ⟨inner,hil,hown⟩:=Kd.R_own HO5.out
       have hz:outL.length=0∧c5=0:=by
        rcases hown with ⟨h1,_⟩|⟨g,cap,cur,h1,_⟩
        ·injection h1 with _ h2 h3;exact ⟨h2,h3⟩
        ·injection h1 with h1;cases h1
       clear hown hil
       have hnil:outL=[]:=List.eq_nil_of_length_eq_zero hz.1
       obtain ⟨hz1,rfl⟩:=hz
       go_upto_region 13 with (fail)
       have HN5:=mkA hn5
       have HBN:=mkA hb
       have HCW:=mkA (fun W (h:Below wr.heap.size wr W)=>Kd.C_below HC5.out h)
       obtain ⟨wd,hwd,HBd⟩:∃ wd,wd=wr.drew∧Aside0 (Below w3.heap.size w3 wd):=⟨_,rfl,⟨pw_below_drewN HB5.out 1⟩⟩
       have HDR:=mkA (show Below wr.heap.size wr wd from by rw [hwd];exact pw_below_drewN (Below.refl _ _) 1)
       have HSUB:=mkA (show Kd.C Kd.string wd none (outL.length - outL.length) (outL.drop outL.length) from ⟨by rw [List.length_drop],by omega,fun h=>absurd h (by omega)⟩)
       have HLIT:=mkA (show Kd.R Kd.string 9 (wd.alloc (.cells #[.string (lowS s)] 9)) w3.heap.size (fun _=>True) (.slice (some ⟨wd.heap.size,0,none⟩) 1 1) [lowS s] from Kd.R_of_own (h1:=fun _=>rfl) (World.ownsRow_lit (base:=w3.heap.size) (e:=9) (size:=1) wd #[.string (lowS s)] 1 HBd.out.size (by decide) (by rfl)) (fun _ _=>trivial))
       refine start_ (n:=12) (S:=fun w'=>True) (ds:=[]) #[qf,qf,qf,qf,qf,qf,qf,qf,qf,qf,qf,qf] (by kernel_rfl) rfl rfl trivial (fun hHeld=>?_)
       rw [← hwd]
       clear hwd hHeld
       have hHeld:True:=trivial
       refine pure_ (i:=0) (N:=some 54) (v:=?_) (a':=?_) #[qt,qf,qf,qf,qf,qf,qf,qf,qf,qf,qf,qf] rfl rfl (by kernel_rfl) (fun _ _ _ h=>h) (Or.inl ⟨by rfl,?_⟩) ?_ ?_
       rotate_left
       ·intro w'
        go_simp
        with_reducible rfl
       rotate_left
       ·simp only [Act.put,sAx,sBx,sCx,i64_w,i32_w]
        rfl
       refine pure_ (i:=1) (N:=some 55) (v:=?_) (a':=?_) #[qt,qt,qf,qf,qf,qf,qf,qf,qf,qf,qf,qf] rfl rfl (by kernel_rfl) (fun _ _ _ h=>h) (Or.inl ⟨by rfl,?_⟩) ?_ ?_
       rotate_left
       ·intro w'
        go_simp
        with_reducible rfl
       rotate_left
       ·simp only [Act.put,sAx,sBx,sCx,i64_w,i32_w]
        rfl
       refine pure_ (i:=2) (N:=some 56) (v:=?_) (a':=?_) #[qt,qt,qt,qf,qf,qf,qf,qf,qf,qf,qf,qf] rfl rfl (by kernel_rfl) (fun _ _ _ h=>h) (Or.inl ⟨by rfl,?_⟩) ?_ ?_
       rotate_left
       ·intro w'
        go_simp
        with_reducible rfl
       rotate_left
       ·simp only [Act.put,sAx,sBx,sCx,i64_w,i32_w]
        rfl
       refine pure_ (i:=3) (N:=some 57) (v:=?_) (a':=?_) #[qt,qt,qt,qt,qf,qf,qf,qf,qf,qf,qf,qf] rfl rfl (by kernel_rfl) (fun _ _ _ h=>h) (Or.inl ⟨by rfl,?_⟩) ?_ ?_
       rotate_left
       ·intro w'
        go_simp
        with_reducible rfl
       rotate_left
       ·simp only [Act.put,sAx,sBx,sCx,i64_w,i32_w]
        rfl
       refine pure_ (i:=4) (N:=some 58) (v:=?_) (a':=?_) #[qt,qt,qt,qt,qt,qf,qf,qf,qf,qf,qf,qf] rfl rfl (by kernel_rfl) (fun _ _ _ h=>h) (Or.inl ⟨by rfl,?_⟩) ?_ ?_
       rotate_left
       ·intro w'
        go_simp
        with_reducible rfl
       rotate_left
       ·simp only [Act.put,sAx,sBx,sCx,i64_w,i32_w]
        rfl
       refine pure_ (i:=6) (N:=some 60) (v:=?_) (a':=?_) #[qt,qt,qt,qt,qt,qf,qt,qf,qf,qf,qf,qf] rfl rfl (by kernel_rfl) (fun _ _ _ h=>h) (Or.inl ⟨by rfl,?_⟩) ?_ ?_
       rotate_left
       ·intro w'
        go_simp
        with_reducible rfl
       rotate_left
       ·simp only [Act.put,sAx,sBx,sCx,i64_w,i32_w]
        rfl
       refine pure_ (i:=7) (N:=some 61) (v:=?_) (a':=?_) #[qt,qt,qt,qt,qt,qf,qt,qt,qf,qf,qf,qf] rfl rfl (by kernel_rfl) (fun _ _ _ h=>h) (Or.inl ⟨by rfl,?_⟩) ?_ ?_
       rotate_left
       ·intro w'
        go_simp
        with_reducible rfl
       rotate_left
       ·simp only [Act.put,sAx,sBx,sCx,i64_w,i32_w]
        rfl
       refine pure_ (i:=8) (N:=some 62) (v:=?_) (a':=?_) #[qt,qt,qt,qt,qt,qf,qt,qt,qt,qf,qf,qf] rfl rfl (by kernel_rfl) (fun _ _ _ h=>h) (Or.inl ⟨by rfl,?_⟩) ?_ ?_
       rotate_left
       ·intro w'
        go_simp
        with_reducible rfl
       rotate_left
       ·simp only [Act.put,sAx,sBx,sCx,i64_w,i32_w]
        rfl
       refine one_ (i:=5) (N:=some 59) #[qt,qt,qt,qt,qt,qt,qt,qt,qt,qf,qf,qf] rfl rfl (by kernel_rfl) (by decide) (fun K hK=>?_)
       refine value_ (w1:=?_) (v:=?_) (by rfl) rfl ?_ ?_
       rotate_left 2
       ·go_simp
        constructor
        ·rfl
        ·rfl
       have HB1:=mkA (HBd.out.alloc HBd.out.size (.cells #[.string (lowS s)] 9))
       refine hK.out _ _ trivial (fun hHeld=>?_)
       clear hK K
       refine norm_ (a':=?_) ?_ ?_
       rotate_left
       ·show Act.put _ (some 59) _=_
        simp only [Act.put,sAx,sBx,sCx,i64_w,i32_w]
        rfl
       refine one_ (i:=9) (N:=some 63) #[qt,qt,qt,qt,qt,qt,qt,qt,qt,qt,qf,qf] rfl rfl (by kernel_rfl) (by decide) (fun K hK=>?_)
       refine rows_step Kd.string (w0:=w3) w3.heap.size (by rfl) (.tmp 59) (.tmp 62) 46 9 (.string ⟨#[]⟩) 16 rfl Tryz.underlying46 info9 rfl (by decide) (by decide) (.slice (some ⟨wd.heap.size,0,none⟩) 1 1) [lowS s] (outL.drop outL.length) _ _ _ (fun _=>True) (fun _=>False) rfl rfl HLIT.out ⟨by first|(rw [List.length_drop];done)|(rw [List.length_drop];omega),by omega,fun h=>absurd h (by omega)⟩ (fun x cs h=>h) (fun _ h=>h.elim) (fun _ _=>trivial) HB1.out HB1.out.size (by have:=HN5.out;first|(simp;done)|(simp;omega)) ?_
       intro v6 w6 ho hb hg hat
       have HO6:=mkA ho
       have HB6:=mkA hb
       have HG6:=mkA hg
       clear ho hb hg hat
       obtain ⟨A6,c6,eo6⟩:=Kd.R_slice HO6.out
       subst eo6
       obtain ⟨_,_,hC6⟩:=Kd.R_reads' HO6.out
       have HC6:=mkA hC6
       clear hC6
       refine hK.out _ _ trivial (fun hHeld=>?_)
       clear hK K
       refine norm_ (a':=?_) ?_ ?_
       rotate_left
       ·show Act.put _ (some 63) _=_
        simp only [Act.put,sAx,sBx,sCx,i64_w,i32_w]
        rfl
       refine one_ (i:=10) (N:=some 64) #[qt,qt,qt,qt,qt,qt,qt,qt,qt,qt,qt,qf] rfl rfl (by kernel_rfl) (by decide) (fun K hK=>?_)
       refine rows_step Kd.string (w0:=w3) w3.heap.size (by rfl) (.tmp 57) (.tmp 63) 46 9 (.string ⟨#[]⟩) 16 rfl Tryz.underlying46 info9 rfl (by decide) (by decide) (.slice none 0 0) [] ([lowS s]++outL.drop outL.length) A6 _ c6 (fun _=>True) (fun _=>False) rfl rfl (Kd.R_nil _ _ _ _ _) HC6.out (fun x cs h=>h) (fun _ h=>h.elim) (fun _ _=>trivial) HB6.out HB6.out.size (by have:=HN5.out;first|(simp;done)|(simp;omega)) ?_
       intro v7 w7 ho hb hg hat
       have HO7:=mkA ho
       have HB7:=mkA hb
       clear ho hb hg hat
       refine hK.out _ _ trivial (fun hHeld=>?_)
       clear hK K
       refine norm_ (a':=?_) ?_ ?_
       rotate_left
       ·show Act.put _ (some 64) _=_
        simp only [Act.put,sAx,sBx,sCx,i64_w,i32_w]
        rfl
       refine pure_ (i:=11) (N:=some 5) (v:=?_) (a':=?_) #[qt,qt,qt,qt,qt,qt,qt,qt,qt,qt,qt,qt] rfl rfl (by kernel_rfl) (fun _ _ _ h=>h) (Or.inl ⟨by rfl,?_⟩) ?_ ?_
       rotate_left
       ·intro w'
        go_simp
        with_reducible rfl
       rotate_left
       ·simp only [Act.put,sAx,sBx,sCx,i64_w,i32_w]
        rfl
       refine done_ (by kernel_rfl) ?_
       go_wp2
       have hL:(outL.take outL.length++([lowS s]++outL.drop outL.length)).length=outL.length+([lowS s]++outL.drop outL.length).length:=by rw [List.length_append,List.length_take];have:=HBN.out;omega
       have HWJ:=mkA (show wrap64 ((j:Int)+1)=((j+1:Nat):Int) by have:=HN.out;have:=HLT.out;rw [w64_in] <;> omega)
       exact ⟨⟨j+1,outL.take outL.length++([lowS s]++outL.drop outL.length),HLT.out,by rw [HWJ.out],⟨by rw [HAT.out,HST.out,HS0.out];rfl⟩,⟨by rw [hL];have h1:=HOL.out;have h2:=HBN.out;simp;omega⟩,⟨by rw [HFIN.out,HINS.out,HEQ.out]⟩,⟨by rw [show outL.take outL.length=[] from by rw [hnil];simp];exact HO7.out⟩,HB7⟩,by rw [HWJ.out];have:=HLT.out;simp [intOf];omega⟩
      |some ad5=>
       by_cases hcb:c5=outL.length
       ·go_upto_region 13 with (fail)
        have HN5:=mkA hn5
        have hbc:outL.length≤c5:=by omega
        have hne:c5=outL.length:=hcb
        have HBN:=mkA hb
        have HSUB0:=mkA (sub_reads HC5.out hb)
        have HCW:=mkA (fun W (h:Below wr.heap.size wr W)=>Kd.C_below HC5.out h)
        obtain ⟨wd,hwd,HBd⟩:∃ wd,wd=wr.drew∧Aside0 (Below w3.heap.size w3 wd):=⟨_,rfl,⟨pw_below_drewN HB5.out 1⟩⟩
        have HDR:=mkA (show Below wr.heap.size wr wd from by rw [hwd];exact pw_below_drewN (Below.refl _ _) 1)
        have HSUB:=mkA (show Kd.C Kd.string wd (some ad5) (outL.length - outL.length) (outL.drop outL.length) from ⟨by rw [List.length_drop],by omega,fun h=>absurd h (by omega)⟩)
        have HOLD:=mkA (fun (W:World) (hg:(wd.alloc (.cells #[.string (lowS s)] 9)).grownBy W (Value.slice (some ⟨wd.heap.size,0,none⟩) 1 1).ownBlock)=>show ∀ j:Nat,j < outL.length→W.cell? (ad5.add j)=some (.string (outL.getD j ByteArray.empty)) from fun j hj=>by
         obtain ⟨r1,_,r3⟩:=Kd.reads_of_C (enc:=Value.string) (d:=ByteArray.empty) (h1:=fun _=>rfl) (HCW.out _ HDR.out)
         obtain ⟨a,ha,hc⟩:=r3 (by omega)
         cases ha
         have hcj:=hc j hj
         have hblk:ad5.block < wd.heap.size:=Kd.C_lt (HCW.out _ HDR.out) (by omega) (by decide)
         have hb2:(ad5.add j).block=ad5.block:=by unfold Addr.add;split <;> rfl
         rw [World.grownBy.cell_far hg _ (by rw [hb2];simp;omega) (by rw [hb2];simp [Value.ownBlock];omega)]
         exact (Below.cell ((Below.refl wd.heap.size wd).alloc (Nat.le_refl _) _) (by rw [hb2];exact hblk)).trans hcj)
        have HLIT:=mkA (show Kd.R Kd.string 9 (wd.alloc (.cells #[.string (lowS s)] 9)) w3.heap.size (fun _=>True) (.slice (some ⟨wd.heap.size,0,none⟩) 1 1) [lowS s] from Kd.R_of_own (h1:=fun _=>rfl) (World.ownsRow_lit (base:=w3.heap.size) (e:=9) (size:=1) wd #[.string (lowS s)] 1 HBd.out.size (by decide) (by rfl)) (fun _ _=>trivial))
        refine start_ (n:=12) (S:=fun w'=>True) (ds:=[]) #[qf,qf,qf,qf,qf,qf,qf,qf,qf,qf,qf,qf] (by kernel_rfl) rfl rfl trivial (fun hHeld=>?_)
        rw [← hwd]
        clear hwd hHeld
        have hHeld:True:=trivial
        refine pure_ (i:=0) (N:=some 54) (v:=?_) (a':=?_) #[qt,qf,qf,qf,qf,qf,qf,qf,qf,qf,qf,qf] rfl rfl (by kernel_rfl) (fun _ _ _ h=>h) (Or.inl ⟨by rfl,?_⟩) ?_ ?_
        rotate_left
        ·intro w'
         go_simp
         with_reducible rfl
        rotate_left
        ·simp only [Act.put,sAx,sBx,sCx,i64_w,i32_w]
         rfl
        refine pure_ (i:=1) (N:=some 55) (v:=?_) (a':=?_) #[qt,qt,qf,qf,qf,qf,qf,qf,qf,qf,qf,qf] rfl rfl (by kernel_rfl) (fun _ _ _ h=>h) (Or.inl ⟨by rfl,?_⟩) ?_ ?_
        rotate_left
        ·intro w'
         go_simp
         with_reducible rfl
        rotate_left
        ·simp only [Act.put,sAx,sBx,sCx,i64_w,i32_w]
         rfl
        refine pure_ (i:=2) (N:=some 56) (v:=?_) (a':=?_) #[qt,qt,qt,qf,qf,qf,qf,qf,qf,qf,qf,qf] rfl rfl (by kernel_rfl) (fun _ _ _ h=>h) (Or.inl ⟨by rfl,?_⟩) ?_ ?_
        rotate_left
        ·intro w'
         go_simp
         with_reducible rfl
        rotate_left
        ·simp only [Act.put,sAx,sBx,sCx,i64_w,i32_w]
         rfl
        refine pure_ (i:=3) (N:=some 57) (v:=?_) (a':=?_) #[qt,qt,qt,qt,qf,qf,qf,qf,qf,qf,qf,qf] rfl rfl (by kernel_rfl) (fun _ _ _ h=>h) (Or.inl ⟨by rfl,?_⟩) ?_ ?_
        rotate_left
        ·intro w'
         go_simp
         with_reducible rfl
        rotate_left
        ·simp only [Act.put,sAx,sBx,sCx,i64_w,i32_w]
         rfl
        refine pure_ (i:=4) (N:=some 58) (v:=?_) (a':=?_) #[qt,qt,qt,qt,qt,qf,qf,qf,qf,qf,qf,qf] rfl rfl (by kernel_rfl) (fun _ _ _ h=>h) (Or.inl ⟨by rfl,?_⟩) ?_ ?_
        rotate_left
        ·intro w'
         go_simp
         with_reducible rfl
        rotate_left
        ·simp only [Act.put,sAx,sBx,sCx,i64_w,i32_w]
         rfl
        refine pure_ (i:=6) (N:=some 60) (v:=?_) (a':=?_) #[qt,qt,qt,qt,qt,qf,qt,qf,qf,qf,qf,qf] rfl rfl (by kernel_rfl) (fun _ _ _ h=>h) (Or.inl ⟨by rfl,?_⟩) ?_ ?_
        rotate_left
        ·intro w'
         go_simp
         with_reducible rfl
        rotate_left
        ·simp only [Act.put,sAx,sBx,sCx,i64_w,i32_w]
         rfl
        refine pure_ (i:=7) (N:=some 61) (v:=?_) (a':=?_) #[qt,qt,qt,qt,qt,qf,qt,qt,qf,qf,qf,qf] rfl rfl (by kernel_rfl) (fun _ _ _ h=>h) (Or.inl ⟨by rfl,?_⟩) ?_ ?_
        rotate_left
        ·intro w'
         go_simp
         with_reducible rfl
        rotate_left
        ·simp only [Act.put,sAx,sBx,sCx,i64_w,i32_w]
         rfl
        refine pure_ (i:=8) (N:=some 62) (v:=?_) (a':=?_) #[qt,qt,qt,qt,qt,qf,qt,qt,qt,qf,qf,qf] rfl rfl (by kernel_rfl) (fun _ _ _ h=>h) (Or.inl ⟨by rfl,?_⟩) ?_ ?_
        rotate_left
        ·intro w'
         go_simp
         with_reducible rfl
        rotate_left
        ·simp only [Act.put,sAx,sBx,sCx,i64_w,i32_w]
         rfl
        refine one_ (i:=5) (N:=some 59) #[qt,qt,qt,qt,qt,qt,qt,qt,qt,qf,qf,qf] rfl rfl (by kernel_rfl) (by decide) (fun K hK=>?_)
        refine value_ (w1:=?_) (v:=?_) (by rfl) rfl ?_ ?_
        rotate_left 2
        ·go_simp
         constructor
         ·rfl
         ·rfl
        have HB1:=mkA (HBd.out.alloc HBd.out.size (.cells #[.string (lowS s)] 9))
        refine hK.out _ _ trivial (fun hHeld=>?_)
        clear hK K
        refine norm_ (a':=?_) ?_ ?_
        rotate_left
        ·show Act.put _ (some 59) _=_
         simp only [Act.put,sAx,sBx,sCx,i64_w,i32_w]
         rfl
        refine one_ (i:=9) (N:=some 63) #[qt,qt,qt,qt,qt,qt,qt,qt,qt,qt,qf,qf] rfl rfl (by kernel_rfl) (by decide) (fun K hK=>?_)
        refine rows_step Kd.string (w0:=w3) w3.heap.size (by rfl) (.tmp 59) (.tmp 62) 46 9 (.string ⟨#[]⟩) 16 rfl Tryz.underlying46 info9 rfl (by decide) (by decide) (.slice (some ⟨wd.heap.size,0,none⟩) 1 1) [lowS s] (outL.drop outL.length) _ _ _ (fun _=>True) (fun _=>False) rfl rfl HLIT.out ⟨by first|(rw [List.length_drop];done)|(rw [List.length_drop];omega),by omega,fun h=>absurd h (by omega)⟩ (fun x cs h=>h) (fun _ h=>h.elim) (fun _ _=>trivial) HB1.out HB1.out.size (by have:=HN5.out;first|(simp;done)|(simp;omega)) ?_
        intro v6 w6 ho hb hg hat
        have HO6:=mkA ho
        have HB6:=mkA hb
        have HG6:=mkA hg
        clear ho hb hg hat
        obtain ⟨A6,c6,eo6⟩:=Kd.R_slice HO6.out
        subst eo6
        obtain ⟨_,_,hC6⟩:=Kd.R_reads' HO6.out
        have HC6:=mkA hC6
        clear hC6
        refine hK.out _ _ trivial (fun hHeld=>?_)
        clear hK K
        refine norm_ (a':=?_) ?_ ?_
        rotate_left
        ·show Act.put _ (some 63) _=_
         simp only [Act.put,sAx,sBx,sCx,i64_w,i32_w]
         rfl
        refine one_ (i:=10) (N:=some 64) #[qt,qt,qt,qt,qt,qt,qt,qt,qt,qt,qt,qf] rfl rfl (by kernel_rfl) (by decide) (fun K hK=>?_)
        refine grows_step (by rfl) (.tmp 57) (.tmp 63) 46 rfl 9 Tryz.underlying46 info9 ad5 outL.length outL.length outL (by have:=HBN.out;omega) rfl (HOLD.out _ HG6.out) A6 _ c6 _ rfl HC6.out (Nat.le_refl _) (by simp) (by have:=HN5.out;first|(simp;done)|(simp;omega)) ?_
        intro v7 w7 ho hg
        have HO7:=mkA ho
        have HB7:=mkA (HB6.out.grown hg HB6.out.size (fun k hk=>by cases hk))
        clear ho hg
        refine hK.out _ _ trivial (fun hHeld=>?_)
        clear hK K
        refine norm_ (a':=?_) ?_ ?_
        rotate_left
        ·show Act.put _ (some 64) _=_
         simp only [Act.put,sAx,sBx,sCx,i64_w,i32_w]
         rfl
        refine pure_ (i:=11) (N:=some 5) (v:=?_) (a':=?_) #[qt,qt,qt,qt,qt,qt,qt,qt,qt,qt,qt,qt] rfl rfl (by kernel_rfl) (fun _ _ _ h=>h) (Or.inl ⟨by rfl,?_⟩) ?_ ?_
        rotate_left
        ·intro w'
         go_simp
         with_reducible rfl
        rotate_left
        ·simp only [Act.put,sAx,sBx,sCx,i64_w,i32_w]
         rfl
        refine done_ (by kernel_rfl) ?_
        go_wp2
        have hL:(outL.take outL.length++([lowS s]++outL.drop outL.length)).length=outL.length+([lowS s]++outL.drop outL.length).length:=by rw [List.length_append,List.length_take];have:=HBN.out;omega
        have HWJ:=mkA (show wrap64 ((j:Int)+1)=((j+1:Nat):Int) by have:=HN.out;have:=HLT.out;rw [w64_in] <;> omega)
        exact ⟨⟨j+1,outL.take outL.length++([lowS s]++outL.drop outL.length),HLT.out,by rw [HWJ.out],⟨by rw [HAT.out,HST.out,HS0.out];rfl⟩,⟨by rw [hL];have h1:=HOL.out;have h2:=HBN.out;simp;omega⟩,⟨by rw [HFIN.out,HINS.out,HEQ.out]⟩,⟨Kd.R_of_own (h1:=fun _=>rfl) (by rw [hL];exact own_less HO7.out HB6.out.size) (fun _ _=>trivial)⟩,HB7⟩,by rw [HWJ.out];have:=HLT.out;simp [intOf];omega⟩
       ·go_upto_region 13 with (fail)
        have HN5:=mkA hn5
        have hbc:outL.length≤c5:=by omega
        have hne:¬ c5=outL.length:=hcb
        have HBN:=mkA hb
        have HSUB0:=mkA (sub_reads HC5.out hb)
        have HCW:=mkA (fun W (h:Below wr.heap.size wr W)=>Kd.C_below HC5.out h)
        obtain ⟨wd,hwd,HBd⟩:∃ wd,wd=wr.drew∧Aside0 (Below w3.heap.size w3 wd):=⟨_,rfl,⟨pw_below_drewN HB5.out 1⟩⟩
        have HDR:=mkA (show Below wr.heap.size wr wd from by rw [hwd];exact pw_below_drewN (Below.refl _ _) 1)
        have HSUB:=mkA (sub_reads (HCW.out _ HDR.out) hb)
        have HOLD:=mkA (fun (W:World) (hg:(wd.alloc (.cells #[.string (lowS s)] 9)).grownBy W (Value.slice (some ⟨wd.heap.size,0,none⟩) 1 1).ownBlock)=>show ∀ j:Nat,j < outL.length→W.cell? (ad5.add j)=some (.string (outL.getD j ByteArray.empty)) from fun j hj=>by
         obtain ⟨r1,_,r3⟩:=Kd.reads_of_C (enc:=Value.string) (d:=ByteArray.empty) (h1:=fun _=>rfl) (HCW.out _ HDR.out)
         obtain ⟨a,ha,hc⟩:=r3 (by omega)
         cases ha
         have hcj:=hc j hj
         have hblk:ad5.block < wd.heap.size:=Kd.C_lt (HCW.out _ HDR.out) (by omega) (by decide)
         have hb2:(ad5.add j).block=ad5.block:=by unfold Addr.add;split <;> rfl
         rw [World.grownBy.cell_far hg _ (by rw [hb2];simp;omega) (by rw [hb2];simp [Value.ownBlock];omega)]
         exact (Below.cell ((Below.refl wd.heap.size wd).alloc (Nat.le_refl _) _) (by rw [hb2];exact hblk)).trans hcj)
        have HLIT:=mkA (show Kd.R Kd.string 9 (wd.alloc (.cells #[.string (lowS s)] 9)) w3.heap.size (fun _=>True) (.slice (some ⟨wd.heap.size,0,none⟩) 1 1) [lowS s] from Kd.R_of_own (h1:=fun _=>rfl) (World.ownsRow_lit (base:=w3.heap.size) (e:=9) (size:=1) wd #[.string (lowS s)] 1 HBd.out.size (by decide) (by rfl)) (fun _ _=>trivial))
        refine start_ (n:=12) (S:=fun w'=>True) (ds:=[]) #[qf,qf,qf,qf,qf,qf,qf,qf,qf,qf,qf,qf] (by kernel_rfl) rfl rfl trivial (fun hHeld=>?_)
        rw [← hwd]
        clear hwd hHeld
        have hHeld:True:=trivial
        refine pure_ (i:=0) (N:=some 54) (v:=?_) (a':=?_) #[qt,qf,qf,qf,qf,qf,qf,qf,qf,qf,qf,qf] rfl rfl (by kernel_rfl) (fun _ _ _ h=>h) (Or.inl ⟨by rfl,?_⟩) ?_ ?_
        rotate_left
        ·intro w'
         go_simp
         with_reducible rfl
        rotate_left
        ·simp only [Act.put,sAx,sBx,sCx,i64_w,i32_w]
         rfl
        refine pure_ (i:=1) (N:=some 55) (v:=?_) (a':=?_) #[qt,qt,qf,qf,qf,qf,qf,qf,qf,qf,qf,qf] rfl rfl (by kernel_rfl) (fun _ _ _ h=>h) (Or.inl ⟨by rfl,?_⟩) ?_ ?_
        rotate_left
        ·intro w'
         go_simp
         with_reducible rfl
        rotate_left
        ·simp only [Act.put,sAx,sBx,sCx,i64_w,i32_w]
         rfl
        refine pure_ (i:=2) (N:=some 56) (v:=?_) (a':=?_) #[qt,qt,qt,qf,qf,qf,qf,qf,qf,qf,qf,qf] rfl rfl (by kernel_rfl) (fun _ _ _ h=>h) (Or.inl ⟨by rfl,?_⟩) ?_ ?_
        rotate_left
        ·intro w'
         go_simp
         with_reducible rfl
        rotate_left
        ·simp only [Act.put,sAx,sBx,sCx,i64_w,i32_w]
         rfl
        refine pure_ (i:=3) (N:=some 57) (v:=?_) (a':=?_) #[qt,qt,qt,qt,qf,qf,qf,qf,qf,qf,qf,qf] rfl rfl (by kernel_rfl) (fun _ _ _ h=>h) (Or.inl ⟨by rfl,?_⟩) ?_ ?_
        rotate_left
        ·intro w'
         go_simp
         with_reducible rfl
        rotate_left
        ·simp only [Act.put,sAx,sBx,sCx,i64_w,i32_w]
         rfl
        refine pure_ (i:=4) (N:=some 58) (v:=?_) (a':=?_) #[qt,qt,qt,qt,qt,qf,qf,qf,qf,qf,qf,qf] rfl rfl (by kernel_rfl) (fun _ _ _ h=>h) (Or.inl ⟨by rfl,?_⟩) ?_ ?_
        rotate_left
        ·intro w'
         go_simp
         with_reducible rfl
        rotate_left
        ·simp only [Act.put,sAx,sBx,sCx,i64_w,i32_w]
         rfl
        refine pure_ (i:=6) (N:=some 60) (v:=?_) (a':=?_) #[qt,qt,qt,qt,qt,qf,qt,qf,qf,qf,qf,qf] rfl rfl (by kernel_rfl) (fun _ _ _ h=>h) (Or.inl ⟨by rfl,?_⟩) ?_ ?_
        rotate_left
        ·intro w'
         go_simp
         with_reducible rfl
        rotate_left
        ·simp only [Act.put,sAx,sBx,sCx,i64_w,i32_w]
         rfl
        refine pure_ (i:=7) (N:=some 61) (v:=?_) (a':=?_) #[qt,qt,qt,qt,qt,qf,qt,qt,qf,qf,qf,qf] rfl rfl (by kernel_rfl) (fun _ _ _ h=>h) (Or.inl ⟨by rfl,?_⟩) ?_ ?_
        rotate_left
        ·intro w'
         go_simp
         with_reducible rfl
        rotate_left
        ·simp only [Act.put,sAx,sBx,sCx,i64_w,i32_w]
         rfl
        refine pure_ (i:=8) (N:=some 62) (v:=?_) (a':=?_) #[qt,qt,qt,qt,qt,qf,qt,qt,qt,qf,qf,qf] rfl rfl (by kernel_rfl) (fun _ _ _ h=>h) (Or.inl ⟨by rfl,?_⟩) ?_ ?_
        rotate_left
        ·intro w'
         go_simp
         with_reducible rfl
        rotate_left
        ·simp only [Act.put,sAx,sBx,sCx,i64_w,i32_w]
         rfl
        refine one_ (i:=5) (N:=some 59) #[qt,qt,qt,qt,qt,qt,qt,qt,qt,qf,qf,qf] rfl rfl (by kernel_rfl) (by decide) (fun K hK=>?_)
        refine value_ (w1:=?_) (v:=?_) (by rfl) rfl ?_ ?_
        rotate_left 2
        ·go_simp
         constructor
         ·rfl
         ·rfl
        have HB1:=mkA (HBd.out.alloc HBd.out.size (.cells #[.string (lowS s)] 9))
        refine hK.out _ _ trivial (fun hHeld=>?_)
        clear hK K
        refine norm_ (a':=?_) ?_ ?_
        rotate_left
        ·show Act.put _ (some 59) _=_
         simp only [Act.put,sAx,sBx,sCx,i64_w,i32_w]
         rfl
        refine one_ (i:=9) (N:=some 63) #[qt,qt,qt,qt,qt,qt,qt,qt,qt,qt,qf,qf] rfl rfl (by kernel_rfl) (by decide) (fun K hK=>?_)
        refine rows_step Kd.string (w0:=w3) w3.heap.size (by rfl) (.tmp 59) (.tmp 62) 46 9 (.string ⟨#[]⟩) 16 rfl Tryz.underlying46 info9 rfl (by decide) (by decide) (.slice (some ⟨wd.heap.size,0,none⟩) 1 1) [lowS s] (outL.drop outL.length) _ _ _ (fun _=>True) (fun _=>False) rfl rfl HLIT.out ⟨by first|(rw [List.length_drop];done)|(rw [List.length_drop];omega),by omega,fun h=>absurd h (by omega)⟩ (fun x cs h=>h) (fun _ h=>h.elim) (fun _ _=>trivial) HB1.out HB1.out.size (by have:=HN5.out;first|(simp;done)|(simp;omega)) ?_
        intro v6 w6 ho hb hg hat
        have HO6:=mkA ho
        have HB6:=mkA hb
        have HG6:=mkA hg
        clear ho hb hg hat
        obtain ⟨A6,c6,eo6⟩:=Kd.R_slice HO6.out
        subst eo6
        obtain ⟨_,_,hC6⟩:=Kd.R_reads' HO6.out
        have HC6:=mkA hC6
        clear hC6
        refine hK.out _ _ trivial (fun hHeld=>?_)
        clear hK K
        refine norm_ (a':=?_) ?_ ?_
        rotate_left
        ·show Act.put _ (some 63) _=_
         simp only [Act.put,sAx,sBx,sCx,i64_w,i32_w]
         rfl
        refine one_ (i:=10) (N:=some 64) #[qt,qt,qt,qt,qt,qt,qt,qt,qt,qt,qt,qf] rfl rfl (by kernel_rfl) (by decide) (fun K hK=>?_)
        refine grows_step (by rfl) (.tmp 57) (.tmp 63) 46 rfl 9 Tryz.underlying46 info9 ad5 outL.length outL.length outL (by have:=HBN.out;omega) rfl (HOLD.out _ HG6.out) A6 _ c6 _ rfl HC6.out (Nat.le_refl _) (by simp) (by have:=HN5.out;first|(simp;done)|(simp;omega)) ?_
        intro v7 w7 ho hg
        have HO7:=mkA ho
        have HB7:=mkA (HB6.out.grown hg HB6.out.size (fun k hk=>by cases hk))
        clear ho hg
        refine hK.out _ _ trivial (fun hHeld=>?_)
        clear hK K
        refine norm_ (a':=?_) ?_ ?_
        rotate_left
        ·show Act.put _ (some 64) _=_
         simp only [Act.put,sAx,sBx,sCx,i64_w,i32_w]
         rfl
        refine pure_ (i:=11) (N:=some 5) (v:=?_) (a':=?_) #[qt,qt,qt,qt,qt,qt,qt,qt,qt,qt,qt,qt] rfl rfl (by kernel_rfl) (fun _ _ _ h=>h) (Or.inl ⟨by rfl,?_⟩) ?_ ?_
        rotate_left
        ·intro w'
         go_simp
         with_reducible rfl
        rotate_left
        ·simp only [Act.put,sAx,sBx,sCx,i64_w,i32_w]
         rfl
        refine done_ (by kernel_rfl) ?_
        go_wp2
        have hL:(outL.take outL.length++([lowS s]++outL.drop outL.length)).length=outL.length+([lowS s]++outL.drop outL.length).length:=by rw [List.length_append,List.length_take];have:=HBN.out;omega
        have HWJ:=mkA (show wrap64 ((j:Int)+1)=((j+1:Nat):Int) by have:=HN.out;have:=HLT.out;rw [w64_in] <;> omega)
        exact ⟨⟨j+1,outL.take outL.length++([lowS s]++outL.drop outL.length),HLT.out,by rw [HWJ.out],⟨by rw [HAT.out,HST.out,HS0.out];rfl⟩,⟨by rw [hL];have h1:=HOL.out;have h2:=HBN.out;simp;omega⟩,⟨by rw [HFIN.out,HINS.out,HEQ.out]⟩,⟨Kd.R_of_own (h1:=fun _=>rfl) (by rw [hL];exact own_less HO7.out HB6.out.size) (fun _ _=>trivial)⟩,HB7⟩,by rw [HWJ.out];have:=HLT.out;simp [intOf];omega⟩
  ·have hjl:j=P.length:=by omega
   have hst:P.any isStar=false:=by have:=HST.out;rwa [hjl,List.take_length] at this
   have HR:=mkA hst
   go_wp2
   go_ret2
   exact ⟨_,by first|(rw [HR.out];rfl)|rfl,by rw [namesR_none HR.out,← List.take_length (l:=P),← hjl,← HEQ.out];exact Kd.R_lower HO.out HX3.out.size,HX3.out.trans (HB.out.mono HX3.out.size)⟩
def ambryref13_Names.f(k:Nat)(a0_0:Int)(a0_1:ByteArray)(l0_2:List S41)(l0_3:List Int):Option (List ByteArray × Bool):=
 (ambryref10_List.f k l0_2 ⟨#[86,97,114,121]⟩).bind fun P=>if P.length≤20000∧(P.all fun p=>decide (p.size≤300))=true then some (namesR P,P.any isStar) else none
theorem ambryref13_Names.calls(k:Nat)(a0_0:Int)(a0_1:ByteArray)(A0_2:Option Addr)(c0_2:Nat)(l0_2:List S41)(A0_3:Option Addr)(c0_3:Nat)(l0_3:List Int)(r1:List ByteArray)(r2:Bool)(w:World)(hr0_2:Kd.C k41 w A0_2 l0_2.length l0_2)(hc0_2:l0_2.length≤c0_2)(hr0_3:Kd.C (Kd.int .u8) w A0_3 l0_3.length l0_3)(hc0_3:l0_3.length≤c0_3)(h:ambryref13_Names.f k a0_0 a0_1 l0_2 l0_3=some (r1,r2)):
  Calls Tryz.prog 32 #[.agg #[.int .i64 a0_0,.string a0_1,.slice A0_2 l0_2.length c0_2,.slice A0_3 l0_3.length c0_3]] w fun e w'=>∃ v0_:Value,e=.returned (.tuple #[v0_,.bool r2])∧Kd.R Kd.string 9 w' w.heap.size (fun _=>True) v0_ r1∧Below w.heap.size w w':=by
 unfold ambryref13_Names.f at h
 obtain ⟨P,hP,h⟩:=Option.bind_eq_some_iff.mp h
 by_cases hg:P.length≤20000∧(P.all fun p=>decide (p.size≤300))=true
 ·rw [if_pos hg] at h
  obtain ⟨h1,h2⟩:=Prod.mk.inj (Option.some.inj h)
  subst h1 h2
  exact names13_calls k a0_0 a0_1 A0_2 c0_2 l0_2 _ rfl P w hr0_2 hc0_2 hP hg.1 (fun p hp=>of_decide_eq_true (List.all_eq_true.1 hg.2 p hp))
 ·rw [if_neg hg] at h;cases h
end Go.Proofs.YtlnmnjbihgaliaaGreat.Pr
