import Derived.Test.YtlnmnjbihgaliaaGreatGets
import Derived.Lib.SmallJoins
import Derived.ChangeSlices
import Derived.DataReads
import Derived.Test.YtlnmnjbihgaliaaGreatPr9
import Derived.Test.YtlnmnjbihgaliaaGreatPr10
import Derived.Test.YtlnmnjbihgaliaaGreatGWd
set_option linter.unusedVariables false
set_option linter.unusedSimpArgs false
section
open Go.RowKit Go.Proofs.YtlnmnjbihgaliaaGreatW.PrintWords
open Go.ChangeShapes Go.WideShapes Go.Joins
namespace Go.Proofs.YtlnmnjbihgaliaaGreat.Pr
theorem rows_of{W:World}{a:Addr}:∀ len,(∀ i,i < len→∃ s t:ByteArray,W.cell? (a.add (i * 2))=some (.string s)∧W.cell? (a.add (i * 2+1))=some (.string t)∧s.size≤maxLen∧t.size≤maxLen) →
  ∃ l:List S41,l.length=len∧∀ i (hi:i < l.length),W.cell? (a.add (i * 2))=some (.string l[i].f0)∧W.cell? (a.add (i * 2+1))=some (.string l[i].f1)∧l[i].f0.size≤maxLen∧l[i].f1.size≤maxLen
 |0,_=>⟨[],rfl,fun i hi=>absurd hi (by simp)⟩
 |m+1,each=>by
  obtain ⟨l,e1,e2⟩:=rows_of m (fun i hi=>each i (by omega))
  obtain ⟨s,t,k1,k2,k3,k4⟩:=each m (by omega)
  refine ⟨l++[⟨s,t⟩],by simp [e1],fun i hi=>?_⟩
  by_cases him:i < l.length
  ·rw [List.getElem_append_left him];exact e2 i him
  ·have:i=m:=by simp at hi;omega
   subst this
   rw [List.getElem_append_right (by omega)]
   simp only [e1,Nat.sub_self,List.getElem_cons_zero]
   exact ⟨k1,k2,k3,k4⟩
variable {H:Type} {enc:TypeId × Value→H} {W:World} {base:Nat} {spare:Nat→Bool} {held:Bool}
theorem open_fields{v:Value}{fuel:Nat}{x:DataW H × List MemPlace}(h:DataW.trod enc Tryz.prog W base spare held fuel 22 [v]=some x):
  ∃ (A:Option Addr) (c:Nat) (l:List S41),v=.slice A l.length c∧l.length≤c∧c≤maxLen∧Kd.C k41 W A l.length l∧∀ f∈l,f.f0.size≤maxLen∧f.f1.size≤maxLen:=by
 have hc:Tryz.prog.cellsOf 41=2:=by kernel_rfl
 have hc9:Tryz.prog.cellsOf 9=1:=by kernel_rfl
 rcases DataW.trod_slice Tryz.underlying22 h with ⟨h0,_⟩|⟨a,len,cap,elems,rest,n,_,hcs,_,hb,hl,hm,hlen,hel,_,_⟩
 ·injection h0 with h0 _
  exact ⟨none,0,[],h0,Nat.le_refl _,by decide,Kd.C_nil _ _,fun f hf=>by cases hf⟩
 ·injection hcs with hcs _
  have each:∀ i,i < len→∃ s t:ByteArray,W.cell? (a.add (i * 2))=some (.string s)∧W.cell? (a.add (i * 2+1))=some (.string t)∧s.size≤maxLen∧t.size≤maxLen:=by
   intro i hi
   have h1:=hel i hi
   rw [hc] at h1
   rw [List.getElem?_eq_getElem (by omega)] at h1
   obtain ⟨cs,hcs,h2⟩:=Option.bind_eq_some_iff.1 h1
   obtain ⟨_,hcl,hcell⟩:=World.cells?_some hcs
   match cs,hcl with
   |[c0,c1],_=>
    obtain ⟨y0,y1,n,_,_,h3,h4⟩:=trod_struct2 Tryz.underlying41 h2
    simp only [hc9] at h3 h4
    obtain ⟨s,hs,_,hs2⟩:=DataW.trod_string Tryz.underlying9 h3
    obtain ⟨t,ht,_,ht2⟩:=DataW.trod_string Tryz.underlying9 h4
    simp at hs ht
    have e0:=hcell 0 (by omega)
    have e1:=hcell 1 (by omega)
    rw [Addr.add_add] at e0 e1
    exact ⟨s,t,by simpa [hs] using e0,by simpa [ht] using e1,hs2,ht2⟩
  obtain ⟨l,hl1,hl2⟩:=rows_of len each
  refine ⟨some a,cap,l,by rw [hl1];exact hcs,by omega,hm,⟨rfl,by rw [hl1];exact Nat.le_trans hl (Nat.le_trans hm (by decide)),fun _=>⟨a,rfl,fun j p hp=>?_⟩⟩,fun f hf=>?_⟩
  ·obtain ⟨hj,rfl⟩:=List.getElem?_eq_some_iff.1 hp
   obtain ⟨k1,k2,_,_⟩:=hl2 j hj
   refine ⟨[.string l[j].f0,.string l[j].f1],rfl,k41_mk W _,fun i u hu=>?_⟩
   show W.cell? (a.add (j * 2+i))=some u
   match i,hu with
   |0,hu=>exact k1.trans hu
   |1,hu=>exact k2.trans hu
  ·obtain ⟨i,hi,rfl⟩:=List.getElem_of_mem hf
   exact (hl2 i hi).2.2
set_option maxRecDepth 100000 in
theorem open_bytes{v:Value}{fuel:Nat}{x:DataW H × List MemPlace}(h:DataW.trod enc Tryz.prog W base (fun _=>true) held fuel 23 [v]=some x):
  ∃ (A:Option Addr) (c:Nat) (l:List Int),v=.slice A l.length c∧l.length≤c∧c≤maxLen∧Kd.C (Kd.int .u8) W A l.length l:=by
 rcases open_ints Tryz.underlying23 Tryz.underlying5 (by kernel_rfl) h with ⟨hcs,_⟩|⟨a,len,cap,zs,hcs,_,hl,hm,hz,_,hcell,hwz⟩
 ·injection hcs with hcs _
  exact ⟨none,0,[],hcs,Nat.le_refl _,by decide,Kd.C_nil _ _⟩
 ·injection hcs with hcs _
  have hz':zs.length=cap:=by simpa using hz
  have hlen:(zs.take len).length=len:=by rw [List.length_take];omega
  refine ⟨some a,cap,zs.take len,by rw [hlen];exact hcs,by omega,hm,?_⟩
  refine Kd.C_of_reads (enc:=Value.int .u8) (d:=(0:Int)) (h1:=fun _=>rfl) ⟨rfl,by rw [hlen];exact Nat.le_trans hl (Nat.le_trans hm (by decide)),fun _=>⟨a,rfl,fun j hj=>?_⟩⟩
  rw [hlen] at hj
  rw [hcell j (by omega)]
  congr 2
  simp only [List.getD_eq_getElem?_getD]
  rw [List.getElem?_take,if_pos hj]
set_option maxRecDepth 100000 in
theorem open_req{v:Value}{d:DataW H}{p:List MemPlace}{r:Reach}{b0:Nat}(hv:Value.okWide Tryz.prog W r b0 25 v)(h:DataW.Trod enc Tryz.prog W base (fun _=>true) held 25 v d p):
  ∃ (q0 q1:ByteArray) (A2:Option Addr) (c2:Nat) (l2:List S41) (A3:Option Addr) (c3:Nat) (l3:List Int),v=.agg #[.string q0,.string q1,.slice A2 l2.length c2,.slice A3 l3.length c3] ∧
   Kd.C k41 W A2 l2.length l2∧l2.length≤c2∧Kd.C (Kd.int .u8) W A3 l3.length l3∧l3.length≤c3∧c3≤maxLen:=by
 obtain ⟨v0,v1,v2,v3,y0,y1,y2,y3,n,rfl,rfl,rfl,h0,h1,h2,h3⟩:=open_agg4 Tryz.underlying25 (by kernel_rfl) (by kernel_rfl) hv h
 obtain ⟨q0,e0,_,_⟩:=DataW.trod_string Tryz.underlying9 h0
 obtain ⟨q1,e1,_,_⟩:=DataW.trod_string Tryz.underlying9 h1
 obtain ⟨A2,c2,l2,rfl,k1,_,k2,_⟩:=open_fields h2
 obtain ⟨A3,c3,l3,rfl,k3,k5,k4⟩:=open_bytes h3
 injection e0 with e0 _
 injection e1 with e1 _
 subst e0 e1
 exact ⟨q0,q1,A2,c2,l2,A3,c3,l3,rfl,k2,k1,k4,k3,k5⟩
set_option maxRecDepth 100000 in
theorem open_resp{v:Value}{d:DataW H}{p:List MemPlace}{r:Reach}{b0:Nat}(hv:Value.okWide Tryz.prog W r b0 27 v)(h:DataW.Trod enc Tryz.prog W base (fun _=>true) held 27 v d p):
  ∃ (q0:Int) (q1:ByteArray) (A2:Option Addr) (c2:Nat) (l2:List S41) (A3:Option Addr) (c3:Nat) (l3:List Int),v=.agg #[.int .i64 q0,.string q1,.slice A2 l2.length c2,.slice A3 l3.length c3]∧(Lit.int .i64 q0).wf=true ∧
   Kd.C k41 W A2 l2.length l2∧l2.length≤c2∧Kd.C (Kd.int .u8) W A3 l3.length l3∧l3.length≤c3∧c3≤maxLen:=by
 obtain ⟨v0,v1,v2,v3,y0,y1,y2,y3,n,rfl,rfl,rfl,h0,h1,h2,h3⟩:=open_agg4 Tryz.underlying27 (by kernel_rfl) (by kernel_rfl) hv h
 obtain ⟨q0,e0,_,hw⟩:=DataW.trod_int Tryz.underlying3 h0
 obtain ⟨q1,e1,_,_⟩:=DataW.trod_string Tryz.underlying9 h1
 obtain ⟨A2,c2,l2,rfl,k1,_,k2,_⟩:=open_fields h2
 obtain ⟨A3,c3,l3,rfl,k3,k5,k4⟩:=open_bytes h3
 injection e0 with e0 _
 injection e1 with e1 _
 subst e0 e1
 exact ⟨q0,q1,A2,c2,l2,A3,c3,l3,rfl,hw,k2,k1,k4,k3,k5⟩
end Go.Proofs.YtlnmnjbihgaliaaGreat.Pr
end
section
open Go.RowKit Go.Proofs.YtlnmnjbihgaliaaGreatW.PrintWords
open Go.ChangeShapes Go.WideShapes Go.Joins Go.Deep Go.RowKit
namespace Go.Proofs.YtlnmnjbihgaliaaGreat.Pr
theorem array6{α:Type}{cs:Array α}(h:cs.size=6):∃ c0 c1 c2 c3 c4 c5,cs=#[c0,c1,c2,c3,c4,c5]:=by
 obtain ⟨l⟩:=cs
 match l,h with
 |[c0,c1,c2,c3,c4,c5],_=>exact ⟨c0,c1,c2,c3,c4,c5,rfl⟩
variable {H:Type} {enc:TypeId × Value→H} {P:Program} {W:World} {base:Nat} {spare:Nat→Bool} {held:Bool}
theorem trod_six{t:TypeId}{f0 f1 f2 f3 f4 f5:Field}{fuel:Nat}{cs:List Value}{x:DataW H × List MemPlace}(ht:P.underlying t=some (.struct #[f0,f1,f2,f3,f4,f5]))(h:DataW.trod enc P W base spare held fuel t cs=some x):
  ∃ (y0 y1 y2 y3 y4 y5:DataW H × List MemPlace) (n:Nat),DataW.trod enc P W base spare held n f0.type ((cs.drop f0.offset).take (P.cellsOf f0.type))=some y0∧DataW.trod enc P W base spare held n f1.type ((cs.drop f1.offset).take (P.cellsOf f1.type))=some y1 ∧
   DataW.trod enc P W base spare held n f2.type ((cs.drop f2.offset).take (P.cellsOf f2.type))=some y2∧DataW.trod enc P W base spare held n f3.type ((cs.drop f3.offset).take (P.cellsOf f3.type))=some y3 ∧
   DataW.trod enc P W base spare held n f4.type ((cs.drop f4.offset).take (P.cellsOf f4.type))=some y4∧DataW.trod enc P W base spare held n f5.type ((cs.drop f5.offset).take (P.cellsOf f5.type))=some y5:=by
 obtain ⟨xs,n,_,rfl,hl,hlen,hf⟩:=DataW.trod_struct ht h
 match xs,hlen with
 |[y0,y1,y2,y3,y4,y5],_=>exact ⟨y0,y1,y2,y3,y4,y5,n,by simpa using hf 0 f0 rfl,by simpa using hf 1 f1 rfl,by simpa using hf 2 f2 rfl,by simpa using hf 3 f3 rfl,by simpa using hf 4 f4 rfl,by simpa using hf 5 f5 rfl⟩
theorem u8_bounds{x:Int}(h:(Lit.int .u8 x).wf=true):0≤x∧x≤255:=by
 have h2:IntKind.u8.min≤x∧x≤IntKind.u8.max:=by simpa [Lit.wf] using h
 exact h2
/-- A struct of six bytes, opened. -/
theorem open_six{t:TypeId}{f0 f1 f2 f3 f4 f5:Field}{v:Value}{d:DataW H}{p:List MemPlace}{r:Reach}{b0:Nat}(hs:P.underlying t=some (.struct #[f0,f1,f2,f3,f4,f5]))(hone:oneCellFields P #[f0,f1,f2,f3,f4,f5]=true)(hC:P.cellsOf t=6)(hu:P.underlying 5=some (.int .u8))
  (ht:f0.type=5∧f1.type=5∧f2.type=5∧f3.type=5∧f4.type=5∧f5.type=5) (hv:Value.okWide P W r b0 t v) (h:DataW.Trod enc P W base spare held t v d p) :
  ∃ x0 x1 x2 x3 x4 x5:Int,v=.agg #[.int .u8 x0,.int .u8 x1,.int .u8 x2,.int .u8 x3,.int .u8 x4,.int .u8 x5]∧(0≤x0∧x0≤255)∧(0≤x1∧x1≤255)∧(0≤x2∧x2≤255)∧(0≤x3∧x3≤255)∧(0≤x4∧x4≤255)∧(0≤x5∧x5≤255):=by
 obtain ⟨cs,rfl,hsz⟩:=okWide_struct hs hv
 obtain ⟨c0,c1,c2,c3,c4,c5,rfl⟩:=array6 (hsz.trans hC)
 obtain ⟨fuel,hf⟩:=h
 obtain ⟨y0,y1,y2,y3,y4,y5,n,h0,h1,h2,h3,h4,h5⟩:=trod_six hs hf
 obtain ⟨o0,k0⟩:=hone_of hone 0 f0 rfl
 obtain ⟨o1,k1⟩:=hone_of hone 1 f1 rfl
 obtain ⟨o2,k2⟩:=hone_of hone 2 f2 rfl
 obtain ⟨o3,k3⟩:=hone_of hone 3 f3 rfl
 obtain ⟨o4,k4⟩:=hone_of hone 4 f4 rfl
 obtain ⟨o5,k5⟩:=hone_of hone 5 f5 rfl
 obtain ⟨t0,t1,t2,t3,t4,t5⟩:=ht
 rw [t0] at h0 k0
 rw [t1] at h1 k1
 rw [t2] at h2 k2
 rw [t3] at h3 k3
 rw [t4] at h4 k4
 rw [t5] at h5 k5
 obtain ⟨x0,e0,_,g0⟩:=DataW.trod_int hu (show DataW.trod enc P W base spare held n 5 [c0]=some y0 by simpa [Value.cells,o0,k0] using h0)
 obtain ⟨x1,e1,_,g1⟩:=DataW.trod_int hu (show DataW.trod enc P W base spare held n 5 [c1]=some y1 by simpa [Value.cells,o1,k1] using h1)
 obtain ⟨x2,e2,_,g2⟩:=DataW.trod_int hu (show DataW.trod enc P W base spare held n 5 [c2]=some y2 by simpa [Value.cells,o2,k2] using h2)
 obtain ⟨x3,e3,_,g3⟩:=DataW.trod_int hu (show DataW.trod enc P W base spare held n 5 [c3]=some y3 by simpa [Value.cells,o3,k3] using h3)
 obtain ⟨x4,e4,_,g4⟩:=DataW.trod_int hu (show DataW.trod enc P W base spare held n 5 [c4]=some y4 by simpa [Value.cells,o4,k4] using h4)
 obtain ⟨x5,e5,_,g5⟩:=DataW.trod_int hu (show DataW.trod enc P W base spare held n 5 [c5]=some y5 by simpa [Value.cells,o5,k5] using h5)
 injection e0 with e0 _
 injection e1 with e1 _
 injection e2 with e2 _
 injection e3 with e3 _
 injection e4 with e4 _
 injection e5 with e5 _
 subst e0 e1 e2 e3 e4 e5
 exact ⟨x0,x1,x2,x3,x4,x5,rfl,u8_bounds g0,u8_bounds g1,u8_bounds g2,u8_bounds g3,u8_bounds g4,u8_bounds g5⟩
end Go.Proofs.YtlnmnjbihgaliaaGreat.Pr
end
section
open Go.RowKit Go.Proofs.YtlnmnjbihgaliaaGreatW.PrintWords
namespace Go.Proofs.YtlnmnjbihgaliaaGreat.Pr
def lightB(l:List S41)(n:Nat):Bool:=decide (l.length≤n) && l.all (fun f=>decide (f.f0.size≤300) && decide (f.f1.size≤300))
theorem light_loop(l:List S41)(hn:l.length≤4611686018427387904):∀ m j k,l.length=j+m→m < k →
  ambryhelp_Light.l0 k l (j:Int)=some ((l.drop j).all (fun f=>decide (f.f0.size≤300) && decide (f.f1.size≤300))):=by
 intro m
 induction m with
 |zero=>
  intro j k hj hk
  obtain ⟨k,rfl⟩:∃ q,k=q+1:=⟨k - 1,by omega⟩
  unfold ambryhelp_Light.l0
  rw [if_neg (by omega),List.drop_eq_nil_of_le (by omega)]
  rfl
 |succ m ih=>
  intro j k hj hk
  obtain ⟨k,rfl⟩:∃ q,k=q+1:=⟨k - 1,by omega⟩
  have hlt:j < l.length:=by omega
  have hrd:rd_T41 l (j:Int)=l[j]:=by simp [rd_T41,hlt]
  have hw:wrap64 ((j:Int)+1)=((j+1:Nat):Int):=by unfold wrap64;omega
  unfold ambryhelp_Light.l0
  rw [if_pos (by omega),if_pos (by omega),hrd,List.drop_eq_getElem_cons hlt,List.all_cons]
  by_cases e:l[j].f0.size≤300
  ·rw [if_neg (by omega),decide_eq_true e]
   by_cases e2:l[j].f1.size≤300
   ·rw [if_neg (by omega),decide_eq_true e2,hw,ih (j+1) k (by omega) (by omega)];rfl
   ·rw [if_pos (by omega),decide_eq_false e2];rfl
  ·rw [if_pos (by omega),decide_eq_false e];rfl
theorem light_total(l:List S41)(n k:Nat)(hn:n≤1000)(hk:n+1≤k):ambryhelp_Light.f k l (n:Int)=some (lightB l n):=by
 unfold ambryhelp_Light.f lightB
 by_cases h:l.length≤n
 ·rw [if_neg (by omega),decide_eq_true h]
  have:=light_loop l (by omega) l.length 0 k (by omega) (by omega)
  simpa using this
 ·rw [if_pos (by omega),decide_eq_false h];rfl
def lightQB(q0 q1:ByteArray)(l2:List S41)(l3:List Int):Bool:=decide (q0.size≤100) && decide (q1.size≤300) && lightB l2 15 && decide (l3.length≤1000)
theorem lightQ_total(q0 q1:ByteArray)(l2:List S41)(l3:List Int)(k:Nat)(hk:16≤k):ambryhelp_LightQ.f k q0 q1 l2 l3=some (lightQB q0 q1 l2 l3):=by
 unfold ambryhelp_LightQ.f lightQB
 have hl:=light_total l2 15 k (by omega) hk
 rw [show ((15:Nat):Int)=15 from rfl] at hl
 by_cases h0:q0.size≤100
 ·by_cases h1:q1.size≤300
  ·rw [if_pos (by omega),if_pos (by omega),hl,Option.bind_some]
   cases lightB l2 15
   ·simp
   ·rw [if_pos rfl,decide_eq_true h0,decide_eq_true h1]
    congr 1
    rw [Bool.eq_iff_iff]
    simp
    omega
  ·rw [if_pos (by omega),if_neg (by omega),decide_eq_false h1];simp
 ·rw [if_neg (by omega),decide_eq_false h0];simp
def lightRB(r1:ByteArray)(l2:List S41)(l3:List Int):Bool:=decide (r1.size≤100) && lightB l2 15 && decide (l3.length≤1000)
theorem lightR_total(r0:Int)(r1:ByteArray)(l2:List S41)(l3:List Int)(k:Nat)(hk:16≤k):ambryhelp_LightR.f k r0 r1 l2 l3=some (lightRB r1 l2 l3):=by
 unfold ambryhelp_LightR.f lightRB
 have hl:=light_total l2 15 k (by omega) hk
 rw [show ((15:Nat):Int)=15 from rfl] at hl
 by_cases h0:r1.size≤100
 ·rw [if_pos (by omega),hl,Option.bind_some]
  cases lightB l2 15
  ·simp
  ·rw [if_pos rfl,decide_eq_true h0]
   congr 1
   rw [Bool.eq_iff_iff]
   simp
   omega
 ·rw [if_neg (by omega),decide_eq_false h0];simp
theorem light_LL(l:List S41)(n:Nat)(hn:n≤40)(h:lightB l n=true):LightL l 40:=by
 unfold lightB at h
 simp only [Bool.and_eq_true,decide_eq_true_eq,List.all_eq_true] at h
 exact ⟨fun f hf=>(h.2 f hf).1,fun f hf=>(h.2 f hf).2,by omega⟩
end Go.Proofs.YtlnmnjbihgaliaaGreat.Pr
end
