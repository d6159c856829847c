import Derived.Test.YtlnmnjbihgaliaaGreatSeatQ
import Derived.Test.YtlnmnjbihgaliaaGreatSeatR
import Derived.Test.YtlnmnjbihgaliaaGreatTextW
import Derived.Test.YtlnmnjbihgaliaaGreatGWd
set_option linter.unusedVariables false
set_option linter.unusedSimpArgs false
open Go.RowKit Go.Proofs.YtlnmnjbihgaliaaGreatW.PrintWords
namespace Go.Proofs.YtlnmnjbihgaliaaGreat.Pr
/-- The text of a time, as the reference tells it. -/
def dT(t:Int):ByteArray:=(ambryref9_Text.f 200 t).getD ⟨#[]⟩
theorem dT_calls(t:Int)(h:(ambryref9_Text.f 200 t).isSome=true)(W:World):Calls Tryz.prog 16 #[.int .i64 t] W fun e w'=>e=.returned (.string (dT t))∧Below W.heap.size W w':=by
 obtain ⟨r,hr⟩:=Option.isSome_iff_exists.1 h
 have:dT t=r:=by unfold dT;rw [hr];rfl
 rw [this]
 exact ambryref9_Text.calls 200 t r W hr
theorem dT_1:(ambryref9_Text.f 200 1000000000).isSome=true∧(dT 1000000000).size≤300:=by decide +kernel
theorem dT_2:(ambryref9_Text.f 200 (wrap64 (1000000000 - 3))).isSome=true∧(dT (wrap64 (1000000000 - 3))).size≤300:=by decide +kernel
theorem dT_3:(ambryref9_Text.f 200 (wrap64 (1000000000 - 100))).isSome=true∧(dT (wrap64 (1000000000 - 100))).size≤300:=by decide +kernel
theorem dT_4:(ambryref9_Text.f 200 (wrap64 (1000000000+8))).isSome=true∧(dT (wrap64 (1000000000+8))).size≤300:=by decide +kernel
theorem dT_5:(ambryref9_Text.f 200 999999950).isSome=true∧(dT 999999950).size≤300:=by decide +kernel
def LF(l:List S41):Prop:=∀ f∈l,f.f0.size≤300∧f.f1.size≤300
theorem LF_app{a b:List S41}(ha:LF a)(hb:LF b):LF (a++b):=fun f hf=>(List.mem_append.1 hf).elim (ha f) (hb f)
theorem LF_nil:LF []:=fun f hf=>(by cases hf)
theorem LF_cons{a b:ByteArray}{l:List S41}(h1:a.size≤300)(h2:b.size≤300)(h:LF l):LF (⟨a,b⟩ :: l):=fun g hg=>by
 rcases List.mem_cons.1 hg with rfl|hg
 ·exact ⟨h1,h2⟩
 ·exact h g hg
theorem LF_light{l:List S41}(h:LF l)(hn:l.length≤40):LightL l 40:=⟨fun f hf=>(h f hf).1,fun f hf=>(h f hf).2,hn⟩
theorem getD_size(L:List ByteArray)(h:∀ s∈L,s.size≤300)(i:Nat):(L.getD i ⟨#[]⟩).size≤300:=by
 rw [List.getD_eq_getElem?_getD]
 cases e:L[i]? with
 |none=>exact Nat.zero_le _
 |some s=>exact h s (List.mem_of_getElem? e)
theorem optF_LF(n s:ByteArray)(h1:n.size≤300)(h2:s.size≤300):LF (optF n s):=by
 unfold optF
 split
 ·exact LF_nil
 ·exact LF_cons h1 h2 LF_nil
theorem rdateF_LF(T:Int→ByteArray)(now d:Int)(h1:(T now).size≤300)(h2:(T (wrap64 (now - 3))).size≤300)(h3:(T (wrap64 (now - 100))).size≤300)(h4:(T (wrap64 (now+8))).size≤300):LF (rdateF T now d):=by
 unfold rdateF
 split
 ·exact LF_cons (by decide) h1 LF_nil
 ·split
  ·exact LF_cons (by decide) h2 (LF_cons (by decide) h3 LF_nil)
  ·split
   ·exact LF_cons (by decide) h1 (LF_cons (by decide) h4 LF_nil)
   ·split
    ·exact LF_cons (by decide) (by decide) LF_nil
    ·exact LF_nil
theorem rtagF_LF(d:Int):LF (rtagF d):=by
 unfold rtagF
 split
 ·exact LF_cons (by decide) (by decide) LF_nil
 ·split
  ·exact LF_cons (by decide) (by decide) LF_nil
  ·split
   ·exact LF_cons (by decide) (by decide) (LF_cons (by decide) (by decide) LF_nil)
   ·exact LF_nil
theorem qvaryF_LF(d:Int):LF (qvaryF d):=by
 unfold qvaryF
 split
 ·exact LF_cons (by decide) (by decide) LF_nil
 ·split
  ·exact LF_cons (by decide) (by decide) LF_nil
  ·split
   ·exact LF_cons (by decide) (by decide) (LF_cons (by decide) (by decide) LF_nil)
   ·exact LF_nil
theorem qcondF_LF(T:Int→ByteArray)(d:Int)(h:(T 999999950).size≤300):LF (qcondF T d):=by
 unfold qcondF
 split
 ·exact LF_cons (by decide) (by decide) LF_nil
 ·split
  ·exact LF_cons (by decide) h LF_nil
  ·split
   ·exact LF_cons (by decide) (by decide) LF_nil
   ·split
    ·exact LF_cons (by decide) (by decide) LF_nil
    ·split
     ·exact LF_cons (by decide) (by decide) (LF_cons (by decide) (by decide) (LF_cons (by decide) (by decide) LF_nil))
     ·split
      ·exact LF_cons (by decide) (by decide) LF_nil
      ·exact LF_nil
theorem respF_light(x0 x1 x2 x3 x4 x5:Int):LightL (respF dT 1000000000 x0 x1 x2 x3 x4 x5).2.1 40:=by
 unfold respF
 refine LF_light (LF_app (LF_app (LF_app (LF_app LF_nil (optF_LF _ _ (by decide) (getD_size _ (by decide) _))) (optF_LF _ _ (by decide) (getD_size _ (by decide) _))) (rdateF_LF _ _ _ dT_1.2 dT_2.2 dT_3.2 dT_4.2)) (rtagF_LF _)) ?_
 have h1:=optF_len ⟨#[67,97,99,104,101,45,67,111,110,116,114,111,108]⟩ (rsaysL.getD (x1 % 12).toNat ⟨#[]⟩)
 have h2:=optF_len ⟨#[86,97,114,121]⟩ (rvaryL.getD (x2 % 6).toNat ⟨#[]⟩)
 have h3:=rdateF_len dT 1000000000 (x3 % 6)
 have h4:=rtagF_len (x4 % 4)
 simp only [List.length_append,List.length_nil]
 omega
theorem reqF_light(x0 x1 x2 x3 x4 x5:Int):LightL (reqF dT x0 x1 x2 x3 x4 x5).2.2.1 40:=by
 unfold reqF
 refine LF_light (LF_app (LF_app (LF_app (LF_cons (by decide) (getD_size _ (by decide) _) LF_nil) (optF_LF _ _ (by decide) (getD_size _ (by decide) _))) (qvaryF_LF _)) (qcondF_LF _ _ dT_5.2)) ?_
 have h1:=optF_len ⟨#[67,97,99,104,101,45,67,111,110,116,114,111,108]⟩ (qsaysL.getD (x2 % 12).toNat ⟨#[]⟩)
 have h2:=qvaryF_len (x3 % 6)
 have h3:=qcondF_len dT (x4 % 9)
 simp only [List.length_append,List.length_cons,List.length_nil]
 omega
theorem Q_calls(x0 x1 x2 x3 x4 x5:Int)(w:World)(h0:0≤x0∧x0≤255)(h1:0≤x1∧x1≤255)(h2:0≤x2∧x2≤255)(h3:0≤x3∧x3≤255)(h4:0≤x4∧x4≤255)(h5:0≤x5∧x5≤255):
  Calls Tryz.prog 7 #[.agg #[.int .u8 x0,.int .u8 x1,.int .u8 x2,.int .u8 x3,.int .u8 x4,.int .u8 x5]] w fun e w'=>∃ A c A3 c3,e=.returned (.agg #[.string (reqF dT x0 x1 x2 x3 x4 x5).1,.string (reqF dT x0 x1 x2 x3 x4 x5).2.1,.slice A (reqF dT x0 x1 x2 x3 x4 x5).2.2.1.length c,.slice A3 (reqF dT x0 x1 x2 x3 x4 x5).2.2.2.length c3])∧(∀ W':World,(∀ k,w.heap.size≤k→k < w'.heap.size→W'.heap[k]?=w'.heap[k]?)→Kd.C k41 W' A (reqF dT x0 x1 x2 x3 x4 x5).2.2.1.length (reqF dT x0 x1 x2 x3 x4 x5).2.2.1∧Kd.C (Kd.int .u8) W' A3 (reqF dT x0 x1 x2 x3 x4 x5).2.2.2.length (reqF dT x0 x1 x2 x3 x4 x5).2.2.2)∧(reqF dT x0 x1 x2 x3 x4 x5).2.2.1.length≤c∧(reqF dT x0 x1 x2 x3 x4 x5).2.2.2.length≤c3∧Below w.heap.size w w':=
 seatQ_calls dT x0 x1 x2 x3 x4 x5 w h0 h1 h2 h3 h4 h5 (dT_calls _ dT_5.1)
theorem R_calls(x0 x1 x2 x3 x4 x5:Int)(w:World)(h0:0≤x0∧x0≤255)(h1:0≤x1∧x1≤255)(h2:0≤x2∧x2≤255)(h3:0≤x3∧x3≤255)(h4:0≤x4∧x4≤255)(h5:0≤x5∧x5≤255):
  Calls Tryz.prog 8 #[.agg #[.int .u8 x0,.int .u8 x1,.int .u8 x2,.int .u8 x3,.int .u8 x4,.int .u8 x5],.int .i64 1000000000] w fun e w'=>∃ A c A3 c3,e=.returned (.agg #[.int .i64 (respF dT 1000000000 x0 x1 x2 x3 x4 x5).1,.string ⟨#[82]⟩,.slice A (respF dT 1000000000 x0 x1 x2 x3 x4 x5).2.1.length c,.slice A3 (respF dT 1000000000 x0 x1 x2 x3 x4 x5).2.2.length c3])∧(∀ W':World,(∀ k,w.heap.size≤k→k < w'.heap.size→W'.heap[k]?=w'.heap[k]?)→Kd.C k41 W' A (respF dT 1000000000 x0 x1 x2 x3 x4 x5).2.1.length (respF dT 1000000000 x0 x1 x2 x3 x4 x5).2.1∧Kd.C (Kd.int .u8) W' A3 (respF dT 1000000000 x0 x1 x2 x3 x4 x5).2.2.length (respF dT 1000000000 x0 x1 x2 x3 x4 x5).2.2)∧(respF dT 1000000000 x0 x1 x2 x3 x4 x5).2.1.length≤c∧(respF dT 1000000000 x0 x1 x2 x3 x4 x5).2.2.length≤c3∧Below w.heap.size w w':=
 seatR_calls dT x0 x1 x2 x3 x4 x5 1000000000 w h0 h1 h2 h3 h4 h5 (fun t ht=>by
  rcases ht with rfl|rfl|rfl|rfl
  ·exact dT_calls _ dT_1.1
  ·exact dT_calls _ dT_2.1
  ·exact dT_calls _ dT_3.1
  ·exact dT_calls _ dT_4.1)
end Go.Proofs.YtlnmnjbihgaliaaGreat.Pr
