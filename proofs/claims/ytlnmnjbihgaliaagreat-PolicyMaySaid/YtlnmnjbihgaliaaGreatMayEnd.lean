import Derived.Test.YtlnmnjbihgaliaaGreatGOpen
import Derived.Test.YtlnmnjbihgaliaaGreatSeatF
import Derived.Test.YtlnmnjbihgaliaaGreatMayRW
import Derived.Test.YtlnmnjbihgaliaaGreatMayLaw
import Derived.Test.YtlnmnjbihgaliaaGreatMay3W
import Derived.Test.YtlnmnjbihgaliaaGreatGKnown
import Derived.Test.YtlnmnjbihgaliaaGreatGMay
set_option linter.unusedVariables false
set_option linter.unusedSimpArgs false
open Go.RowKit Go.Proofs.YtlnmnjbihgaliaaGreatW.PrintWords
namespace Go.Proofs.YtlnmnjbihgaliaaGreat.Pr
theorem mayG_is(q0:ByteArray)(r0:Int)(an bn bp bu bm:Bool)(ba bs:Int)(sec ends al:Bool)(n:Nat):
  mayG q0 r0 an bn bp bu bm ba bs sec ends al (heurL.contains r0) n=mayF q0 r0 an bn bp bu bm ba bs sec ends al n:=by
 unfold mayG mayF mayS mayA
 generalize heurL.contains r0=hh
 generalize (q0.toList == ([71,69,84]:List UInt8))=e0
 have h1:decide (r0 ≥ 200)=!decide (r0 < 200):=by by_cases h:r0 < 200 <;> simp [h] <;> omega
 have h2:decide ((n:Int)≤60000)=!decide ((n:Int) > 60000):=by by_cases h:(n:Int) > 60000 <;> simp [h] <;> omega
 have h3:decide (bs ≥ 0)=!decide (bs < 0):=by by_cases h:bs < 0 <;> simp [h] <;> omega
 have h4:(r0 != 206)=!(r0 == 206):=rfl
 have h5:(r0 != 304)=!(r0 == 304):=rfl
 rw [h1,h2,h3,h4,h5]
 generalize decide (r0 < 200)=e1
 generalize (r0 == 206)=e2
 generalize (r0 == 304)=e3
 generalize decide ((n:Int) > 60000)=e4
 generalize decide (bs < 0)=e5
 generalize decide (ba ≥ 0)=e6
 cases e0 <;> cases e1 <;> cases e2 <;> cases e3 <;> cases e4 <;> cases an <;> cases bn <;> cases bp <;> cases al <;> simp
 all_goals (cases sec <;> cases bu <;> cases bm <;> cases e5 <;> cases e6 <;> cases ends <;> cases hh <;> rfl)
set_option maxRecDepth 20000 in
theorem rmay_calls(q0 q1:ByteArray)(A2:Option Addr)(c2:Nat)(lq:List S41)(A3:Option Addr)(c3:Nat)(bq:List Int)(r0:Int)(r1:ByteArray)(B2:Option Addr)(d2:Nat)(lr:List S41)(B3:Option Addr)(d3:Nat)(br:List Int)(w:World)
  (hq:Kd.C k41 w A2 lq.length lq) (hc2:lq.length≤c2) (hr:Kd.C k41 w B2 lr.length lr) (hd2:lr.length≤d2) (hbr:Kd.C (Kd.int .u8) w B3 br.length br) (hd3:br.length≤d3) (hlq:LightL lq 40) (hlr:LightL lr 40) :
  Calls Tryz.prog 10 #[.agg #[.string q0,.string q1,.slice A2 lq.length c2,.slice A3 bq.length c3],.agg #[.int .i64 r0,.string r1,.slice B2 lr.length d2,.slice B3 br.length d3]] w
   fun e w'=>e=.returned (.bool (mayF q0 r0 (parC lq).noStore (parC lr).noStore (parC lr).priv (parC lr).pub (parC lr).must (parC lr).maxAge (parC lr).sMax (getL lq authB).2 (getL lr expB).2 ((listL lr varyN).any isStar) br.length))∧Below w.heap.size w w':=by
 have h1:=hlq.2.2
 have h2:=hlr.2.2
 rw [← mayG_is]
 refine rmay_walk q0 q1 A2 lq.length c2 _ r0 r1 B2 lr.length d2 B3 br.length d3 (getL lq authB).1 (getL lr expB).1 (parC lq).noStore (parC lq).noCache (parC lq).priv (parC lq).pub (parC lq).must (parC lq).proxy (parC lq).only (parC lq).any (parC lq).maxAge (parC lq).sMax (parC lq).minFresh (parC lq).maxStale
  (parC lr).noStore (parC lr).noCache (parC lr).priv (parC lr).pub (parC lr).must (parC lr).proxy (parC lr).only (parC lr).any (parC lr).maxAge (parC lr).sMax (parC lr).minFresh (parC lr).maxStale _ _ _ _ w rfl ?_ ?_ ?_ ?_ ?_ ?_
 ·exact fun W hb=>ambryref13_Control.calls 80000 A2 c2 lq _ _ _ _ _ _ _ _ _ _ _ _ W (Kd.C_below hq hb) hc2 (control_is lq hlq 80000 (Nat.le_refl _))
 ·exact fun W hb=>ambryref13_Control.calls 80000 B2 d2 lr _ _ _ _ _ _ _ _ _ _ _ _ W (Kd.C_below hr hb) hd2 (control_is lr hlr 80000 (Nat.le_refl _))
 ·exact fun W hb=>(ambryref13_Names.calls 50000 r0 r1 B2 d2 lr B3 d3 br _ _ W (Kd.C_below hr hb) hd2 (Kd.C_below hbr hb) hd3 (rnames_is r0 r1 lr br hlr 50000 (Nat.le_refl _))).mono fun e w' ⟨v,h,_,hb'⟩=>⟨v,h,hb'⟩
 ·exact fun W hb=>ambryref10_Get.calls 1000 A2 c2 lq authB _ _ W (Kd.C_below hq hb) hc2 (refget_total lq authB 1000 (fun f hf=>Nat.le_trans (hlq.1 f hf) (by decide)) (by decide) (by omega) (by omega))
 ·exact fun W hb=>ambryref10_Get.calls 1000 B2 d2 lr expB _ _ W (Kd.C_below hr hb) hd2 (refget_total lr expB 1000 (fun f hf=>Nat.le_trans (hlr.1 f hf) (by decide)) (by decide) (by omega) (by omega))
 ·exact fun W=>ambryref13_Heuristic.calls 20 r0 _ W (rheur_is r0 20 (by decide))
theorem mayOK_of(q0 q1:ByteArray)(A2:Option Addr)(c2:Nat)(lq:List S41)(A3:Option Addr)(c3:Nat)(bq:List Int)(r0:Int)(r1:ByteArray)(B2:Option Addr)(d2:Nat)(lr:List S41)(B3:Option Addr)(d3:Nat)(br:List Int)(w:World)
  (hq:Kd.C k41 w A2 lq.length lq) (hc2:lq.length≤c2) (hbq:Kd.C (Kd.int .u8) w A3 bq.length bq) (hc3:bq.length≤c3) (hr:Kd.C k41 w B2 lr.length lr) (hd2:lr.length≤d2) (hbr:Kd.C (Kd.int .u8) w B3 br.length br) (hd3:br.length≤d3) (hlq:LightL lq 40) (hlr:LightL lr 40) :
  MayOK #[.string q0,.string q1,.slice A2 lq.length c2,.slice A3 bq.length c3] #[.int .i64 r0,.string r1,.slice B2 lr.length d2,.slice B3 br.length d3] q0 w:=by
 refine ⟨⟨_,fun W hb=>?_,fun W hb=>rmay_calls q0 q1 A2 c2 lq A3 c3 bq r0 r1 B2 d2 lr B3 d3 br W (Kd.C_below hq hb) hc2 (Kd.C_below hr hb) hd2 (Kd.C_below hbr hb) hd3 hlq hlr⟩,?_⟩
 ·exact policy_May.calls 20000 q0 q1 A2 c2 lq A3 c3 bq r0 r1 B2 d2 lr B3 d3 br _ W (Kd.C_below hq hb) hc2 (Kd.C_below hbq hb) hc3 (Kd.C_below hr hb) hd2 (Kd.C_below hbr hb) hd3 (may_total q0 q1 lq bq r0 r1 lr br hlq hlr 20000 (Nat.le_refl _))
 ·obtain ⟨b,h1,h2⟩:=safe_is q0 20 (by decide)
  exact ⟨b,fun W=>policy_Safe.calls 20 q0 b W h1,fun W=>(ambryref13_Safe.calls q0 b W h2).mono fun e w' ⟨h,d⟩=>⟨h,drawn_below0 d⟩⟩
set_option maxRecDepth 20000 in
theorem may3_calls(q0 q1:ByteArray)(A2:Option Addr)(c2:Nat)(lq:List S41)(A3:Option Addr)(c3:Nat)(bq:List Int)(r0:Int)(r1:ByteArray)(B2:Option Addr)(d2:Nat)(lr:List S41)(B3:Option Addr)(d3:Nat)(br:List Int)(x0 x1 x2 x3 x4 x5 y0 y1 y2 y3 y4 y5:Int)(made:Bool)(w:World)
  (hq:Kd.C k41 w A2 lq.length lq) (hc2:lq.length≤c2) (hbq:Kd.C (Kd.int .u8) w A3 bq.length bq) (hc3:bq.length≤c3) (hwf:(Lit.int .i64 r0).wf=true) (hr:Kd.C k41 w B2 lr.length lr) (hd2:lr.length≤d2) (hbr:Kd.C (Kd.int .u8) w B3 br.length br) (hd3:br.length≤d3)
  (h0:0≤x0∧x0≤255) (h1:0≤x1∧x1≤255) (h2:0≤x2∧x2≤255) (h3:0≤x3∧x3≤255) (h4:0≤x4∧x4≤255) (h5:0≤x5∧x5≤255)
  (g0:0≤y0∧y0≤255) (g1:0≤y1∧y1≤255) (g2:0≤y2∧y2≤255) (g3:0≤y3∧y3≤255) (g4:0≤y4∧y4≤255) (g5:0≤y5∧y5≤255) :
  Calls Tryz.prog 3 #[.agg #[.string q0,.string q1,.slice A2 lq.length c2,.slice A3 bq.length c3],.agg #[.int .i64 r0,.string r1,.slice B2 lr.length d2,.slice B3 br.length d3],.agg #[.int .u8 x0,.int .u8 x1,.int .u8 x2,.int .u8 x3,.int .u8 x4,.int .u8 x5],.agg #[.int .u8 y0,.int .u8 y1,.int .u8 y2,.int .u8 y3,.int .u8 y4,.int .u8 y5],.bool made] w
   fun e w'=>e=.returned (.bool true)∧Below w.heap.size w w':=by
 refine may3_walk q0 _ _ _ _ _ _ _ x0 x1 x2 x3 x4 x5 y0 y1 y2 y3 y4 y5 made (lightQB q0 q1 lq bq) (lightRB r1 lr br) w (by simp [Value.oneCell']) (by simp [Value.oneCell']) known_calls ?_ ?_ ?_
  (fun m p1 p2 p3 A B=>∃ a c a3 c3,(m=(reqF dT x0 x1 x2 x3 x4 x5).1∧p1=.string (reqF dT x0 x1 x2 x3 x4 x5).2.1∧p2=.slice a (reqF dT x0 x1 x2 x3 x4 x5).2.2.1.length c∧p3=.slice a3 (reqF dT x0 x1 x2 x3 x4 x5).2.2.2.length c3) ∧
   (∀ W':World,(∀ k,A.heap.size≤k→k < B.heap.size→W'.heap[k]?=B.heap[k]?)→Kd.C k41 W' a (reqF dT x0 x1 x2 x3 x4 x5).2.2.1.length (reqF dT x0 x1 x2 x3 x4 x5).2.2.1∧Kd.C (Kd.int .u8) W' a3 (reqF dT x0 x1 x2 x3 x4 x5).2.2.2.length (reqF dT x0 x1 x2 x3 x4 x5).2.2.2) ∧
   (reqF dT x0 x1 x2 x3 x4 x5).2.2.1.length≤c∧(reqF dT x0 x1 x2 x3 x4 x5).2.2.2.length≤c3)
  (fun t0 t1 t2 t3 A B=>∃ a c a3 c3,(t0=.int .i64 (respF dT 1000000000 y0 y1 y2 y3 y4 y5).1∧t1=.string ⟨#[82]⟩∧t2=.slice a (respF dT 1000000000 y0 y1 y2 y3 y4 y5).2.1.length c∧t3=.slice a3 (respF dT 1000000000 y0 y1 y2 y3 y4 y5).2.2.length c3) ∧
   (∀ W':World,(∀ k,A.heap.size≤k→k < B.heap.size→W'.heap[k]?=B.heap[k]?)→Kd.C k41 W' a (respF dT 1000000000 y0 y1 y2 y3 y4 y5).2.1.length (respF dT 1000000000 y0 y1 y2 y3 y4 y5).2.1∧Kd.C (Kd.int .u8) W' a3 (respF dT 1000000000 y0 y1 y2 y3 y4 y5).2.2.length (respF dT 1000000000 y0 y1 y2 y3 y4 y5).2.2) ∧
   (respF dT 1000000000 y0 y1 y2 y3 y4 y5).2.1.length≤c∧(respF dT 1000000000 y0 y1 y2 y3 y4 y5).2.2.length≤c3)
  ?_ ?_ ?_
 ·exact fun W hb=>ambryhelp_LightQ.calls 16 q0 q1 A2 c2 lq A3 c3 bq _ W (Kd.C_below hq hb) hc2 (Kd.C_below hbq hb) hc3 (lightQ_total q0 q1 lq bq 16 (Nat.le_refl _))
 ·exact fun W hb=>ambryhelp_LightR.calls 16 r0 r1 B2 d2 lr B3 d3 br _ W (Kd.C_below hr hb) hd2 (Kd.C_below hbr hb) hd3 (lightR_total r0 r1 lr br 16 (Nat.le_refl _))
 ·intro hlq hlr _ W hb
  unfold lightQB at hlq
  unfold lightRB at hlr
  simp only [Bool.and_eq_true] at hlq hlr
  exact mayOK_of q0 q1 A2 c2 lq A3 c3 bq r0 r1 B2 d2 lr B3 d3 br W (Kd.C_below hq hb) hc2 (Kd.C_below hbq hb) hc3 (Kd.C_below hr hb) hd2 (Kd.C_below hbr hb) hd3 (light_LL lq 15 (by decide) hlq.1.2) (light_LL lr 15 (by decide) hlr.1.2)
 ·intro W hb
  refine (Q_calls x0 x1 x2 x3 x4 x5 W h0 h1 h2 h3 h4 h5).mono ?_
  rintro e w' ⟨a,c,a3,c3,rfl,hC,hc,hc3,hb'⟩
  exact ⟨_,_,_,_,rfl,by simp [Value.oneCell'],hb',a,c,a3,c3,⟨rfl,rfl,rfl,rfl⟩,hC,hc,hc3⟩
 ·intro W hb
  refine (R_calls y0 y1 y2 y3 y4 y5 W g0 g1 g2 g3 g4 g5).mono ?_
  rintro e w' ⟨a,c,a3,c3,rfl,hC,hc,hc3,hb'⟩
  exact ⟨_,_,_,_,rfl,by simp [Value.oneCell'],hb',a,c,a3,c3,⟨rfl,rfl,rfl,rfl⟩,hC,hc,hc3⟩
 ·rintro m p1 p2 p3 t0 t1 t2 t3 A B C ⟨a,c,a3,c3,⟨rfl,rfl,rfl,rfl⟩,hC,hc,hc3⟩ ⟨a',c',a3',c3',⟨rfl,rfl,rfl,rfl⟩,hC',hc',hc3'⟩ hA hAB hBC D hD
  have k1:=hC D (fun k hk1 hk2=>(hD k hk1 (Nat.lt_of_lt_of_le hk2 hBC.size)).trans (hBC.block k hk2))
  have k2:=hC' D (fun k hk1 hk2=>hD k (Nat.le_trans hAB hk1) hk2)
  exact mayOK_of _ _ a c _ a3 c3 _ _ _ a' c' _ a3' c3' _ D k1.1 hc k1.2 hc3 k2.1 hc' k2.2 hc3' (reqF_light x0 x1 x2 x3 x4 x5) (respF_light y0 y1 y2 y3 y4 y5)
end Go.Proofs.YtlnmnjbihgaliaaGreat.Pr
