/- PolicyMay: the given statement PolicyMay holds of the given program at every input.
Conditions: none beyond the statement's own; the walks of the program's functions lie in the texts that this one imports. -/
import Derived.Test.YtlnmnjbihgaliaaGreatRows
import Derived.Test.YtlnmnjbihgaliaaGreatMayEnd
import Derived.WalkKit
import Derived.ProofKit
import Derived.OpenShut
import Derived.ShutString
import Derived.ChangeOld
import Derived.Below
import Derived.SizedLaws
import Derived.Carry
namespace Go.Proofs.YtlnmnjbihgaliaaGreat.policyMay
open Go.ChangeShapes Go.WideShapes Go.ChangeAt Go.RowKit
open Go.ChangeMaps (open_string shut_string)
set_option linter.unusedVariables false
theorem own:ownKnob Tryz.prog.godebug=none:=by kernel_rfl
theorem laidOut:laidOutB Tryz.prog=true:=by kernel_rfl
set_option maxRecDepth 100000 in
theorem lifted(os:Os)(started:os.Started)(H:Type)(enc:TypeId × Value→H):
  ReturnsInHanded {} Tryz.checked os 3 .any (Rows.policyMaySpec.pre6 enc Tryz.prog Tryz.f3 Rows.policyMayRow.domain false) (Rows.policyMaySpec.post enc Tryz.prog Tryz.f3 false true false false):=by
 refine returnsInHanded_of_change_sized (C:=Tryz.checked) own started (by kernel_rfl) Tryz.func3
  (ChangeSpec.witness6 (enc:=enc) (C:=Tryz.checked) false ⟨#[],#[.agg #[.string ByteArray.empty,.string ByteArray.empty,.slice none 0 0,.slice none 0 0],.agg #[.int .i64 0,.string ByteArray.empty,.slice none 0 0,.slice none 0 0],.agg #[.int .u8 0,.int .u8 0,.int .u8 0,.int .u8 0,.int .u8 0,.int .u8 0],.agg #[.int .u8 0,.int .u8 0,.int .u8 0,.int .u8 0,.int .u8 0,.int .u8 0],.bool false],[]⟩ 8 (by kernel_rfl) (by kernel_rfl) (by kernel_rfl) (by kernel_rfl)) ?_
 intro W base args ds gs before hval0 hW hcnd hsz0 _
 have hval:∀ (j:Nat) t v,Tryz.f3.params[j]?=some t→args[j]?=some v→Value.okWide Tryz.prog W .any base t v:=hval0
 have hW':=hW
 obtain ⟨p,q,hA0,hV,rfl,hfz,hnd⟩:=hW
 have hA:DataW.TrodAll enc Tryz.prog W 0 (fun _=>true) true Tryz.f3.params.toList args.toList ds p:=hA0
 rw [Tryz.params3] at hA hval
 obtain ⟨v0,vs0,d0,ds0,p0,q0,hargs,rfl,rfl,h0,r0⟩:=trodAll_cons hA
 obtain ⟨v1,vs1,d1,ds1,p1,q1,rfl,rfl,rfl,h1,r1⟩:=trodAll_cons r0
 obtain ⟨v2,vs2,d2,ds2,p2,q2,rfl,rfl,rfl,h2,r2⟩:=trodAll_cons r1
 obtain ⟨v3,vs3,d3,ds3,p3,q3,rfl,rfl,rfl,h3,r3⟩:=trodAll_cons r2
 obtain ⟨v4,vs4,d4,ds4,p4,q4,rfl,rfl,rfl,h4,r4⟩:=trodAll_cons r3
 obtain ⟨rfl,rfl,rfl⟩:=trodAll_nil r4
 obtain rfl:args=#[v0,v1,v2,v3,v4]:=by cases args;simp_all
 obtain ⟨rfl,rfl⟩:=trodVars_none hV
 have k0:=h0
 have lt0:∀ x∈p0,x.block < W.heap.size:=by obtain ⟨m,hm⟩:=k0;exact DataW.trod_lt m _ _ _ hm
 obtain ⟨q0_0,q1_0,A2_0,c2_0,l2_0,A3_0,c3_0,l3_0,rfl,e2_0,f2_0,e3_0,f3_0,_⟩:=Pr.open_req (hval 0 25 v0 rfl rfl) h0
 have k1:=h1
 have lt1:∀ x∈p1,x.block < W.heap.size:=by obtain ⟨m,hm⟩:=k1;exact DataW.trod_lt m _ _ _ hm
 obtain ⟨q0_1,q1_1,A2_1,c2_1,l2_1,A3_1,c3_1,l3_1,rfl,g_1,e2_1,f2_1,e3_1,f3_1,_⟩:=Pr.open_resp (hval 1 27 v1 rfl rfl) h1
 have k2:=h2
 have lt2:∀ x∈p2,x.block < W.heap.size:=by obtain ⟨m,hm⟩:=k2;exact DataW.trod_lt m _ _ _ hm
 obtain ⟨n0_2,n1_2,n2_2,n3_2,n4_2,n5_2,rfl,m0_2,m1_2,m2_2,m3_2,m4_2,m5_2⟩:=Pr.open_six Tryz.underlying29 (by kernel_rfl) (by kernel_rfl) Tryz.underlying5 ⟨rfl,rfl,rfl,rfl,rfl,rfl⟩ (hval 2 29 v2 rfl rfl) h2
 have k3:=h3
 have lt3:∀ x∈p3,x.block < W.heap.size:=by obtain ⟨m,hm⟩:=k3;exact DataW.trod_lt m _ _ _ hm
 obtain ⟨n0_3,n1_3,n2_3,n3_3,n4_3,n5_3,rfl,m0_3,m1_3,m2_3,m3_3,m4_3,m5_3⟩:=Pr.open_six Tryz.underlying31 (by kernel_rfl) (by kernel_rfl) Tryz.underlying5 ⟨rfl,rfl,rfl,rfl,rfl,rfl⟩ (hval 3 31 v3 rfl rfl) h3
 obtain ⟨a4,rfl,rfl,rfl⟩:=open_bool Tryz.underlying4 (hval 4 4 v4 rfl rfl) h4
 clear hA0 hval0 hsz0
 refine (Pr.may3_calls q0_0 q1_0 A2_0 c2_0 l2_0 A3_0 c3_0 l3_0 q0_1 q1_1 A2_1 c2_1 l2_1 A3_1 c3_1 l3_1 n0_2 n1_2 n2_2 n3_2 n4_2 n5_2 n0_3 n1_3 n2_3 n3_3 n4_3 n5_3 a4 W e2_0 f2_0 e3_0 f3_0 g_1 e2_1 f2_1 e3_1 f3_1 m0_2 m1_2 m2_2 m3_2 m4_2 m5_2 m0_3 m1_3 m2_3 m3_3 m4_3 m5_3).mono fun e W' ⟨he,bel⟩=>?_
 subst he
 exact ⟨_,rfl,_,_,_,[],_,[],hW',trodAll_mk1 (shut_bool Tryz.underlying4 _),(trodAll_cons_mk (Below.trod laidOut (by kernel_rfl) (of_decide_eq_true (by kernel_rfl)) k0 bel lt0) (trodAll_cons_mk (Below.trod laidOut (by kernel_rfl) (of_decide_eq_true (by kernel_rfl)) k1 bel lt1) (trodAll_cons_mk (Below.trod laidOut (by kernel_rfl) (of_decide_eq_true (by kernel_rfl)) k2 bel lt2) (trodAll_cons_mk (Below.trod laidOut (by kernel_rfl) (of_decide_eq_true (by kernel_rfl)) k3 bel lt3) (trodAll_cons_mk (shut_bool Tryz.underlying4 _) trodAll_mk0))))),rfl,bel.frame _,fun h=>by cases h⟩
theorem over:Rows.policyMayRow.holds Tryz.pinned (OpenSpec.ofChange Rows.policyMaySpec):=
 OpenClaim.holds_of_wide 3 Tryz.f3 rfl rfl rfl rfl rfl rfl rfl ⟨rfl,rfl,rfl,rfl,rfl⟩ rfl rfl rfl rfl rfl (by kernel_rfl) Tryz.func3 (by kernel_rfl)
  (of_decide_eq_true (by kernel_rfl)) (by unfold Func.isWrapper;first|(rw [if_pos (by decide +kernel)];kernel_rfl)|(rw [if_neg (by decide +kernel)];exact ⟨rfl,rfl⟩))
  (fun os started H enc _=>lifted os started H enc)
theorem proved:Rows.PolicyMaySaid:=over
#print axioms proved
end Go.Proofs.YtlnmnjbihgaliaaGreat.policyMay
namespace Go.Proofs.YtlnmnjbihgaliaaGreat
/-- The row, under a short name, for the claim. -/
theorem policyMay_holds:Rows.PolicyMaySaid:=policyMay.proved
end Go.Proofs.YtlnmnjbihgaliaaGreat
