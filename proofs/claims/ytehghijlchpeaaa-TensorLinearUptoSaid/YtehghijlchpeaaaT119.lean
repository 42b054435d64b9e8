/- Part 20 of the proof of tensorLinearUpto_holds: what it uses, in build order. -/
import Derived.Test.YtehghijlchpeaaaT118
import Derived.JoinedCond
set_option maxHeartbeats 8000000
set_option maxRecDepth 100000
set_option linter.unusedVariables false
set_option linter.unusedSimpArgs false
set_option linter.unusedSectionVars false
section
namespace Go.Proofs.Ytehghijlchpeaaa.tensorLinear
open Go.ChangeShapes Go.WideShapes Go.ChangeAt Go.RowKit Go.Joins Nat1
open Go.ChangeMaps (open_string shut_string)
theorem own:ownKnob Try.prog.godebug=none:=by kernel_rfl
theorem laidOut:laidOutB Try.prog=true:=by kernel_rfl
theorem contract (H:Type) (enc:TypeId×Value→H) (W:World) (base:Nat) (args:Array Value) (ds gs:List (DataW H)) (before:List MemPlace)
  (hval0:∀ (j:Nat) t v,Try.f13.params[j]? = some t→args[j]? = some v→Value.okWide Try.prog W .any base t v)
  (hW:DataW.Whole enc Try.prog Try.f13.params.toList Rows.tensorLinearSpec.vars false W args.toList ds gs before) (hk:Rows.uptoSmall H (ds++gs)=true) :
  Calls Try.prog 13 args W fun e W'=>∃ v,e=.returned v∧Rows.tensorLinearSpec.post enc Try.prog Try.f13 false true false false W args v W':=by
 have hval:∀ (j:Nat) t v,Try.f13.params[j]? = some t→args[j]? = some v→Value.okWide Try.prog W .any base t v:=hval0
 have hW':=hW
 obtain⟨p,q,hA0,hV,rfl,hfz,hnd⟩:=hW
 have hA:DataW.TrodAll enc Try.prog W 0 (fun _=>true) true Try.f13.params.toList args.toList ds p:=hA0
 rw [Try.params13] at hA hval
 obtain⟨v0,vs0,d0,ds0,p0,q0,hargs,rfl,rfl,h0,r0⟩:=trodAll_cons hA
 obtain⟨v1,vs1,d1,ds1,p1,q1,rfl,rfl,rfl,h1,r1⟩:=trodAll_cons r0
 obtain⟨v2,vs2,d2,ds2,p2,q2,rfl,rfl,rfl,h2,r2⟩:=trodAll_cons r1
 obtain⟨v3,vs3,d3,ds3,p3,q3,rfl,rfl,rfl,h3,r3⟩:=trodAll_cons r2
 obtain⟨rfl,rfl,rfl⟩:=trodAll_nil r3
 obtain rfl:args=#[v0,v1,v2,v3]:=by cases args; simp_all
 obtain⟨rfl,rfl⟩:=trodVars_none hV
 have hb:Rows.uptoBulkAll ([d0,d1,d2,d3]++([]:List (DataW H)))≤1048576:=of_decide_eq_true hk
 simp only [List.append_nil,Rows.uptoBulkAll] at hb
 have k0:=h0
 have lt0:∀ x∈p0,x.block < W.heap.size:=by obtain⟨m,hm⟩:=k0; exact DataW.trod_lt m _ _ _ hm
 obtain⟨A0,c0,s0,B0,e0,t0,rfl,⟨hr0,hc0,hl0⟩,⟨hs0,he0,hm0⟩,ho0⟩:=tensor_arg (hval 0 67 v0 rfl rfl) h0 (by omega)
 have k1:=h1
 have lt1:∀ x∈p1,x.block < W.heap.size:=by obtain⟨m,hm⟩:=k1; exact DataW.trod_lt m _ _ _ hm
 obtain⟨A1,c1,s1,B1,e1,t1,rfl,⟨hr1,hc1,hl1⟩,⟨hs1,he1,hm1⟩,ho1⟩:=tensor_arg (hval 1 67 v1 rfl rfl) h1 (by omega)
 have k2:=h2
 have lt2:∀ x∈p2,x.block < W.heap.size:=by obtain⟨m,hm⟩:=k2; exact DataW.trod_lt m _ _ _ hm
 obtain⟨A2,c2,s2,B2,e2,t2,rfl,⟨hr2,hc2,hl2⟩,⟨hs2,he2,hm2⟩,ho2⟩:=tensor_arg (hval 2 67 v2 rfl rfl) h2 (by omega)
 have k3:=h3
 have lt3:∀ x∈p3,x.block < W.heap.size:=by obtain⟨m,hm⟩:=k3; exact DataW.trod_lt m _ _ _ hm
 obtain⟨n3,A3,c3,l3,B3,e3,m3,rfl,⟨hr3,hc3,ho3⟩,⟨hs3,he3,hp3⟩,hlr3,hls3⟩:=rat_argB (hval 3 25 v3 rfl rfl) h3 (by omega)
 clear hA0 hval0 hk hb
 refine(tensorLinear_q A0 c0 s0 B0 e0 t0 A1 c1 s1 B1 e1 t1 A2 c2 s2 B2 e2 t2 n3 A3 c3 l3 B3 e3 m3 W hr0 hc0 hl0 hs0 he0 hm0 ho0 hr1 hc1 hl1 hs1 he1 hm1 ho1 hr2 hc2 hl2 hs2 he2 hm2 ho2 hr3 hc3 ho3 hlr3 hs3 he3 hp3 hls3).mono fun e W' ⟨he,bel⟩=>?_
 subst he
 exact⟨_,rfl,_,_,_,[],_,[],hW',trodAll_mk1 (shut_bool Try.underlying4 _),(trodAll_cons_mk (Below.trod laidOut (by kernel_rfl) (of_decide_eq_true (by kernel_rfl)) k0 bel lt0) (trodAll_cons_mk (Below.trod laidOut (by kernel_rfl) (of_decide_eq_true (by kernel_rfl)) k1 bel lt1) (trodAll_cons_mk (Below.trod laidOut (by kernel_rfl) (of_decide_eq_true (by kernel_rfl)) k2 bel lt2) (trodAll_cons_mk (Below.trod laidOut (by kernel_rfl) (of_decide_eq_true (by kernel_rfl)) k3 bel lt3) trodAll_mk0)))),rfl,bel.frame _,fun h=>by cases h⟩
theorem lifted (os:Os) (started:os.Started) (H:Type) (enc:TypeId×Value→H) (F:Stop.Interp) :
  ReturnsInHanded {} Try.checked os 13 .any ((Rows.OpenSpec.upto Rows.tensorLinearSpec).pre6 enc Try.prog Try.f13 Rows.tensorLinearUptoRow.domain false) (((Rows.OpenSpec.upto Rows.tensorLinearSpec).at F).post enc Try.prog Try.f13 false true false false):=by
 refine returnsInHanded_of_cond (C:=Try.checked) (s:=Rows.OpenSpec.upto Rows.tensorLinearSpec) (k:=Rows.uptoSmall) rfl own started (by kernel_rfl) Try.func13
  (OpenSpec.witness (enc:=enc) (C:=Try.checked) (s:=Rows.OpenSpec.upto Rows.tensorLinearSpec) (k:=Rows.uptoSmall) rfl false ⟨#[],#[.agg #[.slice none 0 0,.slice none 0 0],.agg #[.slice none 0 0,.slice none 0 0],.agg #[.slice none 0 0,.slice none 0 0],.agg #[.bool false,.slice none 0 0,.slice none 0 0]],[]⟩ 8 (by kernel_rfl) (by kernel_rfl) (by kernel_rfl)
   (x:=([.agg [.nil,.nil],.agg [.nil,.nil],.agg [.nil,.nil],.agg [.lit (.bool false),.nil,.nil]],[],[])) (by kernel_rfl) rfl (by kernel_rfl)) ?_
 intro W base args ds gs before hval hW _ hk _
 exact contract H enc W base args ds gs before hval hW hk
theorem over:Rows.TensorLinearUptoSaid :=
 OpenClaim.holds_of_cond 13 Try.f13 rfl rfl rfl rfl rfl rfl rfl ⟨rfl,rfl,rfl,rfl,rfl⟩ rfl rfl rfl rfl rfl (by kernel_rfl) Try.func13 (by kernel_rfl)
  (of_decide_eq_true (by kernel_rfl)) (by unfold Func.isWrapper; first | (rw [if_pos (by decide +kernel)]; kernel_rfl) | (rw [if_neg (by decide +kernel)]; exact⟨rfl,rfl⟩))
  (fun os started H enc _ F=>lifted os started H enc F)
end Go.Proofs.Ytehghijlchpeaaa.tensorLinear
namespace Go.Proofs.Ytehghijlchpeaaa
theorem tensorLinearUpto_holds:Rows.TensorLinearUptoSaid:=tensorLinear.over
end Go.Proofs.Ytehghijlchpeaaa
end
