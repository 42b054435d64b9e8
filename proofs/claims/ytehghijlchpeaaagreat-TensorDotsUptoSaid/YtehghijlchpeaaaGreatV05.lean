/- Part 6 of the proof of tensorDotsUpto_holds: what it uses, in build order. -/
import Derived.Test.YtehghijlchpeaaaGreatV04
import Derived.OrdersIn
import Derived.RangeFuncCalls
set_option maxHeartbeats 8000000
set_option maxRecDepth 100000
set_option linter.unusedVariables false
set_option linter.unusedSimpArgs false
set_option linter.unusedSectionVars false
section
namespace Go.Proofs.YtehghijlchpeaaaGreat.Rd
open Go
variable {P:Program} {ops:Array Oper} {Q:Exit→Act→World→Prop}
theorem rows_in {row:String} {args:Array Value} {w:World} {R:Value→World→Prop} (l n:Nat) (h:Rows P row args w R):RowsIn (Fence.wide.inRound l) n P row args w R :=
 fun c cs _=>let ⟨v,w',r,s⟩:=h c cs; ⟨v,w',r,stepsIn_wide.2 s⟩
theorem oper_in {o:Oper} {a:Act} {w:World} {K:Act→World→Prop} (l n:Nat) (hd:∀ c,o.op≠.defer c) (h:o.wp P a w K Q):o.wpIn (Fence.wide.inRound l) n P a w K Q:=by
 refine⟨fun _ _=>trivial,?_⟩
 rw [Oper.semAt_eq _ _ _ hd]
 unfold Oper.wp at h
 generalize (execOp a.eval o).run P w=r at *
 cases r with
 | ok x w' =>
  cases x<;>simp only [Oper.upon,Oper.uponIn] at h ⊢ <;>
   first
    | exact h
    | exact⟨fun hh=>absurd hh (by simp [Fence.inRound,Fence.wide]),CallsIn.inRound l (callsIn_wide.2 h)⟩
    | exact⟨fun hh=>absurd hh (by simp [Fence.inRound,Fence.wide]),rows_in l _ h⟩
 | halt x w'=>cases x<;>simp only [Oper.upon,Oper.uponIn] at h ⊢<;>exact h
theorem any_in (l n:Nat) (hd:∀ (i:Nat) (o:Oper),ops[i]? = some o→∀ c,o.op≠.defer c) (hQ:¬ LetsOut Q) {md:Region.Mode} :
  ∀ (fuel:Nat) (listed:Array Bool) (a:Act) (w:World),wpAny P md ops Q fuel listed a w→wpAnyIn (Fence.wide.inRound l) n P md ops Q fuel listed a w
 | 0,_,_,_,h=>h
 | fuel+1,listed,a,w,h=>by
  refine⟨h.1,fun i hi=>?_⟩
  have h2:=h.2 i hi
  unfold wpOp at h2
  unfold wpOpIn
  cases ho:ops[i]? with
  | none =>
   simp only [ho] at h2 ⊢
   exact any_in l n hd hQ fuel _ _ _ h2
  | some o =>
   simp only [ho] at h2 ⊢
   split
   ·
    rename_i hw
    rw [if_pos hw] at h2
    rcases h2 with h2 | h2
    ·
     exact Oper.wpIn_mono (fun a w=>any_in l n hd hQ fuel _ a w) (oper_in l n (hd i o ho) h2)
    ·
     exact absurd h2.2 hQ
   ·
    rename_i hw
    rw [if_neg hw] at h2
    exact⟨fun _ _=>trivial,any_in l n hd hQ fuel _ _ _ h2⟩
def noDefer (ops:Array Oper):Bool:=ops.all fun o=>match o.op with | .defer _=>false | _=>true
theorem noDefer_spec (h:noDefer ops=true):∀ (i:Nat) (o:Oper),ops[i]? = some o→∀ c,o.op≠.defer c:=by
 intro i o ho c e
 unfold noDefer at h
 rw [Array.all_eq_true] at h
 obtain⟨hlt,he⟩:=Array.getElem?_eq_some_iff.1 ho
 have:=h i hlt
 rw [he,e] at this
 cases this
open YtehghijlchpeaaaGreatW.PrintLast in
theorem start_round {S:World→Prop} {ds:List Nat} {id m l n:Nat} {a:Act} {w:World} (b:Array Bool) (hm:P.follows .mixedOrders=true) (hnd:noDefer ops=true) (hQ:¬ LetsOut Q) (hn:ops.size=m) (hl:Array.replicate m false=b) (hS:S w.drew)
  (h:S w.drew→zbE P .any ops Q S ds m b a w.drew):(Code.region id ops true).wpIn (Fence.wide.inRound l) n P Q a w:=by
 subst hn
 subst hl
 exact wpIn_region_any hm (any_in l n (noDefer_spec hnd) hQ _ _ _ _ (wpAny_of_last _ _ _ _ (h hS)))
end Go.Proofs.YtehghijlchpeaaaGreat.Rd
end
