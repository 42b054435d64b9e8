/- Part 4 of the proof of tensorDotsUpto_holds: what it uses, in build order. -/
import Derived.Test.YtehghijlchpeaaaGreatV02
set_option maxHeartbeats 8000000
set_option maxRecDepth 100000
set_option linter.unusedVariables false
set_option linter.unusedSimpArgs false
set_option linter.unusedSectionVars false
section
namespace Go.Proofs
open Go Go.RowKit Go.Proofs.YtehghijlchpeaaaGreatW.PrintWords Go.Proofs.YtehghijlchpeaaaGreatW.PrintLast
set_option linter.unusedVariables false
theorem qs {p:Prop} (h:p:=by first | (with_reducible assumption) | assumption):p:=h
theorem qr {P Q:Prop} (h:Q) (f:Q→P:=by intro h_; (with_reducible repeat (first | apply Kd.R_alloc | apply Kd.R_drewN | apply Kd.R_drew)); exact h_):P:=f h
theorem qc {P Q:Prop} (h:Q) (f:Q→P:=by intro h_; repeat (first | exact h_ | (with_reducible refine Kd.C_alloc ?_ _) | (with_reducible refine Kd.C_drewN ?_ _) | (with_reducible refine Kd.C_drew ?_))):P:=f h
theorem qk {P Q:Prop} (h:Q) (f:Q→P:=by intro h_; (with_reducible repeat (first | refine zbv ?_ _ | refine zbu ?_ | refine zbt ?_ _)); exact h_):P:=f h
theorem qb {P Q:Prop} (h:Q) (f:Q→P:=by intro h_; repeat (first | (with_reducible first | exact h_ | apply zbn | apply zbo | apply zbs) | exact h_)):P:=f h
theorem qb1 {P Q A:Prop} (h:Q) (a:A) (f:Q→A→P:=by intro h_ a_; repeat (first | (with_reducible first | exact h_ | apply zbn | apply zbo | apply zbs | refine zbB ?_ a_) | exact h_)):P:=f h a
theorem qb2 {P Q A B:Prop} (h:Q) (a:A) (b:B) (f:Q→A→B→P:=by intro h_ a_ b_; repeat (first | (with_reducible first | exact h_ | apply zbn | apply zbo | apply zbs | refine zbB ?_ a_ | refine zbB ?_ b_) | exact h_)):P:=f h a b
theorem qb3 {P Q A B C:Prop} (h:Q) (a:A) (b:B) (c:C) (f:Q→A→B→C→P:=by intro h_ a_ b_ c_; repeat (first | (with_reducible first | exact h_ | apply zbn | apply zbo | apply zbs | refine zbB ?_ a_ | refine zbB ?_ b_ | refine zbB ?_ c_) | exact h_)):P:=f h a b c
section
variable {P:Program} {ops:Array Oper} {Q:Exit→Act→World→Prop} {S:World→Prop} {ds:List Nat} {md:Region.Mode}
theorem qp (i:Nat) (N:Option Tmp) {fuel:Nat} {l l':Array Bool} {a a':Act} {w:World} {oi:Oper} {v:Value} (h:zbE P md ops Q S ds fuel l' a' w) (hi:ops[i]? = some oi:=by exact rfl) (hN:oi.dst=N:=by exact rfl) (hl:l.setIfInBounds i true=l':=by simp only [zA1,zA2,zA3]; exact rfl) (hc:anyB md ops l l' i=true:=by kernel_rfl)
  (hQ:∀ c a w,Q (.panic c) (a.put oi.dst v) w→Q (.panic c) a w:=by exact fun _ _ _ h=>h) (hy:Yields P ops oi v a:=by exact Or.inl ⟨by rfl,by intro w'; go_simp; with_reducible rfl⟩) (ha:a.put N v=a':=by simp only [Act.put,zA1,zA2,zA3,zcb,zcw]; rfl):zbE P md ops Q S ds (fuel+1) l a w:=pure_ l' hi hN hc hQ hy ha h
theorem qpT (i:Nat) (N:Option Tmp) {fuel:Nat} {l l':Array Bool} {a a':Act} {w:World} {oi:Oper} {v:Value} (h:zbE P md ops Q S ds fuel l' a' w) (hi:ops[i]? = some oi:=by exact rfl) (hN:oi.dst=N:=by exact rfl) (hl:l.setIfInBounds i true=l':=by simp only [zA1,zA2,zA3]; exact rfl) (hc:anyB md ops l l' i=true:=by exact any_of HT_.out (by kernel_rfl))
  (hQ:∀ c a w,Q (.panic c) (a.put oi.dst v) w→Q (.panic c) a w:=by exact fun _ _ _ h=>h) (hy:Yields P ops oi v a:=by exact Or.inl ⟨by rfl,by intro w'; go_simp; with_reducible rfl⟩) (ha:a.put N v=a':=by simp only [Act.put,zA1,zA2,zA3,zcb,zcw]; rfl):zbE P md ops Q S ds (fuel+1) l a w:=pure_ l' hi hN hc hQ hy ha h
theorem qt (i:Nat) (N:Option Tmp) {fuel:Nat} {l l':Array Bool} {a a':Act} {w:World} {oi:Oper} {v:Value} (h:zbE P md ops Q S ds fuel l' a' w) (hi:ops[i]? = some oi:=by exact rfl) (hN:oi.dst=N:=by exact rfl) (hl:l.setIfInBounds i true=l':=by simp only [zA1,zA2,zA3]; exact rfl) (hc:takeB md ops ds l l' i=true:=by kernel_rfl)
  (hQ:∀ c a w,Q (.panic c) (a.put oi.dst v) w→Q (.panic c) a w:=by exact fun _ _ _ h=>h) (hy:YieldsIf P ops S oi v a:=by exact Or.inl ⟨by rfl,by intro w' s0; go_simp; with_reducible rfl⟩) (hS:S w:=by exact hHeld) (ha:a.put N v=a':=by simp only [Act.put,zA1,zA2,zA3,zcb,zcw]; rfl):zbE P md ops Q S ds (fuel+1) l a w:=take_ l' hi hN hc hQ hy hS ha h
theorem qtT (i:Nat) (N:Option Tmp) {fuel:Nat} {l l':Array Bool} {a a':Act} {w:World} {oi:Oper} {v:Value} (h:zbE P md ops Q S ds fuel l' a' w) (hi:ops[i]? = some oi:=by exact rfl) (hN:oi.dst=N:=by exact rfl) (hl:l.setIfInBounds i true=l':=by simp only [zA1,zA2,zA3]; exact rfl) (hc:takeB md ops ds l l' i=true:=by exact zb9 HT_.out HW_.out (by kernel_rfl))
  (hQ:∀ c a w,Q (.panic c) (a.put oi.dst v) w→Q (.panic c) a w:=by exact fun _ _ _ h=>h) (hy:YieldsIf P ops S oi v a:=by exact Or.inl ⟨by rfl,by intro w' s0; go_simp; with_reducible rfl⟩) (hS:S w:=by exact hHeld) (ha:a.put N v=a':=by simp only [Act.put,zA1,zA2,zA3,zcb,zcw]; rfl):zbE P md ops Q S ds (fuel+1) l a w:=take_ l' hi hN hc hQ hy hS ha h
theorem qo (i:Nat) (N:Option Tmp) {fuel:Nat} {l l':Array Bool} {a:Act} {w:World} {oi:Oper} (h:∀ K:Act→World→Prop,Shut (∀ a' w',S w'→(S w'→zbE P md ops Q S ds fuel l' a' w')→K a' w')→if Region.wanted oi (yielded ops a.tmps)=true then Oper.wp P oi a w K Q else K (a.put N undef) w)
  (hi:ops[i]? = some oi:=by exact rfl) (hN:oi.dst=N:=by exact rfl) (hl:l.setIfInBounds i true=l':=by simp only [zA1,zA2,zA3]; exact rfl) (hc:readyB md ops l l' i=true:=by kernel_rfl) (hd:i ∉ ds:=by decide):zbE P md ops Q S ds (fuel+1) l a w:=one_ l' hi hN hc hd h
theorem qoT (i:Nat) (N:Option Tmp) {fuel:Nat} {l l':Array Bool} {a:Act} {w:World} {oi:Oper} (h:∀ K:Act→World→Prop,Shut (∀ a' w',S w'→(S w'→zbE P md ops Q S ds fuel l' a' w')→K a' w')→if Region.wanted oi (yielded ops a.tmps)=true then Oper.wp P oi a w K Q else K (a.put N undef) w)
  (hi:ops[i]? = some oi:=by exact rfl) (hN:oi.dst=N:=by exact rfl) (hl:l.setIfInBounds i true=l':=by simp only [zA1,zA2,zA3]; exact rfl) (hc:readyB md ops l l' i=true:=by exact one_of HT_.out (by kernel_rfl)) (hd:i ∉ ds:=by decide):zbE P md ops Q S ds (fuel+1) l a w:=one_ l' hi hN hc hd h
theorem ql (i:Nat) (N:Option Tmp) {fuel:Nat} {l l':Array Bool} {a:Act} {w:World} {oi:Oper} (h:∀ K:Act→World→Prop,Shut (∀ a' w',zbE P md ops Q S ds fuel l' a' w'→K a' w')→if Region.wanted oi (yielded ops a.tmps)=true then Oper.wp P oi a w K Q else K (a.put N undef) w)
  (hi:ops[i]? = some oi:=by exact rfl) (hN:oi.dst=N:=by exact rfl) (hl:l.setIfInBounds i true=l':=by simp only [zA1,zA2,zA3]; exact rfl) (hc:readyB md ops l l' i=true:=by kernel_rfl) (hd:i∈ds:=by decide):zbE P md ops Q S ds (fuel+1) l a w:=last_ l' hi hN hc hd h
theorem qlT (i:Nat) (N:Option Tmp) {fuel:Nat} {l l':Array Bool} {a:Act} {w:World} {oi:Oper} (h:∀ K:Act→World→Prop,Shut (∀ a' w',zbE P md ops Q S ds fuel l' a' w'→K a' w')→if Region.wanted oi (yielded ops a.tmps)=true then Oper.wp P oi a w K Q else K (a.put N undef) w)
  (hi:ops[i]? = some oi:=by exact rfl) (hN:oi.dst=N:=by exact rfl) (hl:l.setIfInBounds i true=l':=by simp only [zA1,zA2,zA3]; exact rfl) (hc:readyB md ops l l' i=true:=by exact one_of HT_.out (by kernel_rfl)) (hd:i∈ds:=by decide):zbE P md ops Q S ds (fuel+1) l a w:=last_ l' hi hN hc hd h
theorem qn {fuel:Nat} {l:Array Bool} {a a':Act} {w:World} (h:zbE P md ops Q S ds fuel l a' w) (ha:a=a':=by (show Act.put _ _ _=_); simp only [Act.put,zA1,zA2,zA3,zcb,zcw]; rfl):zbE P md ops Q S ds fuel l a w:=norm_ ha h
theorem qv {oi:Oper} {N:Option Tmp} {a:Act} {w w1:World} {v:Value} {K:Act→World→Prop} (h:K (a.put N v) w1) (hw:Region.wanted oi (yielded ops a.tmps)=true:=by rfl) (hN:oi.dst=N:=by exact rfl) (hrun:(execOp a.eval oi).run P w=.ok (.value v) w1:=by (go_simp; constructor; (· rfl); · rfl)):if Region.wanted oi (yielded ops a.tmps)=true then Oper.wp P oi a w K Q else K (a.put N undef) w:=value_ hw hN hrun h
theorem qx {oi:Oper} {a:Act} {w w1:World} {K:Act→World→Prop} (h:K (a.put none undef) w1) (hw:Region.wanted oi (yielded ops a.tmps)=true:=by rfl) (hN:oi.dst=none:=by rfl) (hrun:(execOp a.eval oi).run P w=.ok .skip w1:=by go_simp; rfl):if Region.wanted oi (yielded ops a.tmps)=true then Oper.wp P oi a w K Q else K (a.put none undef) w:=skip_ hw hN hrun h
theorem qg {oi : Oper} {N : Option Tmp} {a : Act} {w : World} {K : Act → World → Prop} {f : FuncId} {fn : Func} {as : Array Operand} {ts : Array TypeId} (hf : P.funcs[f]? = some fn) (args : Array Value) (h : Calls P f args w fun e w' => ∃ v, e = .returned v ∧ K (a.put N v) w') (hname : (fn.name == "runtime.NumGoroutine") = false := by kernel_rfl) (hb : fn.body.isSome = true := by rfl)
  (hw:Region.wanted oi (yielded ops a.tmps)=true:=by rfl) (hN:oi.dst=N:=by exact rfl) (hop:oi.op=.call { callee:=.value (.func f),args:=as,argTypes:=ts }:=by rfl) (hargs:as.map a.eval=args:=by (try simp only [List.map_toArray,List.map_cons,List.map_nil]); first | done | rfl):if Region.wanted oi (yielded ops a.tmps)=true then Oper.wp P oi a w K Q else K (a.put N undef) w:=goes_ hf hname hb args hw hN hop hargs h
end
theorem qz {w:World} {b t:Nat} {u0 u1 u2:Value} (h:w.heap[b]? = some (.cells #[u0,u1,u2] t (0,0))):w.cell? ⟨b,0,none⟩=some u0∧w.cell? ⟨b,1,none⟩=some u1∧w.cell? ⟨b,2,none⟩=some u2∧w.frozen? ⟨b,0,none⟩=false∧w.frozen? ⟨b,1,none⟩=false∧w.frozen? ⟨b,2,none⟩=false:=⟨(zbq h 0).trans rfl,(zbq h 1).trans rfl,(zbq h 2).trans rfl,zbA h 0,zbA h 1,zbA h 2⟩
end Go.Proofs
end
