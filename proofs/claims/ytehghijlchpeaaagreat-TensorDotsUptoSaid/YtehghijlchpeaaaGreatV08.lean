/- Part 9 of the proof of tensorDotsUpto_holds: what it uses, in build order. -/
import Derived.Test.YtehghijlchpeaaaGreatV07
import Derived.Laws.MathBits
set_option maxHeartbeats 8000000
set_option maxRecDepth 100000
set_option linter.unusedVariables false
set_option linter.unusedSimpArgs false
set_option linter.unusedSectionVars false
section
namespace Go.Proofs.YtehghijlchpeaaaGreat.Nat1
open Go.RowKit YtehghijlchpeaaaGreatW.PrintWords YtehghijlchpeaaaGreatW.PrintLast YtehghijlchpeaaaGreatW.PrintMore L Nt
theorem zbU (w:World) (o:Obj):(w.alloc o).heap[w.heap.size]? = some o:=heap_alloc_new w o
theorem drawn_grown {w w':World} (h:Drawn0 w w') (C:Option Nat):w.grownBy w' C:=by
 obtain⟨n,rfl⟩:=h.out
 exact zch rfl (World.grownBy.refl w C) (zbo (Below.refl _ _) n)
theorem gather_quiet (n:Nat) (g:FuncId) (cap:Array Value) (at_:Nat→Int) (J:World→Prop) (w:World)
  (eg:∀ args w,(callFunc g args).run Tryz.prog w=.ok (.enter g args) w) (hJ0:J w) (hJs:∀ W W',J W→Below w.heap.size W W'→J W')
  (hat:∀ i W,i < n→J W→Calls Tryz.prog g (#[.int .i64 (i:Int)]++cap) W fun e W'=>e=.returned (.int .u64 (at_ i))∧Drawn0 W W')
  (hr:∀ i,i < n→0≤at_ i∧at_ i≤9223372036854775807) (hn:n≤4398046511104) :
  Calls Tryz.prog 168 #[.int .i64 (n:Int),.func (.func g) #[] cap] w fun e w' =>
   ∃ v,e=.returned v∧Kd.R (Kd.int .u32) 81 w' w.heap.size (fun _=>True) v (dg B32 (zb0 B32 at_ n))∧Below w.heap.size w w' :=
 (gather_calls n g cap at_ (fun _ W=>J W) none w eg (fun k hk=>by cases hk) hJ0 (fun _=>hJs)
  (fun i W hi hW=>(hat i W hi hW).mono fun e W' ⟨he,hd⟩=>⟨he,by obtain⟨q,rfl⟩:=hd.out; exact hJs _ _ hW (zbo (Below.refl _ _) q),drawn_grown hd none⟩) hr hn).mono
  fun e w' ⟨v,he,hR,_,hg⟩=>⟨v,he,hR,below_of_grown hg⟩
theorem of1_calls (n:Int) (b:Nat) (i:Nat) (W:World) (hi:i < 2) (h0:0≤n) (h1:n < 18446744073709551616) (hb:W.heap[b]? = some (.cells #[.int .u64 n] 161 (0,0))) :
  Calls Tryz.prog 169 (#[.int .i64 (i:Int)]++#[.pointer (some ⟨b,0,none⟩)]) W fun e w'=>e=.returned (.int .u64 (n / (4294967296 ^ i:Nat) % 4294967296))∧Drawn0 W w':=by
 have hc:=cell_of_one hb
 have H1:=Aside0.mk h1
 clear hb h1
 match i,hi with
 | 0,_ =>
  go_enter Tryz.func169,Tryz.ntmps169
  go_wp2
  go_ret
  refine⟨?_,Drawn0.refl _⟩
  show Ending.returned (.int .u64 (bits BinOp.and IntKind.u64 n 4294967295))=_
  rw [and_low32 n h0 H1.out]
  simp
 | 1,_ =>
  go_enter Tryz.func169,Tryz.ntmps169
  go_wp2
  go_ret
  refine⟨?_,Drawn0.refl _⟩
  show Ending.returned (.int .u64 (bits BinOp.and IntKind.u64 (n / 4294967296) 4294967295))=_
  rw [and_low32 _ (by omega) (by have:=H1.out; omega)]
  simp
def nat_Of.f (a0:Int):Option (List Int):=if 0≤a0∧a0 < 18446744073709551616 then some (dg B32 a0.toNat) else none
theorem nat_Of.calls (a0:Int) (r:List Int) (w:World) (h:nat_Of.f a0=some r) :
  Calls Tryz.prog 156 #[.int .u64 a0] w fun e w'=>∃ v0_:Value,e=.returned (v0_)∧Kd.R (Kd.int .u32) 81 w' w.heap.size (fun _=>True) v0_ r∧Below w.heap.size w w':=by
 unfold nat_Of.f at h
 split at h
 ·
  rename_i hr
  obtain rfl:=Option.some.inj h
  have Hr:=Aside0.mk hr
  clear h hr
  go_enter Tryz.func156,Tryz.ntmps156
  go_wp2_with fail
  refine(gather_quiet 2 169 #[.pointer (some ⟨w.heap.size,0,none⟩)] (fun i=>a0 / (4294967296 ^ i:Nat) % 4294967296) (fun W=>W.heap[w.heap.size]? = some (.cells #[.int .u64 a0] 161 (0,0))) _
   (zcr Tryz.func169 (by kernel_rfl) rfl) ?_ ?_ ?_ ?_ (by omega)).mono ?_
  ·
   exact zbU w _
  ·
   intro W W' hW hb
   exact(hb.block _ (by simp)).trans hW
  ·
   intro i W hi hW
   exact of1_calls a0 w.heap.size i W hi Hr.out.1 Hr.out.2 hW
  ·
   intro i _
   omega
  ·
   rintro e w1 ⟨v,rfl,hR,hB⟩
   have e:zb0 B32 (fun i=>a0 / (4294967296 ^ i:Nat) % 4294967296) 2=a0.toNat:=by
    simp only [zb0,B32]
    have:=Hr.out
    simp
    omega
   rw [e] at hR
   clear e
   obtain⟨A,c,rfl⟩:=Kd.R_slice hR
   have HR:=Aside0.mk hR
   have HB:=Aside0.mk hB
   clear hR hB
   go_wp2
   go_ret
   refine⟨_,rfl,?_,zbm ((Below.refl _ w).alloc (Nat.le_refl _) _) HB.out⟩
   exact Kd.R_lower HR.out (by simp)
 ·
  cases h
def lmb (l:List Int) (i:Nat):Int:=l.getD i 0
theorem zbG {l:List Int} (h:ok B32 l) (i:Nat):0≤lmb l i∧lmb l i < 4294967296:=by
 unfold lmb
 rw [List.getD_eq_getElem?_getD]
 by_cases hi:i < l.length
 ·
  rw [List.getElem?_eq_getElem hi]
  have:=h _ (List.getElem_mem hi)
  unfold B32 at this
  simpa using this
 ·
  rw [List.getElem?_eq_none (by omega)]
  simp
theorem zcy {l:List Int} (h:ok B32 l) (i:Nat):nat_limb.f l (i:Int)=some (lmb l i):=by
 have hr:=zbG h i
 unfold nat_limb.f
 rw [if_neg (by omega)]
 by_cases hi:i < l.length
 ·
  rw [if_neg (by omega),if_pos (by omega),if_pos (by omega)]
  have e:rd l (i:Int)=lmb l i:=by unfold rd lmb; rw [Int.toNat_natCast]
  rw [e,zci]
  congr 1
  omega
 ·
  rw [if_pos (by omega)]
  unfold lmb
  rw [List.getD_eq_getElem?_getD,List.getElem?_eq_none (by omega)]
  rfl
theorem limb_neg (l:List Int) (i:Int) (h:i < 0):nat_limb.f l i=some 0:=by
 unfold nat_limb.f
 rw [if_pos h]
theorem zcg {l:List Int} {m:Nat} (hm:l.length≤m):zb0 B32 (lmb l) m=val B32 l:=by
 have key:∀ k,k≤l.length→zb0 B32 (lmb l) k=val B32 (l.take k):=by
  intro k
  induction k with
  | zero=>intro _; simp [zb0,val]
  | succ k ih =>
   intro hk
   rw [zb0,ih (by omega),List.take_succ_eq_append_getElem (by omega),val_snoc,List.length_take,Nat.min_eq_left (by omega)]
   unfold lmb
   rw [List.getD_eq_getElem?_getD,List.getElem?_eq_getElem (by omega),Option.getD_some,Nat.mul_comm]
 have key2:∀ j,zb0 B32 (lmb l) (l.length+j)=val B32 l:=by
  intro j
  induction j with
  | zero=>rw [Nat.add_zero,key _ (Nat.le_refl _),List.take_length]
  | succ j ih =>
   rw [← Nat.add_assoc,zb0,ih]
   unfold lmb
   rw [List.getD_eq_getElem?_getD,List.getElem?_eq_none (by omega)]
   simp
 obtain⟨j,rfl⟩:∃ j,m=l.length+j:=⟨m-l.length,by omega⟩
 exact key2 j
end Go.Proofs.YtehghijlchpeaaaGreat.Nat1
end
section
namespace Go.Proofs.YtehghijlchpeaaaGreat.Nat1
open Go.RowKit YtehghijlchpeaaaGreatW.PrintWords YtehghijlchpeaaaGreatW.PrintLast YtehghijlchpeaaaGreatW.PrintMore L Nt
theorem limb_q {W:World} {A:Option Addr} {c:Nat} {l:List Int} {i r:Int} (hC:Kd.C (Kd.int .u32) W A l.length l) (hc:l.length≤c) (h:nat_limb.f l i=some r) (n:Nat) :
  Calls Tryz.prog 174 #[.slice A l.length c,.int .i64 i] (W.drewN n) fun e w''=>e=.returned (.int .u64 r)∧∃ m,w''=W.drewN m :=
 Calls.quiet_of ((nat_limb.calls A c l i r _ (Kd.C_drewN hC _) hc h).mono fun e w' ⟨he,hd⟩=>⟨he,hd.out⟩)
theorem add1_calls (A0:Option Addr) (c0:Nat) (l0:List Int) (A1:Option Addr) (c1:Nat) (l1:List Int) (b0 b1:Nat) (i:Nat) (W:World) (hi:i≤4398046511104) (h0:W.heap[b0]? = some (.cells #[.slice A0 l0.length c0] 25 (0,0))) (h1:W.heap[b1]? = some (.cells #[.slice A1 l1.length c1] 25 (0,0)))
  (hC0:Kd.C (Kd.int .u32) W A0 l0.length l0) (hC1:Kd.C (Kd.int .u32) W A1 l1.length l1) (hc0:l0.length≤c0) (hc1:l1.length≤c1) (ho0:ok B32 l0) (ho1:ok B32 l1) :
  Calls Tryz.prog 176 (#[.int .i64 (i:Int)]++#[.pointer (some ⟨b0,0,none⟩),.pointer (some ⟨b1,0,none⟩)]) W fun e w'=>e=.returned (.int .u64 (lmb l0 i+lmb l1 i))∧Drawn0 W w':=by
 have k0:=cell_of_one h0
 have k1:=cell_of_one h1
 have H0:=Aside0.mk (limb_q hC0 hc0 (zcy ho0 i))
 have H1:=Aside0.mk (limb_q hC1 hc1 (zcy ho1 i))
 have r0:=zbG ho0 i
 have r1:=zbG ho1 i
 clear h0 h1 hC0 hC1 hc0 hc1 ho0 ho1
 generalize lmb l0 i=x0 at *
 generalize lmb l1 i=x1 at *
 go_enter Tryz.func176,Tryz.ntmps176
 go_wp2_with fail
 go_quiet ((go_at_call 174; first | (with_reducible exact H0.out _) | (with_reducible exact H1.out _)))
 go_wp2
 go_ret
 exact⟨rfl,⟨⟨nq,rfl⟩⟩⟩
def okL (l:List Int):Prop:=ok B32 l∧l.length≤1099511627776
open Classical in
noncomputable def nat_Add.f (l0 l1:List Int):Option (List Int):=if okL l0∧okL l1 then some (dg B32 (val B32 l0+val B32 l1)) else none
theorem sumB_add (b:Nat) (f g:Nat→Int) (n:Nat) (hf:∀ i,i < n→0≤f i) (hg:∀ i,i < n→0≤g i):zb0 b (fun i=>f i+g i) n=zb0 b f n+zb0 b g n:=by
 induction n with
 | zero=>rfl
 | succ n ih =>
  simp only [zb0]
  rw [ih (fun i hi=>hf i (by omega)) (fun i hi=>hg i (by omega))]
  have h1:=hf n (by omega)
  have h2:=hg n (by omega)
  have e:(f n+g n).toNat=(f n).toNat+(g n).toNat:=by omega
  rw [e,Nat.add_mul]
  omega
theorem add_gather (A0:Option Addr) (c0:Nat) (l0:List Int) (A1:Option Addr) (c1:Nat) (l1:List Int) (w:World) (hr0:Kd.C (Kd.int .u32) w A0 l0.length l0) (hc0:l0.length≤c0) (hr1:Kd.C (Kd.int .u32) w A1 l1.length l1) (hc1:l1.length≤c1) (h:okL l0∧okL l1) (n:Nat) (h0:l0.length≤n) (h1:l1.length≤n) (hn:n≤1099511627776) :
  Calls Tryz.prog 168 #[.int .i64 (n:Int),.func (.func 176) #[] #[.pointer (some ⟨w.heap.size,0,none⟩),.pointer (some ⟨w.heap.size+1,0,none⟩)]] ((w.alloc (.cells #[.slice A0 l0.length c0] 25)).alloc (.cells #[.slice A1 l1.length c1] 25)) fun e w' =>
   ∃ v,e=.returned v∧Kd.R (Kd.int .u32) 81 w' w.heap.size (fun _=>True) v (dg B32 (val B32 l0+val B32 l1))∧Below w.heap.size w w':=by
 have hB0:=((Below.refl w.heap.size w).alloc (Nat.le_refl _) (.cells #[.slice A0 l0.length c0] 25)).alloc (by simp) (.cells #[.slice A1 l1.length c1] 25)
 have hs:((w.alloc (.cells #[.slice A0 l0.length c0] 25)).alloc (.cells #[.slice A1 l1.length c1] 25)).heap.size=w.heap.size+2:=by simp
 have hx0:((w.alloc (.cells #[.slice A0 l0.length c0] 25)).alloc (.cells #[.slice A1 l1.length c1] 25)).heap[w.heap.size]? = some (.cells #[.slice A0 l0.length c0] 25 (0,0)):=by
  rw [Below.heap_alloc _ _ _ (by simp)]; exact zbU w _
 have hx1:((w.alloc (.cells #[.slice A0 l0.length c0] 25)).alloc (.cells #[.slice A1 l1.length c1] 25)).heap[w.heap.size+1]? = some (.cells #[.slice A1 l1.length c1] 25 (0,0)):=by
  have:=zbU (w.alloc (.cells #[.slice A0 l0.length c0] 25)) (.cells #[.slice A1 l1.length c1] 25)
  simpa using this
 generalize ((w.alloc (.cells #[.slice A0 l0.length c0] 25)).alloc (.cells #[.slice A1 l1.length c1] 25))=W at *
 have e:zb0 B32 (fun i=>lmb l0 i+lmb l1 i) n=val B32 l0+val B32 l1:=by
  rw [sumB_add _ _ _ _ (fun i _=>(zbG h.1.1 i).1) (fun i _=>(zbG h.2.1 i).1),zcg h0,zcg h1]
 rw [← e]
 refine(gather_quiet n 176 _ (fun i=>lmb l0 i+lmb l1 i) (fun W'=>Below W.heap.size W W') W (zcr Tryz.func176 (by kernel_rfl) rfl) (Below.refl _ _) (fun _ _ hW hb=>hW.trans hb) ?_ ?_ (by omega)).mono ?_
 ·
  intro i W' hi hW
  exact add1_calls A0 c0 l0 A1 c1 l1 w.heap.size (w.heap.size+1) i W' (by omega) ((hW.block _ (by omega)).trans hx0) ((hW.block _ (by omega)).trans hx1) (Kd.C_below hr0 (zbm hB0 hW)) (Kd.C_below hr1 (zbm hB0 hW)) hc0 hc1 h.1.1 h.2.1
 ·
  intro i _
  have r0:=zbG h.1.1 i
  have r1:=zbG h.2.1 i
  omega
 ·
  rintro e w1 ⟨v,rfl,hR,hB⟩
  exact⟨v,rfl,Kd.R_lower hR (by omega),zbm hB0 hB⟩
theorem nat_Add.calls (A0:Option Addr) (c0:Nat) (l0:List Int) (A1:Option Addr) (c1:Nat) (l1:List Int) (r:List Int) (w:World) (hr0:Kd.C (Kd.int .u32) w A0 l0.length l0) (hc0:l0.length≤c0) (hr1:Kd.C (Kd.int .u32) w A1 l1.length l1) (hc1:l1.length≤c1) (h:nat_Add.f l0 l1=some r) :
  Calls Tryz.prog 164 #[.slice A0 l0.length c0,.slice A1 l1.length c1] w fun e w'=>∃ v0_:Value,e=.returned (v0_)∧Kd.R (Kd.int .u32) 81 w' w.heap.size (fun _=>True) v0_ r∧Below w.heap.size w w':=by
 unfold nat_Add.f at h
 split at h
 ·
  rename_i hr
  obtain rfl:=Option.some.inj h
  have HG:=Aside0.mk (add_gather A0 c0 l0 A1 c1 l1 w hr0 hc0 hr1 hc1 hr)
  have hb0:=hr.1.2
  have hb1:=hr.2.2
  clear h hr hr0 hr1 hc0 hc1
  go_enter Tryz.func164,Tryz.ntmps164
  go_wp2_with fail
  all_goals
   refine(HG.out _ (by omega) (by omega) (by omega)).mono ?_
   rintro e w1 ⟨v,rfl,hR,hB⟩
   obtain⟨A,c,rfl⟩:=Kd.R_slice hR
   have HR:=Aside0.mk hR
   have HB:=Aside0.mk hB
   clear hR hB
   go_wp2
   go_ret
   exact⟨_,rfl,HR.out,HB.out⟩
 ·
  cases h
end Go.Proofs.YtehghijlchpeaaaGreat.Nat1
end
