/- Part 11 of the proof of tensorDotsUpto_holds: what it uses, in build order. -/
import Derived.Test.YtehghijlchpeaaaGreatV09
import Derived.Laws.BitsAllLaws
set_option maxHeartbeats 8000000
set_option maxRecDepth 100000
set_option linter.unusedVariables false
set_option linter.unusedSimpArgs false
set_option linter.unusedSectionVars false
section
namespace Go.Proofs.YtehghijlchpeaaaGreat.Nat1
open Go.RowKit YtehghijlchpeaaaGreatW.PrintWords YtehghijlchpeaaaGreatW.PrintLast YtehghijlchpeaaaGreatW.PrintMore L Nt
def lmbP (l:List Int) (i:Nat):Int:=if i=0 then 0 else lmb l (i-1)
theorem limb_pred {l:List Int} (h:ok B32 l) (i:Nat):nat_limb.f l ((i:Int)-1)=some (lmbP l i):=by
 unfold lmbP
 cases i with
 | zero=>exact limb_neg l _ (by omega)
 | succ i =>
  rw [if_neg (by omega)]
  have e:(((i+1:Nat):Int)-1)=(i:Int):=by omega
  rw [e]
  exact zcy h i
theorem lmbP_range {l:List Int} (h:ok B32 l) (i:Nat):0≤lmbP l i∧lmbP l i < 4294967296:=by
 unfold lmbP
 split
 ·
  omega
 ·
  exact zbG h _
theorem or_add {x y:Int} (hx:0≤x) (hx2:x < 4294967296) (hy:0≤y) (hy2:y < 4294967296):bits BinOp.or IntKind.u64 (x*4294967296) y=x*4294967296+y:=by
 rw [u64_or _ _ (by omega) (by omega) hy (by omega)]
 have e:(x*4294967296).toNat=2 ^ 32*x.toNat:=by
  show _=4294967296*x.toNat
  omega
 have h:=Nat.two_pow_add_eq_or_of_lt (i:=32) (b:=y.toNat) (by show y.toNat < 4294967296; omega) x.toNat
 rw [e,← h]
 show (((4294967296*x.toNat+y.toNat:Nat)):Int)=_
 omega
theorem div_pow (a c:Int) (n:Nat) (hn:n < 32) (hc:0≤c) (hc2:c < (2 ^ n:Nat)):(a*(2 ^ n:Nat)+c) / 4294967296=(a*(2 ^ n:Nat)) / 4294967296:=by
 have hpq:((2 ^ n:Nat):Int)*((2 ^ (32-n):Nat):Int)=4294967296:=by
  rw [← Int.natCast_mul,← Nat.pow_add,show n+(32-n)=32 by omega]
  rfl
 have hp:(0:Int) < ((2 ^ n:Nat):Int):=by have:=Nat.pow_pos (n:=n) (show 0 < 2 by omega); omega
 rw [← hpq,← Int.ediv_ediv_of_nonneg (by omega),← Int.ediv_ediv_of_nonneg (by omega),Int.add_comm,Int.add_mul_ediv_right _ _ (by omega),Int.ediv_eq_zero_of_lt hc hc2,Int.zero_add,Int.mul_ediv_cancel _ (by omega)]
theorem two_pow_lt (n:Nat) (hn:n < 32):0 < ((2 ^ n:Nat):Int)∧((2 ^ n:Nat):Int) < 4294967296:=by
 have h1:=Nat.pow_pos (n:=n) (show 0 < 2 by omega)
 have h2:2 ^ n < 2 ^ 32:=Nat.pow_lt_pow_right (by omega) hn
 have h3:2 ^ 32=4294967296:=rfl
 omega
theorem cr_pow {l:List Int} (h:ok B32 l) (n:Nat) (hn:n < 32) (i:Nat):cr l (2 ^ n:Nat) i=(lmbP l i*(2 ^ n:Nat)) / 4294967296∧cr l (2 ^ n:Nat) i < (2 ^ n:Nat):=by
 have hp:=two_pow_lt n hn
 induction i with
 | zero=>exact⟨by simp [cr,lmbP],hp.1⟩
 | succ i ih =>
  have h1:=cr_range h (m:=(2 ^ n:Nat)) (by omega) (by omega) i
  have h2:=zbG h i
  have e:cr l (2 ^ n:Nat) (i+1)=(lmb l i*(2 ^ n:Nat)) / 4294967296:=by
   show (lmb l i*(2 ^ n:Nat)+cr l (2 ^ n:Nat) i) / 4294967296=_
   exact div_pow _ _ n hn h1.1 ih.2
  refine⟨by rw [e]; simp [lmbP],?_⟩
  rw [e]
  refine Int.ediv_lt_of_lt_mul (by omega) ?_
  rw [Int.mul_comm]
  exact Int.mul_lt_mul_of_pos_left h2.2 hp.1
theorem shl_law {x0 x1:Int} (p:Int) (h0:0≤x0) (h1:0≤x1):((x0*4294967296+x1)*p) % 18446744073709551616 / 4294967296 % 4294967296=(x0*p+x1*p / 4294967296) % 4294967296:=by
 have e:(x0*4294967296+x1)*p=x0*p*4294967296+x1*p:=by rw [Int.add_mul,Int.mul_right_comm]
 rw [e]
 omega
theorem shl1_calls (A0:Option Addr) (c0:Nat) (l0:List Int) (b0 b1:Nat) (n:Nat) (hn:n < 32) (i:Nat) (W:World) (hi:i≤4398046511104) (h0:W.heap[b0]? = some (.cells #[.slice A0 l0.length c0] 25 (0,0))) (h1:W.heap[b1]? = some (.cells #[.int .i64 (n:Int)] 3 (0,0)))
  (hC0:Kd.C (Kd.int .u32) W A0 l0.length l0) (hc0:l0.length≤c0) (ho0:ok B32 l0) :
  Calls Tryz.prog 188 (#[.int .i64 (i:Int)]++#[.pointer (some ⟨b1,0,none⟩),.pointer (some ⟨b0,0,none⟩)]) W fun e w'=>e=.returned (.int .u64 (rowAt l0 (2 ^ n:Nat) 0 i))∧Drawn0 W w':=by
 have k0:=cell_of_one h0
 have k1:=cell_of_one h1
 have H0:=Aside0.mk (limb_q hC0 hc0 (zcy ho0 i))
 have H1:=Aside0.mk (limb_q hC0 hc0 (limb_pred ho0 i))
 have r0:=zbG ho0 i
 have r1:=lmbP_range ho0 i
 have hq:(n:Int) / 32=0:=by omega
 have hm:(n:Int) % 32=n:=by omega
 have HS1:=Aside0.mk (show IntKind.i64.wrap ((i:Int)-1)=(i:Int)-1 by rw [zcb]; unfold wrap64; omega)
 have HE:=Aside0.mk (show rowAt l0 (2 ^ n:Nat) 0 i=(lmb l0 i*(2 ^ n:Nat)+lmbP l0 i*(2 ^ n:Nat) / 4294967296) % 4294967296 by rw [← (cr_pow ho0 n hn i).1]; rfl)
 clear h0 h1 hC0 hc0 ho0
 generalize rowAt l0 (2 ^ n:Nat) 0 i=ra at HE ⊢
 generalize lmb l0 i=x0 at *
 generalize lmbP l0 i=x1 at *
 go_enter Tryz.func188,Tryz.ntmps188
 go_wp2_with fail
 go_quiet ((go_at_call 174; (try rw [HS1.out]); first | (with_reducible exact H0.out _) | (with_reducible exact H1.out _)))
 go_wp2
 go_ret
 refine⟨?_,⟨⟨nq,rfl⟩⟩⟩
 show Ending.returned (.int .u64 (bits BinOp.and IntKind.u64 (IntKind.u64.wrap (bits BinOp.or IntKind.u64 (x0*4294967296) x1*2 ^ n) / 4294967296) 4294967295))=_
 rw [or_add r0.1 r0.2 r1.1 r1.2,zci,and_low32 _ (by omega) (by omega),HE.out,shl_law _ r0.1 r1.1]
 simp
theorem shl_gather (A0:Option Addr) (c0:Nat) (l0:List Int) (n:Nat) (hn:n < 32) (w:World) (hr0:Kd.C (Kd.int .u32) w A0 l0.length l0) (hc0:l0.length≤c0) (h:okL l0)
  (W:World) (hb:Below w.heap.size w W) (x0:W.heap[w.heap.size]? = some (.cells #[.slice A0 l0.length c0] 25 (0,0))) (x1:W.heap[w.heap.size+1]? = some (.cells #[.int .i64 (n:Int)] 3 (0,0))) :
  Calls Tryz.prog 168 #[.int .i64 ((l0.length+1:Nat):Int),.func (.func 188) #[] #[.pointer (some ⟨w.heap.size+1,0,none⟩),.pointer (some ⟨w.heap.size,0,none⟩)]] W fun e w' =>
   ∃ v,e=.returned v∧Kd.R (Kd.int .u32) 81 w' w.heap.size (fun _=>True) v (dg B32 (val B32 l0*2 ^ n))∧Below w.heap.size w w':=by
 have hp:=two_pow_lt n hn
 have hl:=h.2
 have hlt:=lt_of_block x1
 have e:=sum_row_all h.1 (m:=(2 ^ n:Nat)) (by omega) (by omega) 0
 rw [Int.toNat_natCast,Nat.pow_zero,Nat.mul_one,Nat.add_zero] at e
 rw [← e]
 refine(gather_quiet (l0.length+1) 188 _ (rowAt l0 (2 ^ n:Nat) 0) (fun W'=>Below W.heap.size W W') W (zcr Tryz.func188 (by kernel_rfl) rfl) (Below.refl _ _) (fun _ _ hW hb=>hW.trans hb) ?_ ?_ (by omega)).mono ?_
 ·
  intro i W' hi hW
  exact shl1_calls A0 c0 l0 w.heap.size (w.heap.size+1) n hn i W' (by omega) ((hW.block _ (by omega)).trans x0) ((hW.block _ (by omega)).trans x1) (Kd.C_below hr0 (zbm hb hW)) hc0 h.1
 ·
  intro i _
  have:=rowAt_range l0 (2 ^ n:Nat) 0 i
  omega
 ·
  rintro e w1 ⟨v,rfl,hR,hB⟩
  exact⟨v,rfl,Kd.R_lower hR hb.size,zbm hb hB⟩
theorem zcz {l:List Int} (i:Nat):val B32 (l.drop i)=(lmb l i).toNat+B32*val B32 (l.drop (i+1)):=by
 unfold lmb
 rcases Nat.lt_or_ge i l.length with h | h
 ·
  rw [List.drop_eq_getElem_cons h,zcB,List.getD_eq_getElem?_getD,List.getElem?_eq_getElem h,Option.getD_some]
 ·
  rw [List.drop_eq_nil_of_le h,List.drop_eq_nil_of_le (by omega),List.getD_eq_getElem?_getD,List.getElem?_eq_none h]
  rfl
theorem sumB_lt_pow {f:Nat→Int} (hf:∀ i,0≤f i∧f i < (B32:Int)) (k:Nat):zb0 B32 f k < B32 ^ k:=by
 induction k with
 | zero=>simp [zb0]
 | succ k ih =>
  have h7:=hf k
  have h8:(f k).toNat+1≤B32:=by omega
  have h9:=Nat.mul_le_mul_right (B32 ^ k) h8
  rw [Nat.add_mul,Nat.one_mul] at h9
  rw [zb0,Nat.pow_succ,Nat.mul_comm (B32 ^ k) B32]
  omega
theorem val_div_pow {l:List Int} (h:ok B32 l) (i:Nat):val B32 l / B32 ^ i=val B32 (l.drop i):=by
 have hb:0 < B32 ^ i:=Nat.pow_pos (by decide)
 have h1:=val_split l i
 have h2:=sumB_lt_pow (f:=lmb l) (fun i=>by have:=zbG h i; unfold B32; omega) i
 rw [h1,Nat.add_comm,Nat.mul_comm,Nat.add_comm,Nat.add_mul_div_right _ _ hb,Nat.div_eq_of_lt h2,Nat.zero_add]
theorem sum_digits (Y n:Nat):zb0 B32 (fun i=>((Y / B32 ^ i % B32:Nat):Int)) n=Y % B32 ^ n:=by
 induction n with
 | zero=>simp [zb0,Nat.mod_one]
 | succ n ih =>
  rw [zb0,ih,Int.toNat_natCast,Nat.mod_pow_succ,Nat.mul_comm]
def shrAt (l:List Int) (n i:Nat):Int:=(lmb l (i+1)*4294967296+lmb l i) / (2 ^ n:Nat) % 4294967296
theorem shr_digit {l:List Int} (h:ok B32 l) (n:Nat) (hn:n < 32) (i:Nat):shrAt l n i=((val B32 l / 2 ^ n / B32 ^ i % B32:Nat):Int):=by
 have h0:=zbG h i
 have h1:=zbG h (i+1)
 have hp:0 < 2 ^ n:=Nat.pow_pos (by omega)
 rw [Nat.div_div_eq_div_mul,Nat.mul_comm,← Nat.div_div_eq_div_mul,val_div_pow h,zcz,zcz]
 have hq:B32=2 ^ n*2 ^ (32-n):=by rw [← Nat.pow_add,show n+(32-n)=32 by omega]; rfl
 generalize val B32 (l.drop (i+1+1))=T
 unfold shrAt
 have e:(lmb l i).toNat+B32*((lmb l (i+1)).toNat+B32*T)=((lmb l i).toNat+B32*(lmb l (i+1)).toNat)+2 ^ n*(B32*(2 ^ (32-n)*T)):=by
  rw [Nat.mul_add,← Nat.add_assoc]
  congr 1
  have:B32*(B32*T)=B32*((2 ^ n*2 ^ (32-n))*T):=by rw [← hq]
  rw [this]
  simp only [Nat.mul_comm,Nat.mul_left_comm,Nat.mul_assoc]
 rw [e,Nat.add_mul_div_left _ _ hp,Nat.add_mul_mod_self_left]
 rw [Int.natCast_emod,Int.natCast_ediv]
 have e2:(((lmb l i).toNat+B32*(lmb l (i+1)).toNat:Nat):Int)=lmb l (i+1)*4294967296+lmb l i:=by unfold B32; omega
 rw [e2]
 rfl
theorem sum_shr {l:List Int} (h:ok B32 l) (n:Nat) (hn:n < 32):zb0 B32 (shrAt l n) l.length=val B32 l / 2 ^ n:=by
 have e:zb0 B32 (shrAt l n) l.length=zb0 B32 (fun i=>((val B32 l / 2 ^ n / B32 ^ i % B32:Nat):Int)) l.length:=zcc (fun y _=>shr_digit h n hn y)
 rw [e,sum_digits]
 exact Nat.mod_eq_of_lt (Nat.lt_of_le_of_lt (Nat.div_le_self _ _) (val_lt h))
theorem shr1_calls (A0:Option Addr) (c0:Nat) (l0:List Int) (b0 b1:Nat) (n:Nat) (hn:n < 32) (i:Nat) (W:World) (hi:i≤4398046511104) (h0:W.heap[b0]? = some (.cells #[.slice A0 l0.length c0] 25 (0,0))) (h1:W.heap[b1]? = some (.cells #[.int .i64 (n:Int)] 3 (0,0)))
  (hC0:Kd.C (Kd.int .u32) W A0 l0.length l0) (hc0:l0.length≤c0) (ho0:ok B32 l0) :
  Calls Tryz.prog 191 (#[.int .i64 (i:Int)]++#[.pointer (some ⟨b1,0,none⟩),.pointer (some ⟨b0,0,none⟩)]) W fun e w'=>e=.returned (.int .u64 (shrAt l0 n i))∧Drawn0 W w':=by
 have k0:=cell_of_one h0
 have k1:=cell_of_one h1
 have H0:=Aside0.mk (limb_q hC0 hc0 (zcy ho0 i))
 have H1:=Aside0.mk (limb_q hC0 hc0 (zcy ho0 (i+1)))
 have r0:=zbG ho0 i
 have r1:=zbG ho0 (i+1)
 have hq:(n:Int) / 32=0:=by omega
 have hm:(n:Int) % 32=n:=by omega
 have HS1:=Aside0.mk (show IntKind.i64.wrap ((i:Int)+1)=((i+1:Nat):Int) by rw [zcb]; unfold wrap64; omega)
 have HS2:=Aside0.mk (show ((i:Int)+1)=((i+1:Nat):Int) by omega)
 have HE:=Aside0.mk (show shrAt l0 n i=(lmb l0 (i+1)*4294967296+lmb l0 i) / (2 ^ n:Nat) % 4294967296 from rfl)
 clear h0 h1 hC0 hc0 ho0
 generalize shrAt l0 n i=ra at HE ⊢
 generalize lmb l0 i=x0 at *
 generalize lmb l0 (i+1)=x1 at *
 go_enter Tryz.func191,Tryz.ntmps191
 go_wp2_with fail
 go_quiet ((go_at_call 174; (first | rw [HS1.out] | rw [HS2.out] | skip); first | (with_reducible exact H0.out _) | (with_reducible exact H1.out _)))
 go_wp2
 go_ret
 refine⟨?_,⟨⟨nq,rfl⟩⟩⟩
 show Ending.returned (.int .u64 (bits BinOp.and IntKind.u64 (bits BinOp.or IntKind.u64 (x1*4294967296) x0 / 2 ^ n) 4294967295))=_
 have hp:=two_pow_lt n hn
 have e:((2:Int) ^ n)=((2 ^ n:Nat):Int):=by simp
 rw [or_add r1.1 r1.2 r0.1 r0.2,e,and_low32 _ (Int.ediv_nonneg (by omega) (by omega)) (Int.lt_of_le_of_lt (Int.ediv_le_self _ (by omega)) (by omega)),HE.out]
theorem shr_gather (A0:Option Addr) (c0:Nat) (l0:List Int) (n:Nat) (hn:n < 32) (w:World) (hr0:Kd.C (Kd.int .u32) w A0 l0.length l0) (hc0:l0.length≤c0) (h:okL l0)
  (W:World) (hb:Below w.heap.size w W) (x0:W.heap[w.heap.size]? = some (.cells #[.slice A0 l0.length c0] 25 (0,0))) (x1:W.heap[w.heap.size+1]? = some (.cells #[.int .i64 (n:Int)] 3 (0,0))) :
  Calls Tryz.prog 168 #[.int .i64 (l0.length:Int),.func (.func 191) #[] #[.pointer (some ⟨w.heap.size+1,0,none⟩),.pointer (some ⟨w.heap.size,0,none⟩)]] W fun e w' =>
   ∃ v,e=.returned v∧Kd.R (Kd.int .u32) 81 w' w.heap.size (fun _=>True) v (dg B32 (val B32 l0 / 2 ^ n))∧Below w.heap.size w w':=by
 have hp:=two_pow_lt n hn
 have hl:=h.2
 have hlt:=lt_of_block x1
 rw [← sum_shr h.1 n hn]
 refine(gather_quiet l0.length 191 _ (shrAt l0 n) (fun W'=>Below W.heap.size W W') W (zcr Tryz.func191 (by kernel_rfl) rfl) (Below.refl _ _) (fun _ _ hW hb=>hW.trans hb) ?_ ?_ (by omega)).mono ?_
 ·
  intro i W' hi hW
  exact shr1_calls A0 c0 l0 w.heap.size (w.heap.size+1) n hn i W' (by omega) ((hW.block _ (by omega)).trans x0) ((hW.block _ (by omega)).trans x1) (Kd.C_below hr0 (zbm hb hW)) hc0 h.1
 ·
  intro i _
  unfold shrAt
  omega
 ·
  rintro e w1 ⟨v,rfl,hR,hB⟩
  exact⟨v,rfl,Kd.R_lower hR hb.size,zbm hb hB⟩
open Classical in
noncomputable def nat_Shl.f (l0:List Int) (a1:Int):Option (List Int):=if okL l0∧0≤a1∧a1 < 32 then some (dg B32 (val B32 l0*2 ^ a1.toNat)) else none
open Classical in
noncomputable def nat_Shr.f (l0:List Int) (a1:Int):Option (List Int):=if okL l0∧0≤a1∧a1 < 32 then some (dg B32 (val B32 l0 / 2 ^ a1.toNat)) else none
theorem nat_Shl.calls (A0:Option Addr) (c0:Nat) (l0:List Int) (a1:Int) (r:List Int) (w:World) (hr0:Kd.C (Kd.int .u32) w A0 l0.length l0) (hc0:l0.length≤c0) (h:nat_Shl.f l0 a1=some r) :
  Calls Tryz.prog 181 #[.slice A0 l0.length c0,.int .i64 a1] w fun e w'=>∃ v0_:Value,e=.returned (v0_)∧Kd.R (Kd.int .u32) 81 w' w.heap.size (fun _=>True) v0_ r∧Below w.heap.size w w':=by
 unfold nat_Shl.f at h
 split at h
 ·
  rename_i hr
  obtain rfl:=Option.some.inj h
  obtain⟨hk,h0,h32⟩:=hr
  obtain⟨n,rfl⟩:=Int.eq_ofNat_of_zero_le h0
  rw [Int.toNat_natCast]
  have hl0:=hk.2
  obtain⟨kt,t,ht,htl,htz,htc⟩:=top_spec l0 (by omega)
  have HG:=Aside0.mk (shl_gather A0 c0 l0 n (by omega) w hr0 hc0 hk)
  have HT:=Aside0.mk (fun W hb=>nat_top.calls kt A0 c0 l0 (t:Int) W (Kd.C_below hr0 hb) hc0 ht)
  have HV:=Aside0.mk (top_dg zby hk.1 htz htc)
  have HX:Aside0 (Below w.heap.size w ((w.alloc (.cells #[.slice A0 l0.length c0] 25)).alloc (.cells #[.int .i64 (n:Int)] 3))∧((w.alloc (.cells #[.slice A0 l0.length c0] 25)).alloc (.cells #[.int .i64 (n:Int)] 3)).heap[w.heap.size]? = some (.cells #[.slice A0 l0.length c0] 25 (0,0))∧((w.alloc (.cells #[.slice A0 l0.length c0] 25)).alloc (.cells #[.int .i64 (n:Int)] 3)).heap[w.heap.size+1]? = some (.cells #[.int .i64 (n:Int)] 3 (0,0))):=by
   refine⟨((Below.refl w.heap.size w).alloc (Nat.le_refl _) _).alloc (by simp) _,?_,?_⟩
   ·
    rw [Below.heap_alloc _ _ _ (by simp)]; exact zbU w _
   ·
    simpa using zbU (w.alloc (.cells #[.slice A0 l0.length c0] 25)) (.cells #[.int .i64 (n:Int)] 3)
  have HOK:=Aside0.mk hk.1
  have hn:n < 32:=by omega
  have hq:(n:Int) / 32=0:=by omega
  clear h hk ht htz htc hr0 hc0 h0 h32
  go_enter Tryz.func181,Tryz.ntmps181
  go_wp2_with fail
  refine(HT.out _ HX.out.1).mono ?_
  rintro e w1 ⟨rfl,hd⟩
  obtain⟨q,rfl⟩:=hd.out
  clear hd
  by_cases ht0:t=0
  ·
   subst ht0
   go_wp2
   go_ret
   have hv:val B32 l0=0:=(zcl zby _).1 (by rw [← HV.out]; simp)
   rw [hv,Nat.zero_mul,zbT]
   exact⟨_,rfl,Kd.R_nil _ _ _ _ _,zbo HX.out.1 q⟩
  ·
   have htb:((t:Int) == 0)=false:=beq_eq_false_iff_ne.2 (by omega)
   have HG1:=Aside0.mk (HG.out _ (zbo HX.out.1 q) HX.out.2.1 HX.out.2.2)
   have HS:=Aside0.mk (show ((l0.length:Int)+1)=((l0.length+1:Nat):Int) by omega)
   clear HG HT HX
   go_wp2_with fail
   rw [HS.out]
   refine HG1.out.mono ?_
   rintro e w2 ⟨v,rfl,hR,hB⟩
   obtain⟨A,c,rfl⟩:=Kd.R_slice hR
   have HR:=Aside0.mk hR
   have HB:=Aside0.mk hB
   clear hR hB
   go_wp2
   go_ret
   exact⟨_,rfl,HR.out,HB.out⟩
 ·
  cases h
theorem nat_Shr.calls (A0:Option Addr) (c0:Nat) (l0:List Int) (a1:Int) (r:List Int) (w:World) (hr0:Kd.C (Kd.int .u32) w A0 l0.length l0) (hc0:l0.length≤c0) (h:nat_Shr.f l0 a1=some r) :
  Calls Tryz.prog 185 #[.slice A0 l0.length c0,.int .i64 a1] w fun e w'=>∃ v0_:Value,e=.returned (v0_)∧Kd.R (Kd.int .u32) 81 w' w.heap.size (fun _=>True) v0_ r∧Below w.heap.size w w':=by
 unfold nat_Shr.f at h
 split at h
 ·
  rename_i hr
  obtain rfl:=Option.some.inj h
  obtain⟨hk,h0,h32⟩:=hr
  obtain⟨n,rfl⟩:=Int.eq_ofNat_of_zero_le h0
  rw [Int.toNat_natCast]
  have hl0:=hk.2
  have HG:=Aside0.mk (shr_gather A0 c0 l0 n (by omega) w hr0 hc0 hk)
  have HX:Aside0 (Below w.heap.size w ((w.alloc (.cells #[.slice A0 l0.length c0] 25)).alloc (.cells #[.int .i64 (n:Int)] 3))∧((w.alloc (.cells #[.slice A0 l0.length c0] 25)).alloc (.cells #[.int .i64 (n:Int)] 3)).heap[w.heap.size]? = some (.cells #[.slice A0 l0.length c0] 25 (0,0))∧((w.alloc (.cells #[.slice A0 l0.length c0] 25)).alloc (.cells #[.int .i64 (n:Int)] 3)).heap[w.heap.size+1]? = some (.cells #[.int .i64 (n:Int)] 3 (0,0))):=by
   refine⟨((Below.refl w.heap.size w).alloc (Nat.le_refl _) _).alloc (by simp) _,?_,?_⟩
   ·
    rw [Below.heap_alloc _ _ _ (by simp)]; exact zbU w _
   ·
    simpa using zbU (w.alloc (.cells #[.slice A0 l0.length c0] 25)) (.cells #[.int .i64 (n:Int)] 3)
  have hn:n < 32:=by omega
  have hq:(n:Int) / 32=0:=by omega
  clear h hk hr0 hc0 h0 h32
  by_cases hz:l0=[]
  ·
   subst hz
   clear HG
   go_enter Tryz.func185,Tryz.ntmps185
   go_wp2
   go_ret
   rw [val_nil,Nat.zero_div,zbT]
   exact⟨_,rfl,Kd.R_nil _ _ _ _ _,HX.out.1⟩
  ·
   have hzp:0 < l0.length:=List.length_pos_iff.2 hz
   have HG1:=Aside0.mk (HG.out _ HX.out.1 HX.out.2.1 HX.out.2.2)
   clear HG HX
   go_enter Tryz.func185,Tryz.ntmps185
   go_wp2_with fail
   refine HG1.out.mono ?_
   rintro e w2 ⟨v,rfl,hR,hB⟩
   obtain⟨A,c,rfl⟩:=Kd.R_slice hR
   have HR:=Aside0.mk hR
   have HB:=Aside0.mk hB
   clear hR hB
   go_wp2
   go_ret
   exact⟨_,rfl,HR.out,HB.out⟩
 ·
  cases h
end Go.Proofs.YtehghijlchpeaaaGreat.Nat1
end
