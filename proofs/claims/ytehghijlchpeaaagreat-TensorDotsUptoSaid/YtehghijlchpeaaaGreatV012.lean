/- Part 13 of the proof of tensorDotsUpto_holds: what it uses, in build order. -/
import Derived.Test.YtehghijlchpeaaaGreatV011
import Derived.BigQuiet
import Derived.WalkMore
set_option maxHeartbeats 8000000
set_option maxRecDepth 100000
set_option linter.unusedVariables false
set_option linter.unusedSimpArgs false
set_option linter.unusedSectionVars false
section
namespace Go.Proofs.YtehghijlchpeaaaGreat.Nat1
open Go.RowKit YtehghijlchpeaaaGreatW.PrintWords YtehghijlchpeaaaGreatW.PrintLast YtehghijlchpeaaaGreatW.PrintMore L Nt
structure QI (u1 u2 u3 v1 v2 q r:Int):Prop where
 e:q*v1+r=u1*4294967296+u2
 r0:0≤r∧r < 4294967296
 q0:0≤q∧q < 8589934592
 up:∀ t:Int,0≤t→t < 4294967296→t*(v1*4294967296+v2)≤(u1*4294967296+u2)*4294967296+u3→t≤q
structure QR (u1 u2 u3 v1 v2 q:Int):Prop where
 q0:0≤q∧q < 4294967296
 lo:q*(v1*4294967296+v2)≤(u1*4294967296+u2)*4294967296+u3
 up:∀ t:Int,0≤t→t < 4294967296→t*(v1*4294967296+v2)≤(u1*4294967296+u2)*4294967296+u3→t≤q
theorem mul_split (t v1 v2:Int):t*(v1*4294967296+v2)=t*v1*4294967296+t*v2:=by rw [Int.mul_add,Int.mul_assoc]
theorem QI.start {u1 u2 u3 v1 v2:Int} (hu1:0≤u1∧u1 < 4294967296) (hu2:0≤u2∧u2 < 4294967296) (hu3:0≤u3∧u3 < 4294967296) (hv1:2147483648≤v1∧v1 < 4294967296) (hv2:0≤v2∧v2 < 4294967296) (hle:u1≤v1) :
  QI u1 u2 u3 v1 v2 ((u1*4294967296+u2) / v1) ((u1*4294967296+u2) % v1):=by
 have e:=Int.ediv_mul_add_emod (u1*4294967296+u2) v1
 have h1:=Int.emod_nonneg (u1*4294967296+u2) (show v1≠0 by omega)
 have h2:=Int.emod_lt_of_pos (u1*4294967296+u2) (show 0 < v1 by omega)
 have h3:0≤(u1*4294967296+u2) / v1:=Int.ediv_nonneg (by omega) (by omega)
 have h4:(u1*4294967296+u2) / v1 < 8589934592:=Int.ediv_lt_of_lt_mul (by omega) (by omega)
 refine⟨e,⟨h1,by omega⟩,⟨h3,h4⟩,?_⟩
 intro t ht0 ht1 ht
 rw [mul_split] at ht
 have h5:0≤t*v2:=Int.mul_nonneg ht0 hv2.1
 refine(Int.le_ediv_iff_mul_le (by omega)).mpr ?_
 omega
theorem QI.down {u1 u2 u3 v1 v2 q r:Int} (h:QI u1 u2 u3 v1 v2 q r) (hv1:0≤v1∧v1 < 4294967296) (hv2:0≤v2∧v2 < 4294967296) (hu3:0≤u3) (hc:4294967296≤q∨r*4294967296+u3 < q*v2) :
  1≤q∧(q-1)*v1+(r+v1)=u1*4294967296+u2∧(∀ t:Int,0≤t→t < 4294967296→t*(v1*4294967296+v2)≤(u1*4294967296+u2)*4294967296+u3→t≤q-1):=by
 have hq:1≤q:=by
  rcases hc with hc | hc
  ·
   omega
  ·
   rcases Int.lt_or_le 0 q with h0 | h0
   ·
    omega
   ·
    have:q=0:=by have:=h.q0; omega
    subst this
    have:=h.r0
    omega
 have e:=h.e
 refine⟨hq,by rw [Int.sub_mul]; omega,?_⟩
 intro t h0 h1 ht
 have h2:=h.up t h0 h1 ht
 rcases hc with hc | hc
 ·
  omega
 ·
  rcases Int.lt_or_le t q with h3 | h3
  ·
   omega
  ·
   have:t=q:=by omega
   subst this
   rw [mul_split,← e] at ht
   omega
theorem QI.go {u1 u2 u3 v1 v2 q r:Int} (h:QI u1 u2 u3 v1 v2 q r) (hv1:0≤v1∧v1 < 4294967296) (hv2:0≤v2∧v2 < 4294967296) (hu3:0≤u3) (hc:4294967296≤q∨r*4294967296+u3 < q*v2) (hr:r+v1 < 4294967296) :
  QI u1 u2 u3 v1 v2 (q-1) (r+v1):=by
 obtain⟨h1,h2,h3⟩:=h.down hv1 hv2 hu3 hc
 exact⟨h2,⟨by have:=h.r0; omega,hr⟩,⟨by omega,by have:=h.q0; omega⟩,h3⟩
theorem QI.out {u1 u2 u3 v1 v2 q r:Int} (h:QI u1 u2 u3 v1 v2 q r) (hv1:1≤v1∧v1 < 4294967296) (hv2:0≤v2∧v2 < 4294967296) (hu2:0≤u2∧u2 < 4294967296) (hu3:0≤u3) (hle:u1≤v1) (hc:4294967296≤q∨r*4294967296+u3 < q*v2) (hr:4294967296≤r+v1) :
  QR u1 u2 u3 v1 v2 (q-1):=by
 obtain⟨h1,h2,h3⟩:=h.down ⟨by omega,hv1.2⟩ hv2 hu3 hc
 have hq:q-1 < 4294967296:=by
  rcases Int.lt_or_le (q-1) 4294967296 with h4 | h4
  ·
   exact h4
  ·
   have h5:4294967296*v1≤(q-1)*v1:=Int.mul_le_mul_of_nonneg_right h4 (by omega)
   omega
 refine⟨⟨by omega,hq⟩,?_,h3⟩
 rw [mul_split,← h2]
 have h6:=prod_range (show 0≤q-1 by omega) hq hv2.1 hv2.2
 omega
theorem QI.stop {u1 u2 u3 v1 v2 q r:Int} (h:QI u1 u2 u3 v1 v2 q r) (hq:q < 4294967296) (hc:q*v2≤r*4294967296+u3) :
  QR u1 u2 u3 v1 v2 q:=by
 refine⟨⟨h.q0.1,hq⟩,?_,h.up⟩
 have e:=h.e
 rw [mul_split,← e]
 omega
def GuessPost (u1 u2 u3 v1 v2:Int) (w:World) (e:Ending) (w':World):Prop:=∃ q,e=.returned (.int .u64 q)∧(∃ m,w'=w.drewN m)∧QR u1 u2 u3 v1 v2 q
theorem guess_calls (g j n cp:Nat) (A1:Option Addr) (c1:Nat) (u1 u2 u3 v1 v2:Int) (w:World) (hn:2≤n) (hn2:n≤4398046511104) (hj2:j≤4398046511104)
  (h1:w.cell? ⟨g,j+n,none⟩=some (.int .u32 u1)∧w.frozen? ⟨g,j+n,none⟩=false)
  (h2:w.cell? ⟨g,j+(n-1),none⟩=some (.int .u32 u2)∧w.frozen? ⟨g,j+(n-1),none⟩=false)
  (h3:w.cell? ⟨g,j+(n-2),none⟩=some (.int .u32 u3)∧w.frozen? ⟨g,j+(n-2),none⟩=false)
  (l1:List Int) (hl:l1.length=n) (hC:Kd.C (Kd.int .u32) w A1 n l1) (e1:lmb l1 (n-1)=v1) (e2:lmb l1 (n-2)=v2) (hcp:n+1≤cp) (hc1:n≤c1)
  (hu1:0≤u1∧u1 < 4294967296) (hu2:0≤u2∧u2 < 4294967296) (hu3:0≤u3∧u3 < 4294967296) (hv1:2147483648≤v1∧v1 < 4294967296) (hv2:0≤v2∧v2 < 4294967296) (hle:u1≤v1) :
  Calls Tryz.prog 182 #[.slice (some ⟨g,j,none⟩) (n+1) cp,.slice A1 n c1] w (GuessPost u1 u2 u3 v1 v2 w):=by
 obtain⟨ad,e,hx1⟩:=Kd.at_int hC ((n-1:Nat):Int) (by omega) (by omega)
 subst e
 obtain⟨ad',e,hx2⟩:=Kd.at_int hC ((n-2:Nat):Int) (by omega) (by omega)
 cases e
 rw [rd_lmb,Int.toNat_natCast,e1] at hx1
 rw [rd_lmb,Int.toNat_natCast,e2] at hx2
 have HLE:=Aside0.mk hle
 have HI0:=Aside0.mk (QI.start hu1 hu2 hu3 hv1 hv2 hle)
 have HO:=Aside0.mk (or_add hu1.1 hu1.2 hu2.1 hu2.2)
 have hn3:(n:Int)≤4398046511104:=by omega
 have hj3:(j:Int)≤4398046511104:=by omega
 have hn4:2≤(n:Int):=by omega
 clear hC e1 e2 hle
 go_enter Tryz.func182,Tryz.ntmps182
 go_wp2
 go_step3
 go_wp2
 go_quiet (fail)
 rw [HO.out]
 have ht:0≤u1*4294967296+u2∧u1*4294967296+u2 < 18446744073709551616:=by omega
 generalize u1*4294967296+u2=tp at ht HI0 ⊢
 go_wp2
 go_quiet (fail)
 go_wp2
 go_step3
 go_wp2
 rw [World.drewN_drewN]
 go_loopw [7,8] (fun qv rv wr=>∃ (q r:Int) (m:Nat),qv=.int .u64 q∧rv=.int .u64 r∧wr=w.drewN m∧Aside0 (QI u1 u2 u3 v1 v2 q r)) (fun qv _ _=>(intOf qv).toNat)
 case atStart=>exact⟨_,_,_,rfl,rfl,rfl,HI0⟩
 case round =>
  obtain⟨q,r,m,rfl,rfl,rfl,HI⟩:=hrel
  have hq:=HI.out.q0
  have hr:=HI.out.r0
  by_cases hb:4294967296≤q
  ·
   have hdn:=HI.out.down ⟨by omega,hv1.2⟩ hv2 hu3.1 (Or.inl hb)
   have hq1:=hdn.1
   have HDN:=Aside0.mk hdn
   clear hdn
   have hd:decide (0 < q / 4294967296)=true:=by rw [decide_eq_true_iff]; omega
   have hd1:0 < q / 4294967296:=by omega
   go_wp2
   go_quiet (fail)
   go_wp2
   ·
    (try rw [Exit.noGoto_ret])
    go_ret
    exact⟨_,rfl,⟨_,rfl⟩,HI.out.out ⟨by omega,hv1.2⟩ hv2 hu2 hu3.1 HLE.out (Or.inl hb) (by omega)⟩
   ·
    go_roundw
    case rel=>exact⟨_,_,_,rfl,rfl,rfl,⟨HI.out.go ⟨by omega,hv1.2⟩ hv2 hu3.1 (Or.inl hb) (by omega)⟩⟩
    case measure=>simp [intOf]; omega
  ·
   have hpr:=prod_range hq.1 (by omega) hv2.1 hv2.2
   have HO2:=Aside0.mk (or_add hr.1 hr.2 hu3.1 hu3.2)
   have hd:decide (0 < q / 4294967296)=false:=by rw [decide_eq_false_iff_not]; omega
   go_wp2
   go_quiet (fail)
   rw [HO2.out]
   by_cases hs:q*v2≤r*4294967296+u3
   ·
    have HR:=Aside0.mk (HI.out.stop (by omega) hs)
    go_wp2
    (try rw [Exit.noGoto_ret])
    go_ret
    exact⟨_,rfl,⟨_,World.drewN_drewN _ _ _⟩,HR.out⟩
   ·
    have hs2:r*4294967296+u3 < q*v2:=by omega
    have hdn:=HI.out.down ⟨by omega,hv1.2⟩ hv2 hu3.1 (Or.inr hs2)
    have hq1:=hdn.1
    have HDN:=Aside0.mk hdn
    clear hdn
    go_wp2
    ·
     go_ret
     exact⟨_,rfl,⟨_,rfl⟩,HI.out.out ⟨by omega,hv1.2⟩ hv2 hu2 hu3.1 HLE.out (Or.inr hs2) (by omega)⟩
    ·
     go_roundw
     case rel=>exact⟨_,_,_,rfl,rfl,rfl,⟨HI.out.go ⟨by omega,hv1.2⟩ hv2 hu3.1 (Or.inr hs2) (by omega)⟩⟩
     case measure=>simp [intOf]; omega
end Go.Proofs.YtehghijlchpeaaaGreat.Nat1
end
section
namespace Go.Proofs.YtehghijlchpeaaaGreat.Nat1
open Go.RowKit YtehghijlchpeaaaGreatW.PrintWords YtehghijlchpeaaaGreatW.PrintLast YtehghijlchpeaaaGreatW.PrintMore L Nt
theorem sumB_split (f:Nat→Int) (j m:Nat):zb0 B32 f (j+m)=zb0 B32 f j+B32 ^ j*zb0 B32 (fun i=>f (j+i)) m:=by
 induction m with
 | zero=>simp [zb0]
 | succ m ih =>
  rw [← Nat.add_assoc,zb0,ih,zb0,Nat.mul_add,Nat.pow_add]
  have:(f (j+m)).toNat*(B32 ^ j*B32 ^ m)=B32 ^ j*((f (j+m)).toNat*B32 ^ m):=by simp only [Nat.mul_comm,Nat.mul_left_comm,Nat.mul_assoc]
  omega
def part (us:List Int) (j m:Nat):Nat:=zb0 B32 (fun i=>lmb us (j+i)) m
theorem part_lt {us:List Int} (h:ok B32 us) (j m:Nat):part us j m < B32 ^ m:=sumB_lt_pow (fun i=>by have:=zbG h (j+i); unfold B32; omega) m
theorem val_part (us:List Int) (j m:Nat):val B32 us=zb0 B32 (lmb us) j+B32 ^ j*(part us j m+B32 ^ m*val B32 (us.drop (j+m))):=by
 rw [val_split us (j+m),sumB_split,Nat.mul_add,Nat.pow_add]
 unfold part
 rw [← Nat.mul_assoc]
 omega
theorem lmb_drop (us:List Int) (k i:Nat):lmb (us.drop k) i=lmb us (k+i):=by
 unfold lmb
 simp [List.getD_eq_getElem?_getD,List.getElem?_drop]
theorem val_drop_same {us us':List Int} (hl:us'.length=us.length) (k:Nat) (h:∀ i,k≤i→lmb us' i=lmb us i):val B32 (us'.drop k)=val B32 (us.drop k):=by
 rw [← zcg (l:=us'.drop k) (m:=us.length) (by rw [List.length_drop]; omega),← zcg (l:=us.drop k) (m:=us.length) (by rw [List.length_drop]; omega)]
 exact zcc (fun y _=>by rw [lmb_drop,lmb_drop]; exact h _ (by omega))
theorem B32_pos:0 < B32:=by decide
theorem pow_pos_ (k:Nat):0 < B32 ^ k:=Nat.pow_pos B32_pos
theorem div_step {us us':List Int} {j n V:Nat} (hou:ok B32 us) (hl:us'.length=us.length) (hsame:∀ i,¬ (j≤i∧i < j+(n+1))→lmb us' i=lmb us i) (hV:0 < V) (hVn:V < B32 ^ n)
  (hlt:val B32 us < V*B32 ^ (j+1)) (hP:part us' j (n+1)=part us j (n+1) % V) :
  val B32 us' < V*B32 ^ j∧val B32 us=part us j (n+1) / V*B32 ^ j*V+val B32 us'∧part us j (n+1) / V < B32:=by
 have e1:=val_part us j (n+1)
 have e2:=val_part us' j (n+1)
 have e3:zb0 B32 (lmb us') j=zb0 B32 (lmb us) j:=zcc (fun y hy=>hsame y (by omega))
 have e4:val B32 (us'.drop (j+(n+1)))=val B32 (us.drop (j+(n+1))):=val_drop_same hl _ (fun i hi=>hsame i (by omega))
 have e5:zb0 B32 (lmb us) j < B32 ^ j:=sumB_lt_pow (fun i=>by have:=zbG hou i; unfold B32; omega) j
 have hR:val B32 (us.drop (j+(n+1)))=0:=by
  rcases Nat.eq_zero_or_pos (val B32 (us.drop (j+(n+1)))) with h | h
  ·
   exact h
  ·
   exfalso
   have h1:B32 ^ j*(B32 ^ (n+1)*1)≤B32 ^ j*(part us j (n+1)+B32 ^ (n+1)*val B32 (us.drop (j+(n+1)))) :=
    Nat.mul_le_mul_left _ (Nat.le_trans (Nat.mul_le_mul_left _ h) (Nat.le_add_left _ _))
   have h2:V*B32 ^ (j+1)≤B32 ^ n*B32 ^ (j+1):=Nat.mul_le_mul_right _ (Nat.le_of_lt hVn)
   have h3:B32 ^ n*B32 ^ (j+1)=B32 ^ j*(B32 ^ (n+1)*1):=by rw [Nat.mul_one,← Nat.pow_add,← Nat.pow_add]; congr 1; omega
   omega
 rw [hR,Nat.mul_zero,Nat.add_zero] at e1
 rw [e3,e4,hR,Nat.mul_zero,Nat.add_zero,hP] at e2
 generalize hPv:part us j (n+1)=P at *
 have h6:B32 ^ j*P < B32 ^ j*(B32*V):=by
  have:V*B32 ^ (j+1)=B32 ^ j*(B32*V):=by rw [Nat.pow_succ]; simp only [Nat.mul_comm,Nat.mul_left_comm,Nat.mul_assoc]
  omega
 have h7:P < B32*V:=Nat.lt_of_mul_lt_mul_left h6
 have h8:=Nat.div_add_mod P V
 have h9:=Nat.mod_lt P hV
 refine⟨?_,?_,(Nat.div_lt_iff_lt_mul hV).mpr h7⟩
 ·
  have h10:B32 ^ j*(P % V+1)≤B32 ^ j*V:=Nat.mul_le_mul_left _ h9
  rw [Nat.mul_add,Nat.mul_one] at h10
  rw [e2,Nat.mul_comm V]
  omega
 ·
  rw [e1,e2]
  have h11:B32 ^ j*P=P / V*B32 ^ j*V+B32 ^ j*(P % V):=by
   have:P / V*B32 ^ j*V=B32 ^ j*(V*(P / V)):=by simp only [Nat.mul_comm,Nat.mul_left_comm,Nat.mul_assoc]
   rw [this,← Nat.mul_add,h8]
  omega
theorem guess_two {u1 u2 u3 v1 v2 g : Int} {P V Pl Vl m : Nat} (hu1 : 0 ≤ u1) (hu2 : 0 ≤ u2) (hu3 : 0 ≤ u3) (hv1 : 1 ≤ v1) (hv2 : 0 ≤ v2) (h : QR u1 u2 u3 v1 v2 g)
    (hP : P = Pl + B32 ^ m * ((u1.toNat * B32 + u2.toNat) * B32 + u3.toNat)) (hPl : Pl < B32 ^ m) (hV : V = Vl + B32 ^ m * (v1.toNat * B32 + v2.toNat)) (hVl : Vl < B32 ^ m) (hlt : P / V < B32) :
    g.toNat = P / V ∨ g.toNat = P / V + 1 := by
  obtain ⟨U1, rfl⟩ := Int.eq_ofNat_of_zero_le hu1
  obtain ⟨U2, rfl⟩ := Int.eq_ofNat_of_zero_le hu2
  obtain ⟨U3, rfl⟩ := Int.eq_ofNat_of_zero_le hu3
  obtain ⟨V1, rfl⟩ := Int.eq_ofNat_of_zero_le (show 0 ≤ v1 by omega)
  obtain ⟨V2, rfl⟩ := Int.eq_ofNat_of_zero_le hv2
  obtain ⟨G, rfl⟩ := Int.eq_ofNat_of_zero_le h.q0.1
  simp only [Int.toNat_natCast] at hP hV ⊢
  have hup := h.up
  have hlo := h.lo
  have hG := h.q0.2
  have hD : ((V1 : Int) * 4294967296 + V2) = ((V1 * B32 + V2 : Nat) : Int) := by simp [B32]
  have hU : (((U1 : Int) * 4294967296 + U2) * 4294967296 + U3) = (((U1 * B32 + U2) * B32 + U3 : Nat) : Int) := by simp [B32]
  rw [hD, hU] at hup hlo
  have hDpos : B32 ≤ V1 * B32 + V2 := by
    have : 1 * B32 ≤ V1 * B32 := Nat.mul_le_mul_right _ (by omega)
    omega
  generalize V1 * B32 + V2 = D at *
  generalize (U1 * B32 + U2) * B32 + U3 = U at *
  have hlo' : G * D ≤ U := by
    have : ((G * D : Nat) : Int) ≤ (U : Int) := by rw [Int.natCast_mul]; exact hlo
    omega
  have hb := pow_pos_ m
  have hVpos : 0 < V := by
    have : B32 ^ m * 1 ≤ B32 ^ m * D := Nat.mul_le_mul_left _ (by have := B32_pos; omega)
    omega
  have h8 := Nat.div_add_mod P V
  have hq : (P / V) * V ≤ P := Nat.div_mul_le_self P V
  generalize hqq : P / V = q at *
  have h1 : q ≤ G := by
    have h2 : q * D ≤ U := by
      have h3 : q * (B32 ^ m * D) ≤ q * V := Nat.mul_le_mul_left _ (by omega)
      have h4 : q * (B32 ^ m * D) = B32 ^ m * (q * D) := by simp only [Nat.mul_comm, Nat.mul_left_comm, Nat.mul_assoc]
      have h5 : B32 ^ m * (q * D) < B32 ^ m * (U + 1) := by rw [Nat.mul_add]; omega
      have := Nat.lt_of_mul_lt_mul_left h5
      omega
    have := hup (q : Int) (by omega) (by unfold B32 at hlt; omega) (by have : ((q * D : Nat) : Int) ≤ (U : Int) := by omega
                                                                       rw [Int.natCast_mul] at this; exact this)
    omega
  have h2 : G ≤ q + 1 := by
    rcases Nat.eq_zero_or_pos G with h0 | h0
    · omega
    · have h3 : (G - 1) * V ≤ P := by
        have h4 : (G - 1) * V ≤ (G - 1) * (B32 ^ m * (D + 1)) := Nat.mul_le_mul_left _ (by rw [Nat.mul_add]; omega)
        have h5 : (G - 1) * (B32 ^ m * (D + 1)) = B32 ^ m * ((G - 1) * (D + 1)) := by simp only [Nat.mul_comm, Nat.mul_left_comm, Nat.mul_assoc]
        have h6 : (G - 1) * (D + 1) ≤ U := by
          rw [Nat.mul_add, Nat.mul_one, Nat.sub_mul, Nat.one_mul]
          have h7 : D ≤ G * D := Nat.le_mul_of_pos_left _ h0
          have h9 : G < B32 := by unfold B32; omega
          omega
        have h7 := Nat.mul_le_mul_left (B32 ^ m) h6
        omega
      have h4 := (Nat.le_div_iff_mul_le hVpos).mpr h3
      omega
  omega
theorem taken {P P' V X q g:Nat} {t:Bool} (hq:q=P / V) (hV:0 < V) (hVX:V < X) (hP':P' < X) (hg:g=q∨g=q+1) (h:P+(if t then X else 0)=P'+g*V) :
  (t=false→g=q∧P'=P % V)∧(t=true→g=q+1∧∀ P'' s,P'+V=P''+s*X→P'' < X→P''=P % V):=by
 have h8:=Nat.div_add_mod P V
 have h9:=Nat.mod_lt P hV
 rw [← hq] at h8
 have e1:V*q=q*V:=Nat.mul_comm _ _
 constructor
 ·
  rintro rfl
  simp only [Bool.false_eq_true,if_false,Nat.add_zero] at h
  rcases hg with rfl | rfl
  ·
   exact⟨rfl,by omega⟩
  ·
   exfalso
   rw [Nat.add_mul,Nat.one_mul] at h
   omega
 ·
  rintro rfl
  simp only [if_true] at h
  rcases hg with rfl | rfl
  ·
   exfalso
   omega
  ·
   refine⟨rfl,fun P'' s hs hlt=>?_⟩
   rw [Nat.add_mul,Nat.one_mul] at h
   have h2:P''+s*X=P % V+X:=by omega
   rcases Nat.lt_or_ge s 1 with h3 | h3
   ·
    have:s=0:=by omega
    subst this
    omega
   ·
    rcases Nat.lt_or_ge s 2 with h4 | h4
    ·
     have:s=1:=by omega
     subst this
     omega
    ·
     exfalso
     have h5:2*X≤s*X:=Nat.mul_le_mul_right _ h4
     omega
theorem val_set (qs:List Int) (j:Nat) (x:Int) (hj:j < qs.length) (h0:lmb qs j=0):val B32 (qs.set j x)=val B32 qs+x.toNat*B32 ^ j:=by
 have e1:=val_part qs j 1
 have e2:=val_part (qs.set j x) j 1
 have e3:zb0 B32 (lmb (qs.set j x)) j=zb0 B32 (lmb qs) j:=zcc (fun y hy=>by rw [zcd _ _ _ _ hj,if_neg (by omega)])
 have e4:val B32 ((qs.set j x).drop (j+1))=val B32 (qs.drop (j+1)):=val_drop_same (by rw [List.length_set]) _ (fun i hi=>by rw [zcd _ _ _ _ hj,if_neg (by omega)])
 have e5:part qs j 1=0:=by simp [part,zb0,h0]
 have e6:part (qs.set j x) j 1=x.toNat:=by simp [part,zb0,zcd _ _ _ _ hj]
 rw [e5,Nat.zero_add] at e1
 rw [e3,e4,e6,Nat.mul_add,Nat.mul_comm (B32 ^ j) x.toNat] at e2
 omega
end Go.Proofs.YtehghijlchpeaaaGreat.Nat1
end
section
namespace Go.Proofs.YtehghijlchpeaaaGreat.Nat1
open Go.RowKit YtehghijlchpeaaaGreatW.PrintWords YtehghijlchpeaaaGreatW.PrintLast YtehghijlchpeaaaGreatW.PrintMore L Nt
theorem short_digit {r a d:Int} (hr:0≤r∧r < d) (ha:0≤a∧a < 4294967296) (hd:0 < d∧d < 4294967296) :
  IntKind.u64.wrap (Int.tdiv (Go.bits .or .u64 (IntKind.u64.wrap (r*4294967296)) (IntKind.u64.wrap a)) (IntKind.u64.wrap d)) % 4294967296=(r*4294967296+a) / d ∧
  Int.tmod (Go.bits .or .u64 (IntKind.u64.wrap (r*4294967296)) (IntKind.u64.wrap a)) (IntKind.u64.wrap d)=(r*4294967296+a) % d ∧
  0≤(r*4294967296+a) / d∧(r*4294967296+a) / d < 4294967296∧0≤(r*4294967296+a) % d∧(r*4294967296+a) % d < d:=by
 have e1:IntKind.u64.wrap (r*4294967296)=r*4294967296:=by rw [zci]; omega
 have e2:IntKind.u64.wrap a=a:=by rw [zci]; omega
 have e3:IntKind.u64.wrap d=d:=by rw [zci]; omega
 rw [e1,e2,e3,or_add hr.1 (by omega) ha.1 ha.2,Int.tdiv_eq_ediv_of_nonneg (by omega),Int.tmod_eq_emod_of_nonneg (by omega)]
 have h1:0≤(r*4294967296+a) / d:=Int.ediv_nonneg (by omega) (by omega)
 have h2:(r*4294967296+a) / d < 4294967296:=Int.ediv_lt_of_lt_mul hd.1 (by omega)
 refine⟨?_,rfl,h1,h2,Int.emod_nonneg _ (by omega),Int.emod_lt_of_pos _ hd.1⟩
 rw [zci]
 omega
theorem short_loop {l:List Int} (hl:okL l) {d:Int} (hd:0 < d∧d < 4294967296) (j:Nat) (hj:j≤l.length):∀ (q:List Int) (r:Int),q.length=l.length→ok B32 q→0≤r∧r < d →
  val B32 (l.drop j)=val B32 (q.drop j)*d.toNat+r.toNat→∃ k,S.quo_Short.l0 k l d q r ((j:Int)-1)=some (dg B32 (val B32 l / d.toNat),((val B32 l % d.toNat:Nat):Int),0):=by
 induction j with
 | zero =>
  intro q r hq hok hr hv
  refine⟨1,?_⟩
  rw [S.quo_Short.l0,if_neg (by omega),nat_Trim.f,if_pos ⟨hok,by rw [hq]; exact hl.2⟩]
  simp only [List.drop_zero] at hv
  have hr2:r % 4294967296=r:=by omega
  have h1:val B32 l / d.toNat=val B32 q:=by
   rw [hv,Nat.add_comm,Nat.add_mul_div_right _ _ (by omega),Nat.div_eq_of_lt (by omega),Nat.zero_add]
  have h2:val B32 l % d.toNat=r.toNat:=by
   rw [hv,Nat.add_comm,Nat.add_mul_mod_self_right,Nat.mod_eq_of_lt (by omega)]
  rw [h1,h2,Option.bind_some,hr2]
  congr 3
  omega
 | succ j ih =>
  intro q r hq hok hr hv
  have ha:=zbG hl.1 j
  obtain⟨e1,e2,h1,h2,h3,h4⟩:=short_digit hr ha hd
  have ex:(((j+1:Nat):Int)-1)=(j:Int):=by omega
  have e0:¬ IntKind.u64.wrap d=0:=by rw [zci]; omega
  have hb:=hl.2
  have ew:wrap64 ((j:Int)-1)=(j:Int)-1:=by unfold wrap64; omega
  have hv':val B32 (l.drop j)=val B32 ((q.set j ((r*4294967296+lmb l j) / d)).drop j)*d.toNat+((r*4294967296+lmb l j) % d).toNat:=by
   rw [zcz j,zcz (l:=q.set j _) j,hv,val_drop_same (us:=q) (us':=q.set j _) (by rw [List.length_set]) (j+1) (fun i hi=>by rw [zcd _ _ _ _ (by omega),if_neg (by omega)]),zcd _ _ _ _ (by omega),if_pos rfl]
   have h5:=Int.mul_ediv_add_emod (r*4294967296+lmb l j) d
   obtain⟨x,hx⟩:=Int.eq_ofNat_of_zero_le h1
   obtain⟨y,hy⟩:=Int.eq_ofNat_of_zero_le h3
   obtain⟨D,hD⟩:=Int.eq_ofNat_of_zero_le (show 0≤d by omega)
   rw [hx,hy] at h5 ⊢
   rw [hD] at h5 ⊢
   simp only [Int.toNat_natCast]
   have h6:D*x+y=r.toNat*4294967296+(lmb l j).toNat:=by
    have:((D*x+y:Nat):Int)=r*4294967296+lmb l j:=by rw [Int.natCast_add,Int.natCast_mul]; exact h5
    omega
   have h7:(x+B32*val B32 (q.drop (j+1)))*D=D*x+B32*(val B32 (q.drop (j+1))*D):=by
    rw [Nat.add_mul]; simp only [Nat.mul_comm,Nat.mul_left_comm,Nat.mul_assoc]
   have h8:B32*(val B32 (q.drop (j+1))*D+r.toNat)=B32*(val B32 (q.drop (j+1))*D)+4294967296*r.toNat:=by rw [Nat.mul_add]; rfl
   rw [h7,h8]
   omega
  obtain⟨k,hk⟩:=ih (by omega) (q.set j ((r*4294967296+lmb l j) / d)) ((r*4294967296+lmb l j) % d) (by rw [List.length_set]; exact hq) (ok_set hok _ ⟨h1,h2⟩) ⟨h3,h4⟩ hv'
  refine⟨k+1,?_⟩
  rw [ex,S.quo_Short.l0,if_pos (by omega),if_pos (by omega),if_pos (by omega),if_neg e0,if_pos (by omega),rd_lmb,e1,e2,ew,Int.toNat_natCast]
  exact hk
theorem short_spec {l:List Int} (hl:okL l) {d:Int} (hd:0 < d∧d < 4294967296):∃ k,S.quo_Short.f k l d=some (dg B32 (val B32 l / d.toNat),((val B32 l % d.toNat:Nat):Int),0):=by
 have hb:=hl.2
 obtain⟨k,hk⟩:=short_loop hl hd l.length (Nat.le_refl _) (List.replicate l.length 0) 0 (by rw [List.length_replicate]) (fun x hx=>by rw [List.eq_of_mem_replicate hx]; decide) ⟨by omega,hd.1⟩ (by rw [List.drop_eq_nil_of_le (Nat.le_refl _),List.drop_eq_nil_of_le (by rw [List.length_replicate]; exact Nat.le_refl _)]; simp [val])
 refine⟨k,?_⟩
 have ew:wrap64 ((l.length:Int)-1)=(l.length:Int)-1:=by unfold wrap64; omega
 unfold S.quo_Short.f
 rw [if_neg (by omega),if_pos (by omega),if_pos (by omega),ew,Int.toNat_natCast]
 exact hk
theorem short_calls (A0:Option Addr) (c0:Nat) (l0:List Int) (d:Int) (w:World) (hr0:Kd.C (Kd.int .u32) w A0 l0.length l0) (hc0:l0.length≤c0) (hl:okL l0) (hd:0 < d∧d < 4294967296) :
  Calls Tryz.prog 179 #[.slice A0 l0.length c0,.int .u32 d] w fun e w'=>∃ v0_:Value,e=.returned (.tuple #[v0_,.int .u32 ((val B32 l0 % d.toNat:Nat):Int),.int .i64 0])∧Kd.R (Kd.int .u32) 81 w' w.heap.size (fun _=>True) v0_ (dg B32 (val B32 l0 / d.toNat))∧Below w.heap.size w w':=by
 obtain⟨k,hk⟩:=short_spec hl hd
 exact S.quo_Short.calls k A0 c0 l0 d _ _ _ w hr0 hc0 hk
end Go.Proofs.YtehghijlchpeaaaGreat.Nat1
end
