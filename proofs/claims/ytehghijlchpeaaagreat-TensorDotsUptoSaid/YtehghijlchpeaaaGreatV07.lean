/- Part 8 of the proof of tensorDotsUpto_holds: what it uses, in build order. -/
import Derived.Test.YtehghijlchpeaaaGreatV06
import GoSem.Claim
set_option maxHeartbeats 8000000
set_option maxRecDepth 100000
set_option linter.unusedVariables false
set_option linter.unusedSimpArgs false
set_option linter.unusedSectionVars false
section
namespace Go.Proofs.YtehghijlchpeaaaGreat.Nt
def val (b:Nat):List Int→Nat
 | []=>0
 | d :: l=>d.toNat+b*val b l
def dg (b:Nat) (n:Nat):List Int:=if _h:n=0∨b < 2 then [] else ((n % b:Nat):Int) :: dg b (n / b)
 termination_by n
 decreasing_by exact Nat.div_lt_self (by omega) (by omega)
def ok (b:Nat) (l:List Int):Prop:=∀ x∈l,0≤x∧x < (b:Int)
def can (l:List Int):Prop:=∀ x,l.getLast? = some x→x≠0
theorem zbT (b:Nat):dg b 0=[]:=by rw [dg]; simp
theorem dg_pos {b n:Nat} (hb:2≤b) (h:0 < n):dg b n=((n % b:Nat):Int) :: dg b (n / b):=by
 rw [dg,dif_neg (by omega)]
theorem val_nil (b:Nat):val b []=0:=rfl
theorem zcB (b:Nat) (d:Int) (l:List Int):val b (d :: l)=d.toNat+b*val b l:=rfl
theorem zbV {b:Nat} (hb:2≤b) (n:Nat):val b (dg b n)=n:=by
 induction n using Nat.strongRecOn with
 | _ n ih =>
  rcases Nat.eq_zero_or_pos n with h | h
  ·
   subst h; rw [zbT]; rfl
  ·
   rw [dg_pos hb h,zcB,ih (n / b) (Nat.div_lt_self h hb)]
   rw [Int.toNat_natCast]
   exact Nat.mod_add_div n b
theorem ok_nil (b:Nat):ok b []:=fun x hx=>by cases hx
theorem ok_cons {b:Nat} {d:Int} {l:List Int}:ok b (d :: l) ↔ (0≤d∧d < (b:Int))∧ok b l:=by
 unfold ok
 constructor
 ·
  intro h
  exact⟨h d List.mem_cons_self,fun x hx=>h x (List.mem_cons_of_mem _ hx)⟩
 ·
  rintro⟨h1,h2⟩ x hx
  rcases List.mem_cons.1 hx with rfl | hx
  ·
   exact h1
  ·
   exact h2 x hx
theorem ok_append {b:Nat} {l m:List Int}:ok b (l++m) ↔ ok b l∧ok b m:=by
 unfold ok
 constructor
 ·
  intro h
  exact⟨fun x hx=>h x (List.mem_append_left _ hx),fun x hx=>h x (List.mem_append_right _ hx)⟩
 ·
  rintro⟨h1,h2⟩ x hx
  rcases List.mem_append.1 hx with hx | hx
  ·
   exact h1 x hx
  ·
   exact h2 x hx
theorem ok_take {b:Nat} {l:List Int} (h:ok b l) (k:Nat):ok b (l.take k):=fun x hx=>h x (List.mem_of_mem_take hx)
theorem dg_ok {b:Nat} (hb:2≤b) (n:Nat):ok b (dg b n):=by
 induction n using Nat.strongRecOn with
 | _ n ih =>
  rcases Nat.eq_zero_or_pos n with h | h
  ·
   subst h; rw [zbT]; exact ok_nil b
  ·
   rw [dg_pos hb h,ok_cons]
   refine⟨⟨Int.natCast_nonneg _,?_⟩,ih _ (Nat.div_lt_self h hb)⟩
   have:=Nat.mod_lt n (show 0 < b by omega)
   omega
theorem can_nil:can []:=fun x hx=>by simp at hx
theorem zcl {b:Nat} (hb:2≤b) (n:Nat):dg b n=[] ↔ n=0:=by
 constructor
 ·
  intro h
  rcases Nat.eq_zero_or_pos n with h0 | h0
  ·
   exact h0
  ·
   rw [dg_pos hb h0] at h; cases h
 ·
  rintro rfl; exact zbT b
theorem dg_can {b:Nat} (hb:2≤b) (n:Nat):can (dg b n):=by
 induction n using Nat.strongRecOn with
 | _ n ih =>
  rcases Nat.eq_zero_or_pos n with h | h
  ·
   subst h; rw [zbT]; exact can_nil
  ·
   rw [dg_pos hb h]
   intro x hx
   rcases Nat.eq_zero_or_pos (n / b) with h1 | h1
   ·
    rw [h1,zbT] at hx
    simp at hx
    subst hx
    have h2:n % b=n:=by
     rcases (Nat.div_eq_zero_iff).1 h1 with h2 | h2
     ·
      omega
     ·
      exact Nat.mod_eq_of_lt h2
    omega
   ·
    have hne:dg b (n / b)≠[]:=fun e=>by have:=(zcl hb _).1 e; omega
    rw [List.getLast?_cons_of_ne_nil hne] at hx
    exact ih (n / b) (Nat.div_lt_self h hb) x hx
theorem val_append (b:Nat) (l m:List Int):val b (l++m)=val b l+b ^ l.length*val b m:=by
 induction l with
 | nil=>simp [val]
 | cons d l ih =>
  rw [List.cons_append,zcB,zcB,ih,List.length_cons,Nat.mul_add,Nat.pow_succ,Nat.add_assoc,Nat.mul_comm (b ^ l.length) b,Nat.mul_assoc]
theorem val_snoc (b:Nat) (l:List Int) (d:Int):val b (l++[d])=val b l+b ^ l.length*d.toNat:=by
 rw [val_append]; simp [val]
theorem val_lt {b:Nat} {l:List Int} (h:ok b l):val b l < b ^ l.length:=by
 induction l with
 | nil=>simp [val]
 | cons d l ih =>
  obtain⟨h1,h2⟩:=ok_cons.1 h
  have h3:=ih h2
  rw [zcB,List.length_cons,Nat.pow_succ]
  have h4:b*(val b l+1)≤b*b ^ l.length:=Nat.mul_le_mul_left _ h3
  rw [Nat.mul_add,Nat.mul_one] at h4
  rw [Nat.mul_comm (b ^ l.length) b]
  omega
theorem dg_val {b:Nat} (hb:2≤b) {l:List Int} (h:ok b l) (hc:can l):dg b (val b l)=l:=by
 induction l with
 | nil=>exact zbT b
 | cons d l ih =>
  obtain⟨h1,h2⟩:=ok_cons.1 h
  have hc2:can l:=by
   intro x hx
   have hne:l≠[]:=fun e=>by subst e; simp at hx
   exact hc x (by rw [List.getLast?_cons_of_ne_nil hne]; exact hx)
  have hp:0 < val b (d :: l):=by
   rcases Nat.eq_zero_or_pos (val b (d :: l)) with h0 | h0
   ·
    exfalso
    rw [zcB] at h0
    have hd:d=0:=by omega
    have hl:val b l=0:=by
     have h5:b*val b l=0:=by omega
     rcases Nat.mul_eq_zero.1 h5 with h6 | h6
     ·
      omega
     ·
      exact h6
    have h7:=ih h2 hc2
    rw [hl,zbT] at h7
    subst hd
    exact hc 0 (by rw [← h7]; rfl) rfl
   ·
    exact h0
  rw [dg_pos hb hp,zcB]
  have hd:d.toNat < b:=by omega
  have e1:(d.toNat+b*val b l) % b=d.toNat:=by rw [Nat.add_mul_mod_self_left,Nat.mod_eq_of_lt hd]
  have e2:(d.toNat+b*val b l) / b=val b l:=by rw [Nat.add_mul_div_left _ _ (by omega),Nat.div_eq_of_lt hd,Nat.zero_add]
  rw [e1,e2,ih h2 hc2]
  congr 1
  omega
theorem val_take_zeros {b:Nat} {l:List Int} {k:Nat} (hz:∀ x∈l.drop k,x=0):val b (l.take k)=val b l:=by
 have h0:∀ m:List Int,(∀ x∈m,x=0)→val b m=0:=by
  intro m
  induction m with
  | nil=>intro _; rfl
  | cons d m ih =>
   intro hm
   rw [zcB,ih (fun x hx=>hm x (List.mem_cons_of_mem _ hx)),hm d List.mem_cons_self]
   simp
 have h1:=val_append b (l.take k) (l.drop k)
 rw [List.take_append_drop,h0 _ hz,Nat.mul_zero,Nat.add_zero] at h1
 exact h1.symm
theorem zbS {b n k:Nat} (hb:2≤b) (h:n < b ^ k):(dg b n).length≤k:=by
 induction k generalizing n with
 | zero =>
  have:n=0:=by simpa using h
  subst this
  rw [zbT]; simp
 | succ k ih =>
  rcases Nat.eq_zero_or_pos n with h0 | h0
  ·
   subst h0; rw [zbT]; simp
  ·
   rw [dg_pos hb h0,List.length_cons]
   have h1:n / b < b ^ k:=by
    rw [Nat.div_lt_iff_lt_mul (by omega)]
    rwa [Nat.pow_succ] at h
   have:=ih h1
   omega
theorem lt_dg {b n:Nat} (hb:2≤b):n < b ^ (dg b n).length:=by
 have h:=val_lt (dg_ok hb n)
 rwa [zbV hb] at h
theorem pow_le_of_dg {b n:Nat} (hb:2≤b) (h:0 < n):b ^ ((dg b n).length-1)≤n:=by
 rcases Nat.lt_or_ge n (b ^ ((dg b n).length-1)) with h1 | h1
 ·
  have h2:=zbS hb h1
  have h3:(dg b n).length≠0:=fun e=>by
   have:=(zcl hb n).1 (List.eq_nil_of_length_eq_zero e)
   omega
  omega
 ·
  exact h1
theorem zbP {b m n:Nat} (hb:2≤b) (h:m≤n):(dg b m).length≤(dg b n).length :=
 zbS hb (Nat.lt_of_le_of_lt h (lt_dg hb))
theorem dg_length_mul {b m n:Nat} (hb:2≤b):(dg b (m*n)).length≤(dg b m).length+(dg b n).length:=by
 refine zbS hb ?_
 rw [Nat.pow_add]
 have h1:=lt_dg hb (n:=m)
 have h2:=lt_dg hb (n:=n)
 rcases Nat.eq_zero_or_pos n with h0 | h0
 ·
  subst h0
  rw [Nat.mul_zero]
  exact Nat.mul_pos (by omega) (by omega)
 ·
  exact Nat.mul_lt_mul_of_lt_of_le h1 (Nat.le_of_lt h2) (by omega)
theorem dg_length_add {b m n:Nat} (hb:2≤b):(dg b (m+n)).length≤max (dg b m).length (dg b n).length+1:=by
 refine zbS hb ?_
 have h1:=lt_dg hb (n:=m)
 have h2:=lt_dg hb (n:=n)
 have h3:b ^ (dg b m).length≤b ^ max (dg b m).length (dg b n).length:=Nat.pow_le_pow_right (by omega) (by omega)
 have h4:b ^ (dg b n).length≤b ^ max (dg b m).length (dg b n).length:=Nat.pow_le_pow_right (by omega) (by omega)
 rw [Nat.pow_succ]
 have h5:b ^ max (dg b m).length (dg b n).length*2≤b ^ max (dg b m).length (dg b n).length*b:=Nat.mul_le_mul_left _ hb
 omega
def zb0 (b:Nat) (f:Nat→Int):Nat→Nat
 | 0=>0
 | n+1=>zb0 b f n+(f n).toNat*b ^ n
end Go.Proofs.YtehghijlchpeaaaGreat.Nt
end
section
namespace Go.Proofs.YtehghijlchpeaaaGreat.Nt
open Go.RowKit YtehghijlchpeaaaGreatW.PrintWords YtehghijlchpeaaaGreatW.PrintLast YtehghijlchpeaaaGreatW.PrintMore L
theorem wrap64_pred {i:Int} (h0:0 < i) (h:i≤9223372036854775807):wrap64 (i-1)=i-1:=by
 unfold wrap64; omega
theorem rd_eq (l:List Int) (i:Int) (h0:0≤i) (h:i.toNat < l.length):rd l i=l[i.toNat]:=by
 unfold rd; simp [List.getD_eq_getElem?_getD,List.getElem?_eq_getElem h]
theorem drop_pred (l:List Int) (t:Nat) (h:t < l.length) (hz:∀ x∈l.drop (t+1),x=0) (h0:l[t]=0):∀ x∈l.drop t,x=0:=by
 rw [List.drop_eq_getElem_cons h]
 intro x hx
 rcases List.mem_cons.1 hx with rfl | hx
 ·
  exact h0
 ·
  exact hz x hx
theorem top_loop (l:List Int) (hl:l.length≤4611686018427387904) (i:Nat):i≤l.length→(∀ x∈l.drop i,x=0)→∀ k,i < k→∃ t:Nat,nat_top.l0 k l (i:Int)=some (t:Int)∧t≤i∧(∀ x∈l.drop t,x=0)∧can (l.take t):=by
 induction i with
 | zero =>
  intro _ hz k hk
  obtain⟨k,rfl⟩:∃ m,k=m+1:=⟨k-1,by omega⟩
  exact⟨0,by simp only [nat_top.l0]; rw [if_neg (by omega)],by omega,hz,by simp [can_nil]⟩
 | succ i ih =>
  intro hi hz k hk
  obtain⟨k,rfl⟩:∃ m,k=m+1:=⟨k-1,by omega⟩
  have hlt:i < l.length:=by omega
  have hw:wrap64 (((i+1:Nat):Int)-1)=(i:Int):=by rw [wrap64_pred (by omega) (by omega)]; omega
  have hrd:rd l (i:Int)=l[i]:=by rw [rd_eq l _ (by omega) (by simpa using hlt)]; simp
  by_cases h0:l[i]=0
  ·
   obtain⟨t,h1,h2,h3,h4⟩:=ih (by omega) (drop_pred l i hlt hz h0) k (by omega)
   refine⟨t,?_,by omega,h3,h4⟩
   simp only [nat_top.l0]
   rw [if_pos (by omega),hw,if_pos (by omega),if_pos (by omega),hrd,if_pos h0]
   exact h1
  ·
   refine⟨i+1,?_,Nat.le_refl _,hz,?_⟩
   ·
    simp only [nat_top.l0]
    rw [if_pos (by omega),hw,if_pos (by omega),if_pos (by omega),hrd,if_neg h0]
   ·
    intro x hx
    rw [List.getLast?_take] at hx
    simp [List.getElem?_eq_getElem hlt] at hx
    subst hx
    exact h0
theorem top_spec (l:List Int) (hl:l.length≤4611686018427387904):∃ k,∃ t:Nat,nat_top.f k l=some (t:Int)∧t≤l.length∧(∀ x∈l.drop t,x=0)∧can (l.take t):=by
 obtain⟨t,h1,h2,h3,h4⟩:=top_loop l hl l.length (Nat.le_refl _) (by simp) (l.length+1) (by omega)
 exact⟨l.length+1,t,h1,h2,h3,h4⟩
theorem top_dg {b:Nat} (hb:2≤b) {l:List Int} (h:ok b l) {t:Nat} (hz:∀ x∈l.drop t,x=0) (hc:can (l.take t)):l.take t=dg b (val b l):=by
 rw [← val_take_zeros (b:=b) hz]
 exact(dg_val hb (ok_take h t) hc).symm
end Go.Proofs.YtehghijlchpeaaaGreat.Nt
end
section
namespace Go.Proofs.YtehghijlchpeaaaGreat.Nat1
open Go.RowKit YtehghijlchpeaaaGreatW.PrintWords YtehghijlchpeaaaGreatW.PrintLast YtehghijlchpeaaaGreatW.PrintMore L Nt
def B32:Nat:=4294967296
theorem zby:2≤B32:=by decide
theorem R_kept {w w1:World} {base:Nat} {ok':Nat→Prop} {v:Value} {xs:List Int} {C:Option Nat} (h:Kd.R (Kd.int .u32) 81 w base ok' v xs) (hg:w.grownBy w1 C) (hC:∀ k,C=some k→k < base):Kd.R (Kd.int .u32) 81 w1 base ok' v xs :=
 Kd.R_mono (Kd.R_move (Kd.R_bound h) (fun k hk=>hg.block k hk.2.2.1 (fun e=>by have:=hC k e.symm; omega))) (fun _ hk=>hk.1)
theorem zch {w w1 w2:World} {C:Option Nat} {base:Nat} (hb:base=w.heap.size) (h:w.grownBy w1 C) (k:Below base w1 w2):w.grownBy w2 C:=by
 subst hb
 exact⟨k.os.trans h.os,k.tape.trans h.tape,k.output.trans h.output,Nat.le_trans h.size k.size,fun i hi hne=>(k.block i hi).trans (h.block i hi hne)⟩
theorem below_of_grown {w w1:World} (h:w.grownBy w1 none):Below w.heap.size w w1:=⟨h.os,h.tape,h.output,h.size,fun i hi=>h.block i hi (by simp)⟩
theorem zci (n:Int):IntKind.u64.wrap n=n % 18446744073709551616:=by simp [IntKind.wrap,IntKind.bits,IntKind.signed]
theorem carry_law (v p:Nat) (a c:Int) (ha:0≤a) (hc:0≤c):v+p*((a+c) % 4294967296).toNat+p*B32*((a+c) / 4294967296).toNat=v+p*c.toNat+a.toNat*p:=by
 have h1:((a+c) % 4294967296).toNat+B32*((a+c) / 4294967296).toNat=a.toNat+c.toNat:=by unfold B32; omega
 have h2:p*((a+c) % 4294967296).toNat+p*B32*((a+c) / 4294967296).toNat=p*(a.toNat+c.toNat):=by rw [← h1,Nat.mul_add,Nat.mul_assoc]
 rw [Nat.mul_add] at h2
 rw [Nat.mul_comm a.toNat p]
 omega
structure GInv (n:Nat) (at_:Nat→Int) (J:Nat→World→Prop) (C:Option Nat) (w:World) (k:Nat) (wr:World):Prop where
 le:k≤n
 j:J k wr
 g:w.grownBy wr C
 r:∃ v ds c,wr.heap[w.heap.size]? = some (.cells #[v] 25 (0,0))∧wr.heap[w.heap.size+1]? = some (.cells #[.int .u64 c] 161 (0,0)) ∧
  Kd.R (Kd.int .u32) 81 wr w.heap.size (fun k=>k≠w.heap.size∧k≠w.heap.size+1) v ds∧ok B32 ds∧ds.length=k∧0≤c∧c≤4294967296∧val B32 ds+B32 ^ k*c.toNat=zb0 B32 at_ k
structure GInv2 (n:Nat) (at_:Nat→Int) (J:Nat→World→Prop) (C:Option Nat) (w:World) (q:Nat) (wr:World):Prop where
 j:J n wr
 g:w.grownBy wr C
 r:∃ v ds c,wr.heap[w.heap.size]? = some (.cells #[v] 25 (0,0))∧wr.heap[w.heap.size+1]? = some (.cells #[.int .u64 c] 161 (0,0)) ∧
  Kd.R (Kd.int .u32) 81 wr w.heap.size (fun k=>k≠w.heap.size∧k≠w.heap.size+1) v ds∧ok B32 ds∧ds.length+q≤n+4294967296∧0≤c∧c.toNat=q∧val B32 ds+B32 ^ ds.length*c.toNat=zb0 B32 at_ n
theorem gather_calls (n:Nat) (g:FuncId) (cap:Array Value) (at_:Nat→Int) (J:Nat→World→Prop) (C:Option Nat) (w:World)
  (eg:∀ args w,(callFunc g args).run Tryz.prog w=.ok (.enter g args) w) (hC:∀ k,C=some k→k < w.heap.size) (hJ0:J 0 w)
  (hJs:∀ i W W',J i W→Below w.heap.size W W'→J i W')
  (hat:∀ i W,i < n→J i W→Calls Tryz.prog g (#[.int .i64 (i:Int)]++cap) W fun e W'=>e=.returned (.int .u64 (at_ i))∧J (i+1) W'∧W.grownBy W' C)
  (hr:∀ i,i < n→0≤at_ i∧at_ i≤9223372036854775807) (hn:n≤4398046511104) :
  Calls Tryz.prog 168 #[.int .i64 (n:Int),.func (.func g) #[] cap] w fun e w' =>
   ∃ v,e=.returned v∧Kd.R (Kd.int .u32) 81 w' w.heap.size (fun _=>True) v (dg B32 (zb0 B32 at_ n))∧J n w'∧w.grownBy w' C:=by
 have HC:=Aside0.mk hC
 have HJ0:=Aside0.mk hJ0
 have HJs:=Aside0.mk hJs
 have Hat:=Aside0.mk hat
 have Hr:=Aside0.mk hr
 clear hC hJ0 hJs hat hr
 go_enter Tryz.func168,Tryz.ntmps168
 go_wp2
 go_loopw [11] (fun i wr=>∃ k:Nat,i=.int .i64 k∧Aside0 (GInv n at_ J C w k wr)) (fun i _=>n-(intOf i).toNat)
 case atStart =>
  refine⟨0,rfl,⟨⟨Nat.zero_le _,HJs.out 0 w _ HJ0.out (((Below.refl _ w).alloc (Nat.le_refl _) _).alloc (by simp) _),grown_of_below (((Below.refl _ w).alloc (Nat.le_refl _) _).alloc (by simp) _) C,?_⟩⟩⟩
  refine⟨.slice none 0 0,[],0,?_,?_,Kd.R_nil _ _ _ _ _,ok_nil _,rfl,by omega,by omega,by simp [val,zb0]⟩
  ·
   show (World.alloc _ _).heap[_]? = _
   rw [Below.heap_alloc _ _ _ (by simp)]
   exact heap_alloc_new w _
  ·
   have:=heap_alloc_new (w.alloc (.cells #[.slice none 0 0] 25)) (.cells #[.int .u64 0] 161)
   simpa using this
 case round =>
  obtain⟨k,rfl,HI⟩:=hrel
  obtain⟨v,ds,c,ho0,hc0,hr0,hok0,hl0,hc1,hc2,hv0⟩:=HI.out.r
  have HO:=Aside0.mk ho0
  have HCb:=Aside0.mk hc0
  have HR:=Aside0.mk hr0
  have HV:=Aside0.mk (And.intro hok0 (And.intro hl0 hv0))
  have hcc:=cell_of_one hc0
  have hco:=cell_of_one ho0
  have hb1:=lt_of_block hc0
  obtain⟨Av,cv,rfl⟩:=Kd.R_slice hr0
  clear ho0 hc0 hr0 hok0 hl0 hv0
  by_cases hk:k < n
  ·
   have hkb:decide ((k:Int) < (n:Int))=true:=decide_eq_true (by omega)
   have hn':(n:Int)≤4398046511104:=by omega
   go_wp2_with fail
   refine zco (n:=7) (S:=fun w'=>w'.cell? ⟨w.heap.size+1,0,none⟩=some (.int .u64 c)) (ds:=[6]) #[zf,zf,zf,zf,zf,zf,zf] (by kernel_rfl) rfl rfl hcc (fun hHeld=>?_)
   have HI9:Aside0 (J k wr.drew∧w.grownBy wr.drew C):=⟨HJs.out k wr _ HI.out.j (Below.refl _ _).drew,zch rfl HI.out.g (Below.refl _ _).drew⟩
   have HO9:Aside0 (wr.drew.heap[w.heap.size]? = some (.cells #[.slice Av ds.length cv] 25 (0,0))):=⟨HO.out⟩
   have HC9:Aside0 (wr.drew.heap[w.heap.size+1]? = some (.cells #[.int .u64 c] 161 (0,0))):=⟨HCb.out⟩
   have HR9:Aside0 (Kd.R (Kd.int .u32) 81 wr.drew w.heap.size (fun k=>k≠w.heap.size∧k≠w.heap.size+1) (.slice Av ds.length cv) ds):=⟨Kd.R_drew HR.out⟩
   clear HI HO HCb HR hcc hco hb1
   generalize wr.drew=w9 at HI9 HO9 HC9 HR9 hHeld ⊢
   refine qp 0 (some 14) ?_
   refine qp 1 (some 15) ?_
   refine qp 2 (some 16) ?_
   refine qt 4 (some 18) ?_
   refine qo 3 (some 17) (fun K hK=>?_)
   refine call_ g (#[.int .i64 (k:Int)]++cap) (by rfl) rfl ?_ ?_
   ·
    unfold execOp
    simp [resolve,Deferred.ofValue,invoke,Act.eval,eg]
   have hlt9:w.heap.size+1 < w9.heap.size:=lt_of_block HC9.out
   refine(Hat.out k w9 hk HI9.out.1).mono ?_
   rintro e wa ⟨rfl,hja,hga⟩
   have HGa:=Aside0.mk hga
   have HJa:=Aside0.mk hja
   have HOa:Aside0 (wa.heap[w.heap.size]? = some (.cells #[.slice Av ds.length cv] 25 (0,0))):=⟨(hga.block _ (by omega) (fun e=>by have:=HC.out _ e.symm; omega)).trans HO9.out⟩
   have HCa:Aside0 (wa.heap[w.heap.size+1]? = some (.cells #[.int .u64 c] 161 (0,0))):=⟨(hga.block _ (by omega) (fun e=>by have:=HC.out _ e.symm; omega)).trans HC9.out⟩
   have HRa:=Aside0.mk (R_kept HR9.out hga HC.out)
   have HGw:=Aside0.mk (HI9.out.2.trans hga)
   clear hga hja
   refine⟨_,rfl,?_⟩
   refine hK _ _ (cell_of_one HCa.out) (fun hHa=>?_)
   refine qp 5 (some 19) ?_
   refine ql 6 (some 20) (fun K hK=>?_)
   refine call_ 178 #[.int .u64 (IntKind.u64.wrap (at_ k+c)),.pointer (some ⟨w.heap.size,0,none⟩),.pointer (some ⟨w.heap.size+1,0,none⟩)] (by rfl) rfl ?_ ?_
   ·
    have he:=zcr Tryz.func178 (by kernel_rfl) rfl #[.int .u64 (IntKind.u64.wrap (at_ k+c)),.pointer (some ⟨w.heap.size,0,none⟩),.pointer (some ⟨w.heap.size+1,0,none⟩)] wa
    unfold execOp
    simp [resolve,Deferred.ofValue,invoke,Act.eval,he]
   have hak:=Hr.out k hk
   have hwr:IntKind.u64.wrap (at_ k+c)=at_ k+c:=by rw [zci]; omega
   rw [hwr]
   clear hwr
   obtain⟨hok,hl,hv⟩:=HV.out
   have hput:=put_calls (at_ k+c) c w.heap.size (w.heap.size+1) w.heap.size (.slice Av ds.length cv) ds wa (by omega) (by omega) HOa.out HCa.out HRa.out (Nat.le_refl _) (by omega) (by omega) (by omega)
   refine hput.mono ?_
   rintro e wb ⟨rfl,v1,ho1,hc1',hr1,hb1⟩
   refine⟨_,rfl,?_⟩
   refine hK _ _ ?_
   refine done_ (by kernel_rfl) ?_
   have HN:Aside0 (GInv n at_ J C w (k+1) wb):=by
    refine⟨⟨by omega,HJs.out _ _ _ HJa.out hb1,zch rfl HGw.out hb1,v1,_,_,ho1,hc1',hr1,ok_append.2 ⟨hok,ok_cons.2 ⟨?_,ok_nil _⟩⟩,by simp [hl],by omega,by omega,?_⟩⟩
    ·
     unfold B32; omega
    ·
     rw [val_snoc,zb0,hl,← hv,Nat.pow_succ]
     exact carry_law _ _ _ _ hak.1 hc1
   clear hput hak hok hl hv ho1 hc1' hr1 hb1 HI9 HO9 HC9 HR9 HGa HJa HOa HCa HRa HGw hHa hHeld hK HV
   simp only [Act.put,zA1,zA2,zA3]
   go_wp2_with fail
   go_roundw
   case rel=>exact⟨k+1,by go_num,HN⟩
   case measure=>simp [intOf]; omega
  ·
   have hkb:decide ((k:Int) < (n:Int))=false:=decide_eq_false (by omega)
   obtain⟨hok,hl,hv⟩:=HV.out
   have hkn:k=n:=by have:=HI.out.le; omega
   have HN:Aside0 (GInv2 n at_ J C w c.toNat wr):=⟨⟨by rw [← hkn]; exact HI.out.j,HI.out.g,.slice Av ds.length cv,ds,c,HO.out,HCb.out,HR.out,hok,by omega,hc1,rfl,by rw [hl,← hkn]; exact hv⟩⟩
   have hcb:c.toNat≤4294967296:=by omega
   clear hok hl hv hkn HI HO HCb HR HV hcc hco hb1
   generalize c.toNat=c0 at HN hcb
   clear hc1 hc2
   go_wp2_with fail
   go_loopg [22] c0 (fun kq v22 wq=>Aside0 (GInv2 n at_ J C w kq wq))
   case atStart=>exact HN
   case round =>
    have HI:=hrel
    clear hrel
    obtain⟨v,ds,c,ho0,hc0,hr0,hok0,hl0,hc1,hc2,hv0⟩:=HI.out.r
    have HO:=Aside0.mk ho0
    have HCb:=Aside0.mk hc0
    have HR:=Aside0.mk hr0
    have HV:=Aside0.mk (And.intro hok0 (And.intro hl0 hv0))
    have HC2:=Aside0.mk hc2
    have hcc:=cell_of_one hc0
    have hco:=cell_of_one ho0
    have hb1:=lt_of_block hc0
    obtain⟨Av,cv,rfl⟩:=Kd.R_slice hr0
    clear ho0 hc0 hr0 hok0 hl0 hv0 hc2
    by_cases hp:0 < c
    ·
     have hpb:decide (0 < c)=true:=decide_eq_true hp
     go_wp2_with fail
     obtain⟨hok,hl,hv⟩:=HV.out
     have hput:=put_calls c c w.heap.size (w.heap.size+1) w.heap.size (.slice Av ds.length cv) ds wr (by omega) (by have:=HC2.out; omega) HO.out HCb.out HR.out (Nat.le_refl _) (by omega) (by omega) (by omega)
     refine hput.mono ?_
     rintro e wb ⟨rfl,v1,ho1,hc1',hr1,hbb⟩
     have HN:Aside0 (GInv2 n at_ J C w (c / 4294967296).toNat wb):=by
      refine⟨⟨HJs.out _ _ _ HI.out.j hbb,zch rfl HI.out.g hbb,v1,_,_,ho1,hc1',hr1,ok_append.2 ⟨hok,ok_cons.2 ⟨?_,ok_nil _⟩⟩,by have:=HC2.out; simp; omega,by omega,rfl,?_⟩⟩
      ·
       unfold B32; omega
      ·
       rw [val_snoc,← hv,List.length_append,List.length_singleton,Nat.pow_succ]
       have:=carry_law (val B32 ds) (B32 ^ ds.length) c 0 (by omega) (by omega)
       simp only [Int.add_zero,Int.toNat_zero,Nat.mul_zero,Nat.add_zero] at this
       rw [this,Nat.mul_comm]
     have hlt:(c / 4294967296).toNat < gk:=by have:=HC2.out; omega
     clear hput hok hl hv ho1 hc1' hr1 hbb HI HO HCb HR HV HC2 hcc hco hb1
     generalize (c / 4294967296).toNat=c2 at HN hlt
     go_wp2_with fail
     go_roundg c2
     case measure=>exact hlt
     case rel=>exact HN
    ·
     have hpb:decide (0 < c)=false:=decide_eq_false hp
     go_wp2_with fail
     obtain⟨hok,hl,hv⟩:=HV.out
     obtain⟨kt,t,ht,htl,htz,htc⟩:=top_spec ds (by omega)
     obtain⟨_,hle,hCr⟩:=Kd.R_reads' HR.out
     have hCr':=Aside0.mk hCr
     have ht':=Aside0.mk ht
     have hb2:(t:Int)≤(ds.length:Int):=by omega
     have hb3:(t:Int)≤(cv:Int):=by omega
     have hb4:t≤cv:=by omega
     clear ht hCr
     go_quiet ((go_at_call 170; refine Calls.quiet_of (v:=.int .i64 (t:Int)) (Calls.mono (nat_top.calls kt Av cv ds (t:Int) _ ?_ hle ht'.out) ?_); (exact Kd.C_drewN hCr'.out _); (rintro e w' ⟨rfl,h⟩; exact⟨rfl,h.out⟩)))
     go_wp2
     go_ret
     refine⟨.slice Av t cv,rfl,?_,HJs.out _ _ _ HI.out.j (zbo (Below.refl _ _) nq),zch rfl HI.out.g (zbo (Below.refl _ _) nq)⟩
     have hc0:c.toNat=0:=by omega
     rw [hc0,Nat.mul_zero,Nat.add_zero] at hv
     rw [← hv,← top_dg zby hok htz htc]
     exact Kd.R_mono (Kd.R_drewN (Kd.R_take HR.out htl) nq) (fun _ _=>trivial)
end Go.Proofs.YtehghijlchpeaaaGreat.Nat1
end
