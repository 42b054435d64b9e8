/- Part 10 of the proof of tensorDotsUpto_holds: what it uses, in build order. -/
import Derived.Test.YtehghijlchpeaaaGreatV08
import Derived.LoopIn
import Derived.LoopNIn
import Derived.OwnWalkIn
import Derived.RangeFuncBound
import Derived.RangeFuncFrom
import Derived.RangeFuncLeaves
import Derived.RangeFuncNested
import Derived.Shelf.RegionOpen
import Derived.TacticsInMore
set_option maxHeartbeats 8000000
set_option maxRecDepth 100000
set_option linter.unusedVariables false
set_option linter.unusedSimpArgs false
set_option linter.unusedSectionVars false
section
namespace Go.Proofs.YtehghijlchpeaaaGreat.Nat1
open Go.RowKit Go.Shelf YtehghijlchpeaaaGreatW.PrintWords YtehghijlchpeaaaGreatW.PrintLast YtehghijlchpeaaaGreatW.PrintMore L Nt
attribute [local go_sem] Oper.semAt_some
def lenAt (l0 l1:List Int) (k:Nat):Nat:=if k=0 then 0 else if k=1 then l0.length else max l0.length l1.length
theorem down_calls (A0:Option Addr) (c0:Nat) (l0:List Int) (A1:Option Addr) (c1:Nat) (l1:List Int) (b:Nat) (w:World) (h0:l0.length≤1099511627776) (h1:l1.length≤1099511627776)
  (k0:w.cell? ⟨b,0,none⟩=some (.slice A0 l0.length c0)) (k1:w.cell? ⟨b,1,none⟩=some (.slice A1 l1.length c1)) :
  Calls Tryz.prog 173 #[.slice (some ⟨b,0,none⟩) 2 2] w fun e w'=>e=.returned (.func (.func 186) #[] #[.pointer (some ⟨w.heap.size,0,none⟩)]) ∧
   w'.heap[w.heap.size]? = some (.cells #[.int .i64 ((max l0.length l1.length:Nat):Int)] 3 (0,0))∧Below w.heap.size w w':=by
 have hb:=World.block_lt_of_cell? w _ k0
 have hb':b < w.heap.size:=hb
 go_enter Tryz.func173,Tryz.ntmps173
 go_wp2
 go_loopw [8] (fun i wr=>∃ k:Nat,k≤2∧i=.int .i64 k∧Aside0 (wr.heap[w.heap.size]? = some (.cells #[.int .i64 (lenAt l0 l1 k:Nat)] 3 (0,0))∧Below w.heap.size w wr)) (fun i _=>2-(intOf i).toNat)
 case atStart =>
  refine⟨0,by omega,rfl,⟨?_,(Below.refl _ w).alloc (Nat.le_refl _) _⟩⟩
  simpa [lenAt] using zbU w (.cells #[.int .i64 0] 3)
 case round =>
  obtain⟨k,hk,rfl,HI⟩:=hrel
  have hc:=cell_of_one HI.out.1
  have hf:=free_of_one HI.out.1
  have q0:=(HI.out.2.cell (p:=⟨b,0,none⟩) hb').trans k0
  have q1:=(HI.out.2.cell (p:=⟨b,1,none⟩) hb').trans k1
  rcases (show k=0∨k=1∨k=2 by omega) with rfl | rfl | rfl
  ·
   have e0:lenAt l0 l1 0=0:=rfl
   have e1:lenAt l0 l1 1=l0.length:=rfl
   rw [e0] at hc
   clear e0
   by_cases hp:0 < l0.length
   ·
    go_wp2
    go_roundw
    case rel=>exact⟨1,by omega,by go_num,⟨by rw [e1]; exact one_setCell HI.out.1,HI.out.2.setCell (p:=⟨w.heap.size,0,none⟩) (Nat.le_refl _) _⟩⟩
    case measure=>simp [intOf]
   ·
    have hp0:l0.length=0:=by omega
    have HP:=Aside0.mk hp0
    clear hp0
    go_wp2
    go_roundw
    case rel=>exact⟨1,by omega,by go_num,⟨by rw [e1,HP.out]; exact one_setCell HI.out.1,HI.out.2.setCell (p:=⟨w.heap.size,0,none⟩) (Nat.le_refl _) _⟩⟩
    case measure=>simp [intOf]
  ·
   have e1:lenAt l0 l1 1=l0.length:=rfl
   have e2:lenAt l0 l1 2=max l0.length l1.length:=rfl
   rw [e1] at hc
   clear e1
   by_cases hp:l0.length < l1.length
   ·
    have HE:=Aside0.mk (show max l0.length l1.length=l1.length by omega)
    go_wp2
    go_roundw
    case rel=>exact⟨2,by omega,by go_num,⟨by rw [e2,HE.out]; exact one_setCell HI.out.1,HI.out.2.setCell (p:=⟨w.heap.size,0,none⟩) (Nat.le_refl _) _⟩⟩
    case measure=>simp [intOf]
   ·
    have HE:=Aside0.mk (show max l0.length l1.length=l0.length by omega)
    go_wp2
    go_roundw
    case rel=>exact⟨2,by omega,by go_num,⟨by rw [e2,HE.out]; exact one_setCell HI.out.1,HI.out.2.setCell (p:=⟨w.heap.size,0,none⟩) (Nat.le_refl _) _⟩⟩
    case measure=>simp [intOf]
  ·
   go_wp2
   go_ret
   exact⟨rfl,HI.out.1,HI.out.2⟩
def downL (n:Nat):List Nat:=(List.range n).reverse
theorem downL_succ (n:Nat):downL (n+1)=n :: downL n:=by simp [downL,List.range_succ]
theorem down1_in (F:Fence) (fl:Nat) (hF:F.fn 186) (hro:F.round=none) (hn:1≤fl) (l Bn n₀:Nat) (n:Nat) (hnb:n≤4398046511104) (J Jx:List Nat→World→Prop)
  (hY:∀ (pre:List Nat) (x:Nat) (W:World),J pre W→pre.length < n→YieldAt F (fl-1) Tryz.prog l #[.int .i64 (x:Int)] W fun e W' =>
   (e=.returned (.bool true)∧J (pre++[x]) W'∧Below n₀ W W')∨(e=.returned (.bool false)∧Jx (pre++[x]) W'))
  (W:World) (hBn:W.cell? ⟨Bn,0,none⟩=some (.int .i64 (n:Int))) (h0:J [] W) :
  CallsIn F fl Tryz.prog 186 #[.func (.yield l) #[] #[],.pointer (some ⟨Bn,0,none⟩)] W fun e W'=>(∃ v,e=.returned v) ∧
   ((∃ ys,ys=downL n∧J ys W')∨(∃ pre,pre <+: downL n∧Jx pre W')):=by
 refine callsIn_of_wp Tryz.func186 rfl hF ?_ hro
 simp only [Tryz.ntmps186,List.size_toArray,List.length_cons,List.length_nil,Nat.reduceAdd,Nat.reduceSub,Array.replicate_succ,Array.replicate_zero,List.push_toArray,List.append_toArray,List.nil_append,List.cons_append]
 gi_wp2
 gi_loopw [3] (fun p wr=>∃ (k:Nat) (pre:List Nat),p=.int .i64 ((k:Int)-1)∧k≤n∧Aside0 (downL n=pre++downL k∧J pre wr)) (fun p wr=>(intOf p+1).toNat)
 case atStart =>
  exact⟨n,[],rfl,Nat.le_refl _,⟨rfl,h0⟩⟩
 case round =>
  obtain⟨k,pre,rfl,hk,HI⟩:=hrel
  cases k with
  | zero =>
   have hb:decide ((0:Int)≤((0:Nat):Int)-1)=false:=by simp
   gi_wp2
   go_end0
   exact⟨⟨_,rfl⟩,.inl ⟨pre,by simpa [downL] using HI.out.1.symm,HI.out.2⟩⟩
  | succ k =>
   have hlen:pre.length < n:=by
    have:=congrArg List.length HI.out.1
    simp [downL] at this
    omega
   obtain⟨fn,tmps,assign,body,hy,hR⟩:=hY pre k wr HI.out.2 hlen
   have hs:(((k+1:Nat):Int)-1)=(k:Int):=by omega
   rw [hs]
   clear hs
   gi_wp2
   refine hR.mono ?_
   rintro e W3 (⟨rfl,hJ3,hk3⟩ | ⟨rfl,hJx3⟩)
   ·
    gi_wp2
    go_roundw
    case rel=>exact⟨k,pre++[k],rfl,by omega,⟨by rw [HI.out.1,downL_succ]; simp,hJ3⟩⟩
    case measure=>simp [intOf]
   ·
    gi_wp2
    refine bodyPost_ret (results_none rfl _ _ _) rfl ?_
    exact⟨⟨_,rfl⟩,.inr ⟨pre++[k],⟨downL k,by rw [HI.out.1,downL_succ]; simp⟩,hJx3⟩⟩
end Go.Proofs.YtehghijlchpeaaaGreat.Nat1
end
section
namespace Go.Proofs.YtehghijlchpeaaaGreat.Nat1
open Go.RowKit Go.Shelf YtehghijlchpeaaaGreatW.PrintWords YtehghijlchpeaaaGreatW.PrintLast YtehghijlchpeaaaGreatW.PrintMore L Nt Rd
attribute [local go_sem] Oper.semAt_some
theorem down_stops (F:Fence) (n:Nat) (hF:F.fn 186) (hro:F.round=none) (hn:1≤n) (Bn n₀:Nat) (m:Nat) (hm:m≤4398046511104) (w:World) (hBn:Bn < w.heap.size)
  (hc:w.cell? ⟨Bn,0,none⟩=some (.int .i64 (m:Int))) :
  SeqStopsK F n Tryz.prog 186 #[.pointer (some ⟨Bn,0,none⟩)] (fun x:Nat=>#[Value.int .i64 (x:Int)]) (Below n₀) (fun ys=>ys=downL m) (fun pre=>pre <+: downL m) m w:=fun l J Jx W hW _ _ hY h0 =>
 down1_in F n hF hro hn l Bn n₀ m hm J Jx hY W ((hW.cell (p:=⟨Bn,0,none⟩) hBn).trans hc) h0
def cmpN (a b:Nat):Int:=if a < b then -1 else if b < a then 1 else 0
theorem mem_downL {n y:Nat}:y∈downL n ↔ y < n:=by simp [downL]
theorem prefix_down {n x:Nat} {p:List Nat} (h:p++[x] <+: downL n):x < n∧∀ y,x < y→y < n→y∈p:=by
 induction n generalizing p with
 | zero=>simp [downL] at h
 | succ n ih =>
  rw [downL_succ] at h
  cases p with
  | nil =>
   simp at h
   subst h
   exact⟨by omega,fun y h1 h2=>by omega⟩
  | cons q p =>
   rw [List.cons_append,List.cons_prefix_cons] at h
   obtain⟨rfl,h⟩:=h
   obtain⟨h1,h2⟩:=ih h
   refine⟨by omega,fun y h3 h4=>?_⟩
   rcases Nat.lt_or_ge y q with h5 | h5
   ·
    exact List.mem_cons_of_mem _ (h2 y h3 h5)
   ·
    have:y=q:=by omega
    subst this
    exact List.mem_cons_self
theorem sumB_lt {b:Nat} {f g:Nat→Int} {n x:Nat} (hb:2≤b) (hf:∀ i,0≤f i∧f i < b) (hg:∀ i,0≤g i∧g i < b) (hx:x < n) (he:∀ y,x < y→y < n→f y=g y) (h:f x < g x):zb0 b f n < zb0 b g n:=by
 have hs:∀ k,zb0 b f k < b ^ k:=by
  intro k
  induction k with
  | zero=>simp [zb0]
  | succ k ih =>
   rw [zb0,Nat.pow_succ]
   have h1:(f k).toNat+1≤b:=by have:=hf k; omega
   have h2:((f k).toNat+1)*b ^ k≤b*b ^ k:=Nat.mul_le_mul_right _ h1
   rw [Nat.add_mul,Nat.one_mul] at h2
   rw [Nat.mul_comm (b ^ k) b]
   omega
 induction n with
 | zero=>omega
 | succ n ih =>
  rw [zb0,zb0]
  rcases Nat.lt_or_ge x n with h1 | h1
  ·
   have:=ih h1 (fun y h2 h3=>he y h2 (by omega))
   rw [he n h1 (by omega)]
   omega
  ·
   have:x=n:=by omega
   subst this
   have h2:=hs x
   have h3:(f x).toNat+1≤(g x).toNat:=by have:=hf x; have:=hg x; omega
   have h4:((f x).toNat+1)*b ^ x≤(g x).toNat*b ^ x:=Nat.mul_le_mul_right _ h3
   rw [Nat.add_mul,Nat.one_mul] at h4
   omega
theorem zcc {b:Nat} {f g:Nat→Int} {n:Nat} (he:∀ y,y < n→f y=g y):zb0 b f n=zb0 b g n:=by
 induction n with
 | zero=>rfl
 | succ n ih=>rw [zb0,zb0,ih (fun y h=>he y (by omega)),he n (by omega)]
theorem zcA {β:Type} {B b:Nat} {o:Obj} (hb:b < B):OwnFrom B (fun (_:β) W=>W.heap[b]? = some o) :=
 fun s W W' row hs hg hr=>(hg.block b (lt_of_block hs) (fun e=>by have:=(hr b e.symm).1; omega)).trans hs
theorem keepsO {W W':World} (h:Below W.heap.size W W'):KeepsOthers W W':=⟨h.size,fun k o hk _=>(h.block k (lt_of_block hk)).trans hk⟩
def zck (A0:Option Addr) (c0:Nat) (l0:List Int) (A1:Option Addr) (c1:Nat) (l1:List Int) (w:World):World :=
 (((w.alloc (.cells #[.slice A0 l0.length c0] 25)).alloc (.cells #[.slice A1 l1.length c1] 25)).alloc (.cells #[.int .i64 0] 3)).alloc (.cells #[.slice A0 l0.length c0,.slice A1 l1.length c1] 25)
theorem cmpWorld_facts (A0:Option Addr) (c0:Nat) (l0:List Int) (A1:Option Addr) (c1:Nat) (l1:List Int) (w:World) :
  (zck A0 c0 l0 A1 c1 l1 w).heap.size=w.heap.size+4∧Below w.heap.size w (zck A0 c0 l0 A1 c1 l1 w) ∧
  (zck A0 c0 l0 A1 c1 l1 w).heap[w.heap.size]? = some (.cells #[.slice A0 l0.length c0] 25 (0,0))∧(zck A0 c0 l0 A1 c1 l1 w).heap[w.heap.size+1]? = some (.cells #[.slice A1 l1.length c1] 25 (0,0)) ∧
  (zck A0 c0 l0 A1 c1 l1 w).heap[w.heap.size+2]? = some (.cells #[.int .i64 0] 3 (0,0))∧(zck A0 c0 l0 A1 c1 l1 w).heap[w.heap.size+3]? = some (.cells #[.slice A0 l0.length c0,.slice A1 l1.length c1] 25 (0,0)):=by
 refine⟨by simp [zck],((((Below.refl _ w).alloc (Nat.le_refl _) _).alloc (by simp) _).alloc (by simp; omega) _).alloc (by simp; omega) _,?_,?_,?_,?_⟩
 ·
  unfold zck
  rw [Below.heap_alloc _ _ _ (by simp; omega),Below.heap_alloc _ _ _ (by simp; omega),Below.heap_alloc _ _ _ (by simp)]
  exact zbU w _
 ·
  unfold zck
  rw [Below.heap_alloc _ _ _ (by simp),Below.heap_alloc _ _ _ (by simp)]
  simpa using zbU (w.alloc (.cells #[.slice A0 l0.length c0] 25)) (.cells #[.slice A1 l1.length c1] 25)
 ·
  unfold zck
  rw [Below.heap_alloc _ _ _ (by simp)]
  simpa using zbU ((w.alloc (.cells #[.slice A0 l0.length c0] 25)).alloc (.cells #[.slice A1 l1.length c1] 25)) (.cells #[.int .i64 0] 3)
 ·
  unfold zck
  simpa using zbU (((w.alloc (.cells #[.slice A0 l0.length c0] 25)).alloc (.cells #[.slice A1 l1.length c1] 25)).alloc (.cells #[.int .i64 0] 3)) (.cells #[.slice A0 l0.length c0,.slice A1 l1.length c1] 25)
theorem cmp_down (A0:Option Addr) (c0:Nat) (l0:List Int) (A1:Option Addr) (c1:Nat) (l1:List Int) (w:World) (h0:l0.length≤1099511627776) (h1:l1.length≤1099511627776) :
  Calls Tryz.prog 173 #[.slice (some ⟨w.heap.size+3,0,none⟩) 2 2] (zck A0 c0 l0 A1 c1 l1 w) fun e w'=>e=.returned (.func (.func 186) #[] #[.pointer (some ⟨w.heap.size+4,0,none⟩)]) ∧
   w'.heap[w.heap.size+4]? = some (.cells #[.int .i64 ((max l0.length l1.length:Nat):Int)] 3 (0,0))∧Below w.heap.size w w' ∧
   w'.heap[w.heap.size]? = some (.cells #[.slice A0 l0.length c0] 25 (0,0))∧w'.heap[w.heap.size+1]? = some (.cells #[.slice A1 l1.length c1] 25 (0,0))∧w'.heap[w.heap.size+2]? = some (.cells #[.int .i64 0] 3 (0,0)):=by
 obtain⟨hs,hB,x0,x1,x2,x3⟩:=cmpWorld_facts A0 c0 l0 A1 c1 l1 w
 have h:=down_calls A0 c0 l0 A1 c1 l1 (w.heap.size+3) (zck A0 c0 l0 A1 c1 l1 w) h0 h1 (by simp [World.cell?,x3]) (by simp [World.cell?,x3])
 rw [hs] at h
 refine h.mono ?_
 rintro e w' ⟨he,hn,hb⟩
 exact⟨he,hn,hB.trans (hb.mono (by omega)),(hb.block _ (by omega)).trans x0,(hb.block _ (by omega)).trans x1,(hb.block _ (by omega)).trans x2⟩
theorem cmp_in (A0:Option Addr) (c0:Nat) (l0:List Int) (A1:Option Addr) (c1:Nat) (l1:List Int) (w:World) (hr0:Kd.C (Kd.int .u32) w A0 l0.length l0) (hc0:l0.length≤c0) (hr1:Kd.C (Kd.int .u32) w A1 l1.length l1) (hc1:l1.length≤c1) (h:okL l0∧okL l1) :
  Calls Tryz.prog 161 #[.slice A0 l0.length c0,.slice A1 l1.length c1] w fun e w'=>e=.returned (.int .i64 (cmpN (val B32 l0) (val B32 l1)))∧Below w.heap.size w w':=by
 have HR0:=Aside0.mk hr0
 have HC0:=Aside0.mk hc0
 have HR1:=Aside0.mk hr1
 have HC1:=Aside0.mk hc1
 have HK:=Aside0.mk h
 have hl0:=h.1.2
 have hl1:=h.2.2
 clear hr0 hc0 hr1 hc1 h
 refine(callsIn_wide (n:=3)).1 ?_
 refine callsIn_of_wp_marks Tryz.func161 rfl trivial ?_ rfl
 simp only [Tryz.ntmps161,List.size_toArray,List.length_cons,List.length_nil,Nat.reduceAdd,Nat.reduceSub,Array.replicate_succ,Array.replicate_zero,List.push_toArray,List.append_toArray,List.nil_append,List.cons_append]
 gi_wp2_with (refine⟨trivial,?_⟩; gi_at_call 173; refine(callsIn_wide.2 (cmp_down A0 c0 l0 A1 c1 l1 w hl0 hl1)).mono ?_; rintro e w1 ⟨rfl,hn,hb,x0,x1,x2⟩)
 have hlt:=lt_of_block hn
 refine wpIn_rangeFunc_ownF rfl (by omega) (gf:=186) (lb:=#[.pointer (some ⟨w.heap.size+4,0,none⟩)]) rfl trivial (zcr Tryz.func186 (by kernel_rfl) rfl)
  (down_stops Fence.wide _ trivial rfl (by omega) (w.heap.size+4) w.heap.size (max l0.length l1.length) (by omega) w1 hlt (cell_of_one hn)) belowK_t (belowK_b (by omega)) (Below.refl _ _) (fun _=>rfl)
  (fun pre W=>(Below w.heap.size w W∧W.heap[w.heap.size]? = some (.cells #[.slice A0 l0.length c0] 25 (0,0))∧W.heap[w.heap.size+1]? = some (.cells #[.slice A1 l1.length c1] 25 (0,0))∧W.heap[w.heap.size+2]? = some (.cells #[.int .i64 0] 3 (0,0)))∧∀ y∈pre,lmb l0 y=lmb l1 y)
  (fun c pre W=>(Below w.heap.size w W∧W.heap[w.heap.size+2]? = some (.cells #[.int .i64 (if lmb l0 (pre.getLast?.getD 0) < lmb l1 (pre.getLast?.getD 0) then -1 else 1)] 3 (0,0)))∧c=.ret∧∃ p x,pre=p++[x]∧lmb l0 x≠lmb l1 x∧∀ y∈p,lmb l0 y=lmb l1 y)
  ?hI ?hIx ?h0
  (fun x=>{ tmps:=#[.slice A0 l0.length c0,.slice A1 l1.length c1,.pointer (some ⟨w.heap.size,0,none⟩),.pointer (some ⟨w.heap.size+1,0,none⟩),.pointer (some ⟨w.heap.size+2,0,none⟩),.int .i64 (x:Int),undef,undef,.slice A0 l0.length c0,.slice A1 l1.length c1,.slice (some ⟨w.heap.size+3,0,none⟩) 2 2,.func (.func 186) #[] #[.pointer (some ⟨w.heap.size+4,0,none⟩)],.int .i64 (x:Int),undef,undef,undef,undef,undef,undef,undef,undef,undef,undef,undef,undef,undef,undef],defers:=[] }) ?assign ?body ?done ?stop
 case hI=>exact OwnFrom.and (OwnFrom.and (ownFrom_below (Nat.le_refl _) (by omega)) (OwnFrom.and (zcA (by omega)) (OwnFrom.and (zcA (by omega)) (zcA (by omega))))) (ownFrom_pure _ _)
 case hIx=>exact fun c=>OwnFrom.and (OwnFrom.and (ownFrom_below (Nat.le_refl _) (by omega)) (fun s W W' row hs hg hr=>(hg.block _ (lt_of_block hs) (fun e=>by have:=(hr _ e.symm).1; omega)).trans hs)) (ownFrom_pure _ _)
 case h0=>exact⟨⟨hb,x0,x1,x2⟩,fun y hy=>by cases hy⟩
 case assign =>
  intro l x W K hK
  gi_wp2
  exact hK
 case body =>
  rintro l pre x W ⟨⟨hB,y0,y1,y2⟩,he⟩ hlen
  have q0:=cell_of_one y0
  have q1:=cell_of_one y1
  have q2:=cell_of_one y2
  have f2:=free_of_one y2
  have HB:=Aside0.mk hB
  have HE:=Aside0.mk he
  have Y:=Aside0.mk (And.intro y0 (And.intro y1 y2))
  have H0:=Aside0.mk (zcy HK.out.1.1 x)
  have H1:=Aside0.mk (zcy HK.out.2.1 x)
  clear hB he y0 y1 y2
  gi_wp2_with fail
  refine start_round (m:=8) (S:=fun w'=>w'.cell? ⟨w.heap.size,0,none⟩=some (.slice A0 l0.length c0)∧w'.cell? ⟨w.heap.size+1,0,none⟩=some (.slice A1 l1.length c1)) (ds:=[]) #[zf,zf,zf,zf,zf,zf,zf,zf] (by kernel_rfl) (by kernel_rfl) (by rintro⟨a,w,h⟩; exact h) rfl rfl ⟨q0,q1⟩ (fun hHeld=>?_)
  refine qt 0 (some 13) ?_
  refine qp 1 (some 14) ?_
  refine qt 3 (some 16) ?_
  refine qp 4 (some 17) ?_
  refine qo 2 (some 15) (fun K hK=>?_)
  refine qg Tryz.func174 #[.slice A0 l0.length c0,.int .i64 (x:Int)] ?_
  refine(nat_limb.calls A0 c0 l0 x (lmb l0 x) _ ?s1 HC0.out H0.out).mono ?_
  case s1=>exact Kd.C_below HR0.out HB.out.drew
  rintro e w2 ⟨rfl,hd⟩
  refine⟨_,rfl,?_⟩
  refine hK _ _ (by obtain⟨m,rfl⟩:=hd.out; exact hHeld) (fun hHeld2=>?_)
  clear hK
  refine qo 5 (some 18) (fun K hK=>?_)
  refine qg Tryz.func174 #[.slice A1 l1.length c1,.int .i64 (x:Int)] ?_
  refine(nat_limb.calls A1 c1 l1 x (lmb l1 x) _ ?s2 HC1.out H1.out).mono ?_
  case s2=>obtain⟨m,rfl⟩:=hd.out; exact Kd.C_below HR1.out (zbo HB.out.drew m)
  rintro e w3 ⟨rfl,hd2⟩
  refine⟨_,rfl,?_⟩
  refine hK _ _ (by obtain⟨m,rfl⟩:=hd2.out; exact hHeld2) (fun hHeld3=>?_)
  clear hK
  refine qp 6 (some 6) ?_
  refine qp 7 (some 7) ?_
  refine done_ (by kernel_rfl) ?_
  have HD:Aside0 (Below W.heap.size W w3):=by
   obtain⟨m,rfl⟩:=hd.out
   obtain⟨m2,rfl⟩:=hd2.out
   exact⟨zbo (zbo (Below.refl _ _).drew m) m2⟩
  have q3:w3.cell? ⟨w.heap.size+2,0,none⟩=some (.int .i64 0):=by
   obtain⟨m,rfl⟩:=hd.out
   obtain⟨m2,rfl⟩:=hd2.out
   exact q2
  have f3:w3.frozen? ⟨w.heap.size+2,0,none⟩=false:=by
   obtain⟨m,rfl⟩:=hd.out
   obtain⟨m2,rfl⟩:=hd2.out
   exact f2
  have r0:=zbG HK.out.1.1 x
  have r1:=zbG HK.out.2.1 x
  clear hd hd2 hHeld hHeld2 hHeld3 q0 q1 q2 f2 H0 H1
  have yy:w3.heap[w.heap.size]? = some (.cells #[.slice A0 l0.length c0] 25 (0,0))∧w3.heap[w.heap.size+1]? = some (.cells #[.slice A1 l1.length c1] 25 (0,0))∧w3.heap[w.heap.size+2]? = some (.cells #[.int .i64 0] 3 (0,0)) :=
   ⟨(HD.out.block _ (lt_of_block Y.out.1)).trans Y.out.1,(HD.out.block _ (lt_of_block Y.out.2.1)).trans Y.out.2.1,(HD.out.block _ (lt_of_block Y.out.2.2)).trans Y.out.2.2⟩
  have Y3:=Aside0.mk yy
  have HB3:=Aside0.mk (HB.out.trans (HD.out.mono HB.out.size))
  clear yy
  gi_wp2
  ·
   rename_i hx
   refine⟨(keepsO HD.out).trans (KeepsOthers.setCell _ _ _),⟨⟨HB3.out.setCell (p:=⟨w.heap.size+2,0,none⟩) (by simp) _,?_⟩,rfl,pre,x,rfl,by omega,HE.out⟩⟩
   have e:(if lmb l0 ((pre++[x]).getLast?.getD 0) < lmb l1 ((pre++[x]).getLast?.getD 0) then (-1:Int) else 1)=-1:=by simp; omega
   rw [e]
   exact one_setCell Y3.out.2.2
  ·
   have hx:lmb l1 x < lmb l0 x:=by assumption
   refine⟨(keepsO HD.out).trans (KeepsOthers.setCell _ _ _),⟨⟨HB3.out.setCell (p:=⟨w.heap.size+2,0,none⟩) (by simp) _,?_⟩,rfl,pre,x,rfl,by omega,HE.out⟩⟩
   have e:(if lmb l0 ((pre++[x]).getLast?.getD 0) < lmb l1 ((pre++[x]).getLast?.getD 0) then (-1:Int) else 1)=1:=by simp; omega
   rw [e]
   exact one_setCell Y3.out.2.2
  ·
   have hx1:lmb l1 x≤lmb l0 x:=by assumption
   have hx2:lmb l0 x≤lmb l1 x:=by assumption
   refine⟨keepsO HD.out,HD.out.mono HB.out.size,⟨HB3.out,Y3.out.1,Y3.out.2.1,Y3.out.2.2⟩,fun y hy=>?_⟩
   rcases List.mem_append.1 hy with hy | hy
   ·
    exact HE.out y hy
   ·
    simp at hy
    subst hy
    omega
 case done =>
  rintro D ys W hD rfl ⟨⟨hB,y0,y1,y2⟩,he⟩ hK
  have q2:=cell_of_one y2
  have f2:=free_of_one y2
  gi_wp2
  have hK':=(KeepsOthers.setCell W ⟨w.heap.size+2,0,none⟩ (.int .i64 0)).same D _ hK rfl
  refine⟨by simp,.inl ⟨_,_,rfl,run_takeDeferred hK',?_⟩⟩
  have hc5:=cell_kept (cell_of_one (one_setCell y2 (u:=.int .i64 0))) (grownBy_putObj' _ D (.deferred none)) (fun r e=>by cases e; exact⟨_,hK',rfl⟩)
  refine⟨.int .i64 0,?_,?_,(hB.setCell (p:=⟨w.heap.size+2,0,none⟩) (by simp) _).trans (belowK_b (w:=w) (Nat.le_refl _) _ D _ _ (by omega) hK' rfl rfl)⟩
  ·
   simp [results,Tryz.f161,go_sem,hc5]
  ·
   have hv:val B32 l0=val B32 l1:=by
    rw [← zcg (show l0.length≤max l0.length l1.length by omega),← zcg (show l1.length≤max l0.length l1.length by omega)]
    exact zcc (fun y hy=>he y (mem_downL.2 hy))
   unfold cmpN
   rw [hv]
   simp
 case stop =>
  rintro D c pre W hD hpre ⟨⟨hB,y2⟩,rfl,p,x,rfl,hne,he⟩ hK
  gi_wp2
  refine⟨by simp,.inl ⟨_,_,rfl,run_takeDeferred hK,?_⟩⟩
  have hc5:=cell_kept (cell_of_one y2) (grownBy_putObj' _ D (.deferred none)) (fun r e=>by cases e; exact⟨_,hK,rfl⟩)
  refine⟨.int .i64 (if lmb l0 x < lmb l1 x then -1 else 1),?_,?_,hB.trans (belowK_b (w:=w) (Nat.le_refl _) W D _ _ (by omega) hK rfl rfl)⟩
  ·
   simp [results,Tryz.f161,go_sem,hc5]
  ·
   obtain⟨hx,hall⟩:=prefix_down hpre
   have hf:∀ i,0≤lmb l0 i∧lmb l0 i < (B32:Int):=fun i=>by have:=zbG HK.out.1.1 i; unfold B32; omega
   have hg:∀ i,0≤lmb l1 i∧lmb l1 i < (B32:Int):=fun i=>by have:=zbG HK.out.2.1 i; unfold B32; omega
   rw [← zcg (show l0.length≤max l0.length l1.length by omega),← zcg (show l1.length≤max l0.length l1.length by omega)]
   unfold cmpN
   by_cases hlt:lmb l0 x < lmb l1 x
   ·
    have:=sumB_lt zby hf hg hx (fun y h1 h2=>he y (hall y h1 h2)) hlt
    rw [if_pos hlt,if_pos this]
   ·
    have:=sumB_lt zby hg hf hx (fun y h1 h2=>(he y (hall y h1 h2)).symm) (by omega)
    rw [if_neg hlt,if_neg (by omega),if_pos this]
end Go.Proofs.YtehghijlchpeaaaGreat.Nat1
end
section
namespace Go.Proofs.YtehghijlchpeaaaGreat.Nat1
open Go.RowKit YtehghijlchpeaaaGreatW.PrintWords YtehghijlchpeaaaGreatW.PrintLast YtehghijlchpeaaaGreatW.PrintMore L Nt
def cr (l:List Int) (m:Int):Nat→Int
 | 0=>0
 | j+1=>(lmb l j*m+cr l m j) / 4294967296
theorem prod_range {x m:Int} (hx:0≤x) (hx2:x < 4294967296) (hm:0≤m) (hm2:m < 4294967296):0≤x*m∧x*m≤18446744065119617025:=by
 refine⟨Int.mul_nonneg hx hm,?_⟩
 have:x*m≤4294967295*4294967295:=Int.mul_le_mul (by omega) (by omega) hm (by omega)
 omega
theorem cr_range {l:List Int} (h:ok B32 l) {m:Int} (hm:0≤m) (hm2:m < 4294967296) (j:Nat):0≤cr l m j∧cr l m j < 4294967296:=by
 induction j with
 | zero=>simp [cr]
 | succ j ih =>
  have h1:=zbG h j
  have h2:=prod_range h1.1 h1.2 hm hm2
  unfold cr
  omega
def rowAt (l:List Int) (m:Int) (up:Nat) (i:Nat):Int:=if i < up then 0 else (lmb l (i-up)*m+cr l m (i-up)) % 4294967296
theorem rowAt_range (l:List Int) (m:Int) (up i:Nat):0≤rowAt l m up i∧rowAt l m up i < 4294967296:=by
 unfold rowAt
 split<;>omega
theorem sum_row_up {l:List Int} {m:Int} (up n:Nat) (hn:n≤up):zb0 B32 (rowAt l m up) n=0:=by
 induction n with
 | zero=>rfl
 | succ n ih =>
  rw [zb0,ih (by omega)]
  unfold rowAt
  rw [if_pos (by omega)]
  simp
theorem sum_row {l:List Int} (h:ok B32 l) {m:Int} (hm:0≤m) (hm2:m < 4294967296) (up j:Nat) :
  zb0 B32 (rowAt l m up) (up+j)+(cr l m j).toNat*B32 ^ (up+j)=zb0 B32 (lmb l) j*m.toNat*B32 ^ up:=by
 induction j with
 | zero=>rw [Nat.add_zero,sum_row_up up up (Nat.le_refl _)]; simp [cr,zb0]
 | succ j ih =>
  have h1:=zbG h j
  have h2:=prod_range h1.1 h1.2 hm hm2
  have h3:=cr_range h hm hm2 j
  rw [← Nat.add_assoc,zb0,zb0]
  have e1:rowAt l m up (up+j)=(lmb l j*m+cr l m j) % 4294967296:=by
   unfold rowAt
   rw [if_neg (by omega),Nat.add_sub_cancel_left]
  have e2:cr l m (j+1)=(lmb l j*m+cr l m j) / 4294967296:=rfl
  rw [e1,e2,Nat.pow_succ]
  have e3:((lmb l j*m+cr l m j) % 4294967296).toNat+B32*((lmb l j*m+cr l m j) / 4294967296).toNat=(lmb l j).toNat*m.toNat+(cr l m j).toNat:=by
   have e4:(lmb l j*m).toNat=(lmb l j).toNat*m.toNat:=Int.toNat_mul h1.1 hm
   rw [← e4]
   unfold B32
   omega
  have e5:((lmb l j*m+cr l m j) / 4294967296).toNat*(B32 ^ (up+j)*B32)=B32*((lmb l j*m+cr l m j) / 4294967296).toNat*B32 ^ (up+j):=by
   rw [Nat.mul_comm (B32 ^ (up+j)) B32,← Nat.mul_assoc,Nat.mul_comm _ B32]
  rw [e5,Nat.add_assoc,← Nat.add_mul,e3,Nat.add_mul]
  rw [Nat.add_mul,Nat.add_mul,← ih,Nat.pow_add B32 up j]
  have e6:(lmb l j).toNat*m.toNat*(B32 ^ up*B32 ^ j)=(lmb l j).toNat*B32 ^ j*m.toNat*B32 ^ up:=by
   simp only [Nat.mul_comm,Nat.mul_left_comm,Nat.mul_assoc]
  rw [e6]
  omega
theorem sum_row_all {l:List Int} (h:ok B32 l) {m:Int} (hm:0≤m) (hm2:m < 4294967296) (up:Nat) :
  zb0 B32 (rowAt l m up) (l.length+up+1)=val B32 l*m.toNat*B32 ^ up:=by
 have h1:=sum_row h hm hm2 up (l.length+1)
 have h3:=cr_range h hm hm2 l.length
 have e:cr l m (l.length+1)=0:=by
  show (lmb l l.length*m+cr l m l.length) / 4294967296=0
  have e2:lmb l l.length=0:=by unfold lmb; rw [List.getD_eq_getElem?_getD,List.getElem?_eq_none (by omega)]; rfl
  rw [e2]
  omega
 rw [e,zcg (by omega)] at h1
 rw [show l.length+up+1=up+(l.length+1) by omega]
 simpa using h1
theorem grown_setCell (w:World) (b:Nat) (v:Value):w.grownBy (w.setCell ⟨b,0,none⟩ v) (some b) :=
 ⟨rfl,rfl,rfl,by simp [World.setCell],fun i hi hne=>Below.heap_setCell _ _ _ _ (fun e=>hne (by rw [e]))⟩
structure RJ (A:Option Addr) (c:Nat) (l:List Int) (m:Int) (up:Nat) (w:World) (i:Nat) (W:World):Prop where
 hb:Below w.heap.size w W
 ha:W.heap[w.heap.size]? = some (.cells #[.slice A l.length c] 25 (0,0))
 hm:W.heap[w.heap.size+1]? = some (.cells #[.int .u32 m] 81 (0,0))
 hu:W.heap[w.heap.size+2]? = some (.cells #[.int .i64 (up:Int)] 3 (0,0))
 hc:W.heap[w.heap.size+3]? = some (.cells #[.int .u64 (cr l m (i-up))] 161 (0,0))
theorem row1_calls (A:Option Addr) (c:Nat) (l:List Int) (m:Int) (up:Nat) (w:World) (i:Nat) (W:World) (hi:i≤4398046511104) (hup:up≤1099511627776) (hC:Kd.C (Kd.int .u32) w A l.length l) (hc:l.length≤c) (ho:ok B32 l) (hm:0≤m) (hm2:m < 4294967296) (hJ:RJ A c l m up w i W) :
  Calls Tryz.prog 187 (#[.int .i64 (i:Int)]++#[.pointer (some ⟨w.heap.size+2,0,none⟩),.pointer (some ⟨w.heap.size,0,none⟩),.pointer (some ⟨w.heap.size+1,0,none⟩),.pointer (some ⟨w.heap.size+3,0,none⟩)]) W fun e w' =>
   e=.returned (.int .u64 (rowAt l m up i))∧RJ A c l m up w (i+1) w'∧W.grownBy w' (some (w.heap.size+3)):=by
 have k0:=cell_of_one hJ.ha
 have k1:=cell_of_one hJ.hm
 have k2:=cell_of_one hJ.hu
 have k3:=cell_of_one hJ.hc
 have f3:=free_of_one hJ.hc
 have HJ:=Aside0.mk hJ
 by_cases hlt:i < up
 ·
  have hb:decide ((i:Int) < (up:Int))=true:=decide_eq_true (by omega)
  clear hJ hC ho
  go_enter Tryz.func187,Tryz.ntmps187
  go_wp2
  go_ret
  refine⟨?_,⟨HJ.out.hb,HJ.out.ha,HJ.out.hm,HJ.out.hu,?_⟩,World.grownBy.refl _ _⟩
  ·
   unfold rowAt; rw [if_pos hlt]; rfl
  ·
   have e:i+1-up=i-up:=by omega
   rw [e]
   exact HJ.out.hc
 ·
  have hb:decide ((i:Int) < (up:Int))=false:=decide_eq_false (by omega)
  obtain⟨j,rfl⟩:∃ j,i=up+j:=⟨i-up,by omega⟩
  have H0:=Aside0.mk (limb_q (Kd.C_below hC hJ.hb) hc (zcy ho j))
  have hx:=zbG ho j
  have hcr:=cr_range ho hm hm2 j
  have hp:=prod_range hx.1 hx.2 hm hm2
  have hj:up+j-up=j:=by omega
  rw [hj] at k3
  have HE:=Aside0.mk (show rowAt l m up (up+j)=(lmb l j*m+cr l m j) % 4294967296 by unfold rowAt; rw [if_neg (by omega),hj])
  have HF:=Aside0.mk (show cr l m (j+1)=(lmb l j*m+cr l m j) / 4294967296 from rfl)
  clear hJ hC ho hlt hj
  generalize rowAt l m up (up+j)=ra at HE ⊢
  generalize cr l m j=cj at HE HF k3 hcr
  generalize lmb l j=x0 at *
  have HS1:=Aside0.mk (show ((up:Int)+(j:Int)-(up:Int))=(j:Int) by omega)
  have HS2:=Aside0.mk (show IntKind.i64.wrap ((up:Int)+(j:Int)-(up:Int))=(j:Int) by rw [zcb]; unfold wrap64; omega)
  go_enter Tryz.func187,Tryz.ntmps187
  go_wp2_with fail
  go_quiet ((go_at_call 174; (first | rw [HS1.out] | rw [HS2.out]); (with_reducible exact H0.out _)))
  go_wp2
  go_ret
  have e1:up+j+1-up=j+1:=by omega
  refine⟨?_,⟨(zbo HJ.out.hb nq).setCell (p:=⟨w.heap.size+3,0,none⟩) (by simp) _,?_,?_,?_,?_⟩,(zch rfl (World.grownBy.refl W _) (zbo (Below.refl _ _) nq)).trans (grown_setCell _ _ _)⟩
  ·
   rw [HE.out,← and_low32 _ (by omega) (by omega)]
   rfl
  ·
   exact(Below.heap_setCell _ _ _ _ (by simp)).trans HJ.out.ha
  ·
   exact(Below.heap_setCell _ _ _ _ (by simp)).trans HJ.out.hm
  ·
   exact(Below.heap_setCell _ _ _ _ (by simp)).trans HJ.out.hu
  ·
   rw [e1,HF.out]
   exact one_setCell (w:=W.drewN nq) HJ.out.hc
def rowWorld (A:Option Addr) (c:Nat) (l:List Int) (m:Int) (up:Nat) (w:World):World :=
 (((w.alloc (.cells #[.slice A l.length c] 25)).alloc (.cells #[.int .u32 m] 81)).alloc (.cells #[.int .i64 (up:Int)] 3)).alloc (.cells #[.int .u64 0] 161)
theorem row_gather (A:Option Addr) (c:Nat) (l:List Int) (m:Int) (up:Nat) (w:World) (hC:Kd.C (Kd.int .u32) w A l.length l) (hc:l.length≤c) (ho:okL l) (hm:0≤m) (hm2:m < 4294967296) (hup:up≤1099511627776) :
  Calls Tryz.prog 168 #[.int .i64 ((l.length+up+1:Nat):Int),.func (.func 187) #[] #[.pointer (some ⟨w.heap.size+2,0,none⟩),.pointer (some ⟨w.heap.size,0,none⟩),.pointer (some ⟨w.heap.size+1,0,none⟩),.pointer (some ⟨w.heap.size+3,0,none⟩)]] (rowWorld A c l m up w) fun e w' =>
   ∃ v,e=.returned v∧Kd.R (Kd.int .u32) 81 w' w.heap.size (fun _=>True) v (dg B32 (val B32 l*m.toNat*B32 ^ up))∧Below w.heap.size w w':=by
 have hs:(rowWorld A c l m up w).heap.size=w.heap.size+4:=by simp [rowWorld]
 have hJ:RJ A c l m up w 0 (rowWorld A c l m up w):=by
  refine⟨((((Below.refl _ w).alloc (Nat.le_refl _) _).alloc (by simp) _).alloc (by simp; omega) _).alloc (by simp; omega) _,?_,?_,?_,?_⟩
  ·
   unfold rowWorld
   rw [Below.heap_alloc _ _ _ (by simp; omega),Below.heap_alloc _ _ _ (by simp; omega),Below.heap_alloc _ _ _ (by simp)]
   exact zbU w _
  ·
   unfold rowWorld
   rw [Below.heap_alloc _ _ _ (by simp),Below.heap_alloc _ _ _ (by simp)]
   have:=zbU (w.alloc (.cells #[.slice A l.length c] 25)) (.cells #[.int .u32 m] 81)
   simpa using this
  ·
   unfold rowWorld
   rw [Below.heap_alloc _ _ _ (by simp)]
   have:=zbU ((w.alloc (.cells #[.slice A l.length c] 25)).alloc (.cells #[.int .u32 m] 81)) (.cells #[.int .i64 (up:Int)] 3)
   simpa using this
  ·
   unfold rowWorld
   have:=zbU (((w.alloc (.cells #[.slice A l.length c] 25)).alloc (.cells #[.int .u32 m] 81)).alloc (.cells #[.int .i64 (up:Int)] 3)) (.cells #[.int .u64 0] 161)
   simpa [cr] using this
 have hl:=ho.2
 generalize rowWorld A c l m up w=W at *
 rw [← sum_row_all ho.1 hm hm2 up]
 refine(gather_calls (l.length+up+1) 187 _ (rowAt l m up) (fun i W'=>RJ A c l m up w i W') (some (w.heap.size+3)) W (zcr Tryz.func187 (by kernel_rfl) rfl) (fun k hk=>by cases hk; omega) hJ ?_ ?_ ?_ (by omega)).mono ?_
 ·
  intro i W1 W2 h1 hb
  exact⟨h1.hb.trans (hb.mono (by omega)),(hb.block _ (by omega)).trans h1.ha,(hb.block _ (by omega)).trans h1.hm,(hb.block _ (by omega)).trans h1.hu,(hb.block _ (by omega)).trans h1.hc⟩
 ·
  intro i W1 hi h1
  exact row1_calls A c l m up w i W1 (by omega) hup hC hc ho.1 hm hm2 h1
 ·
  intro i _
  have:=rowAt_range l m up i
  omega
 ·
  rintro e w1 ⟨v,rfl,hR,hj,hg⟩
  exact⟨v,rfl,Kd.R_lower hR (by omega),hj.hb⟩
open Classical in
noncomputable def nat_row.f (l0:List Int) (a1 a2:Int):Option (List Int):=if okL l0∧(0≤a1∧a1 < 4294967296)∧(0≤a2∧a2≤1099511627776) then some (dg B32 (val B32 l0*a1.toNat*B32 ^ a2.toNat)) else none
theorem nat_row.calls (A0:Option Addr) (c0:Nat) (l0:List Int) (a1 a2:Int) (r:List Int) (w:World) (hr0:Kd.C (Kd.int .u32) w A0 l0.length l0) (hc0:l0.length≤c0) (h:nat_row.f l0 a1 a2=some r) :
  Calls Tryz.prog 175 #[.slice A0 l0.length c0,.int .u32 a1,.int .i64 a2] w fun e w'=>∃ v0_:Value,e=.returned (v0_)∧Kd.R (Kd.int .u32) 81 w' w.heap.size (fun _=>True) v0_ r∧Below w.heap.size w w':=by
 unfold nat_row.f at h
 split at h
 ·
  rename_i hr
  obtain rfl:=Option.some.inj h
  obtain⟨hk,⟨hm,hm2⟩,⟨hu,hu2⟩⟩:=hr
  obtain⟨up,rfl⟩:=Int.eq_ofNat_of_zero_le hu
  rw [Int.toNat_natCast]
  have HG:=Aside0.mk (row_gather A0 c0 l0 a1 up w hr0 hc0 hk hm hm2 (by omega))
  have hb0:=hk.2
  have hup:up≤1099511627776:=by omega
  clear h hr0 hc0 hk hu hu2 hm hm2
  have HS:=Aside0.mk (show ((l0.length:Int)+(up:Int)+1)=((l0.length+up+1:Nat):Int) by omega)
  go_enter Tryz.func175,Tryz.ntmps175
  go_wp2_with fail
  rw [HS.out]
  refine HG.out.mono ?_
  rintro e w1 ⟨v,rfl,hR,hB⟩
  obtain⟨A,c,rfl⟩:=Kd.R_slice hR
  have HR:=Aside0.mk hR
  have HB:=Aside0.mk hB
  clear hR hB
  go_wp2
  go_ret
  exact⟨_,rfl,HR.out,HB.out⟩
 ·
  cases h
end Go.Proofs.YtehghijlchpeaaaGreat.Nat1
end
section
namespace Go.Proofs.YtehghijlchpeaaaGreat.Nat1
open Go.RowKit YtehghijlchpeaaaGreatW.PrintWords YtehghijlchpeaaaGreatW.PrintLast YtehghijlchpeaaaGreatW.PrintMore L Nt
open Classical in
noncomputable def nat_Cmp.f (l0 l1:List Int):Option Int:=if okL l0∧okL l1 then some (cmpN (val B32 l0) (val B32 l1)) else none
theorem nat_Cmp.calls (A0:Option Addr) (c0:Nat) (l0:List Int) (A1:Option Addr) (c1:Nat) (l1:List Int) (r:Int) (w:World) (hr0:Kd.C (Kd.int .u32) w A0 l0.length l0) (hc0:l0.length≤c0) (hr1:Kd.C (Kd.int .u32) w A1 l1.length l1) (hc1:l1.length≤c1) (h:nat_Cmp.f l0 l1=some r) :
  Calls Tryz.prog 161 #[.slice A0 l0.length c0,.slice A1 l1.length c1] w fun e w'=>e=.returned (.int .i64 r)∧Below w.heap.size w w':=by
 unfold nat_Cmp.f at h
 split at h
 ·
  rename_i hr
  obtain rfl:=Option.some.inj h
  exact cmp_in A0 c0 l0 A1 c1 l1 w hr0 hc0 hr1 hc1 hr
 ·
  cases h
def br (a b:List Int):Nat→Int
 | 0=>0
 | i+1=>if lmb a i < lmb b i+br a b i then 1 else 0
theorem br_range (a b:List Int) (i:Nat):0≤br a b i∧br a b i≤1:=by
 cases i with
 | zero=>simp [br]
 | succ i=>unfold br; split<;>omega
def subAt (a b:List Int) (i:Nat):Int:=if lmb a i < lmb b i+br a b i then lmb a i+4294967296-(lmb b i+br a b i) else lmb a i-(lmb b i+br a b i)
theorem subAt_range {a b:List Int} (ha:ok B32 a) (hb:ok B32 b) (i:Nat):0≤subAt a b i∧subAt a b i < 4294967296:=by
 have h1:=zbG ha i
 have h2:=zbG hb i
 have h3:=br_range a b i
 unfold subAt
 split<;>omega
theorem sum_sub {a b:List Int} (ha:ok B32 a) (hb:ok B32 b) (n:Nat):zb0 B32 (subAt a b) n+zb0 B32 (lmb b) n=zb0 B32 (lmb a) n+(br a b n).toNat*B32 ^ n:=by
 induction n with
 | zero=>simp [zb0,br]
 | succ n ih =>
  have h1:=zbG ha n
  have h2:=zbG hb n
  have h3:=br_range a b n
  have h4:=subAt_range ha hb n
  have h5:=br_range a b (n+1)
  have e:(subAt a b n).toNat+(lmb b n).toNat+(br a b n).toNat=(lmb a n).toNat+B32*(br a b (n+1)).toNat:=by
   have e1:br a b (n+1)=if lmb a n < lmb b n+br a b n then 1 else 0:=rfl
   have e2:subAt a b n=if lmb a n < lmb b n+br a b n then lmb a n+4294967296-(lmb b n+br a b n) else lmb a n-(lmb b n+br a b n):=rfl
   unfold B32
   by_cases hlt:lmb a n < lmb b n+br a b n
   ·
    rw [if_pos hlt] at e1 e2
    rw [e1,e2]
    omega
   ·
    rw [if_neg hlt] at e1 e2
    rw [e1,e2]
    omega
  have e2:=congrArg (·*B32 ^ n) e
  simp only [Nat.add_mul] at e2
  rw [zb0,zb0,zb0,Nat.pow_succ,← Nat.mul_assoc,Nat.mul_right_comm _ _ B32,Nat.mul_comm _ B32]
  omega
theorem val_split (l:List Int) (n:Nat):val B32 l=zb0 B32 (lmb l) n+B32 ^ n*val B32 (l.drop n):=by
 rcases Nat.lt_or_ge n l.length with h | h
 ·
  have h1:=val_append B32 (l.take n) (l.drop n)
  rw [List.take_append_drop,List.length_take,Nat.min_eq_left (by omega)] at h1
  rw [h1]
  congr 1
  rw [← zcg (l:=l.take n) (m:=n) (by rw [List.length_take]; omega)]
  refine zcc (fun y hy=>?_)
  unfold lmb
  simp [List.getD_eq_getElem?_getD,hy]
 ·
  rw [zcg h,List.drop_eq_nil_of_le h,val_nil,Nat.mul_zero,Nat.add_zero]
theorem sum_sub_all {a b:List Int} (ha:ok B32 a) (hb:ok B32 b) (h:val B32 b≤val B32 a):zb0 B32 (subAt a b) a.length=val B32 a-val B32 b:=by
 have h1:=sum_sub ha hb a.length
 have h2:=val_split b a.length
 have h3:=val_lt ha
 have h4:val B32 (b.drop a.length)=0:=by
  rcases Nat.eq_zero_or_pos (val B32 (b.drop a.length)) with h5 | h5
  ·
   exact h5
  ·
   have:=Nat.mul_le_mul_left (B32 ^ a.length) h5
   omega
 rw [h4,Nat.mul_zero,Nat.add_zero] at h2
 rw [zcg (Nat.le_refl _),← h2] at h1
 have h6:∀ k,zb0 B32 (subAt a b) k < B32 ^ k:=by
  intro k
  induction k with
  | zero=>simp [zb0]
  | succ k ih =>
   have h7:=subAt_range ha hb k
   have h8:(subAt a b k).toNat+1≤B32:=by unfold B32; omega
   have h9:=Nat.mul_le_mul_right (B32 ^ k) h8
   rw [Nat.add_mul,Nat.one_mul] at h9
   rw [zb0,Nat.pow_succ,Nat.mul_comm (B32 ^ k) B32]
   omega
 have h7:=h6 a.length
 have h8:=br_range a b a.length
 rcases (show br a b a.length=0∨br a b a.length=1 by omega) with h9 | h9
 ·
  rw [h9] at h1
  simp at h1
  omega
 ·
  rw [h9] at h1
  simp at h1
  omega
structure SJ (A0:Option Addr) (c0:Nat) (l0:List Int) (A1:Option Addr) (c1:Nat) (l1:List Int) (w:World) (B:Nat) (i:Nat) (W:World):Prop where
 hb:Below w.heap.size w W
 ha:W.heap[w.heap.size]? = some (.cells #[.slice A0 l0.length c0] 25 (0,0))
 h1:W.heap[w.heap.size+1]? = some (.cells #[.slice A1 l1.length c1] 25 (0,0))
 hc:W.heap[B]? = some (.cells #[.int .u64 (br l0 l1 i)] 161 (0,0))
theorem sub1_calls (A0:Option Addr) (c0:Nat) (l0:List Int) (A1:Option Addr) (c1:Nat) (l1:List Int) (w:World) (B:Nat) (i:Nat) (W:World) (hi:i≤4398046511104) (hC0:Kd.C (Kd.int .u32) w A0 l0.length l0) (hC1:Kd.C (Kd.int .u32) w A1 l1.length l1) (hc0:l0.length≤c0) (hc1:l1.length≤c1) (ho0:ok B32 l0) (ho1:ok B32 l1) (hB:w.heap.size+1 < B) (hJ:SJ A0 c0 l0 A1 c1 l1 w B i W) :
  Calls Tryz.prog 177 (#[.int .i64 (i:Int)]++#[.pointer (some ⟨w.heap.size,0,none⟩),.pointer (some ⟨w.heap.size+1,0,none⟩),.pointer (some ⟨B,0,none⟩)]) W fun e w' =>
   e=.returned (.int .u64 (subAt l0 l1 i))∧SJ A0 c0 l0 A1 c1 l1 w B (i+1) w'∧W.grownBy w' (some B):=by
 have k0:=cell_of_one hJ.ha
 have k1:=cell_of_one hJ.h1
 have k3:=cell_of_one hJ.hc
 have f3:=free_of_one hJ.hc
 have HJ:=Aside0.mk hJ
 have H0:=Aside0.mk (limb_q (Kd.C_below hC0 hJ.hb) hc0 (zcy ho0 i))
 have H1:=Aside0.mk (limb_q (Kd.C_below hC1 hJ.hb) hc1 (zcy ho1 i))
 have r0:=zbG ho0 i
 have r1:=zbG ho1 i
 have r2:=br_range l0 l1 i
 have HE:=Aside0.mk (show subAt l0 l1 i=if lmb l0 i < lmb l1 i+br l0 l1 i then lmb l0 i+4294967296-(lmb l1 i+br l0 l1 i) else lmb l0 i-(lmb l1 i+br l0 l1 i) from rfl)
 have HF:=Aside0.mk (show br l0 l1 (i+1)=if lmb l0 i < lmb l1 i+br l0 l1 i then 1 else 0 from rfl)
 clear hJ hC0 hC1 ho0 ho1 hc0 hc1
 generalize subAt l0 l1 i=sa at HE ⊢
 generalize hbi:br l0 l1 i=bi at HE HF k3 r2
 have HBI:=Aside0.mk hbi
 clear hbi
 generalize lmb l0 i=x0 at *
 generalize lmb l1 i=x1 at *
 by_cases hlt:x0 < x1+bi
 ·
  rw [if_pos hlt] at HE HF
  go_enter Tryz.func177,Tryz.ntmps177
  go_wp2_with fail
  go_quiet ((go_at_call 174; first | (with_reducible exact H0.out _) | (with_reducible exact H1.out _)))
  go_wp2
  go_ret
  refine⟨?_,⟨((zbo HJ.out.hb nq).setCell (p:=⟨B,0,none⟩) (by simp; omega) _).setCell (p:=⟨B,0,none⟩) (by simp; omega) _,?_,?_,?_⟩,((zch rfl (World.grownBy.refl W _) (zbo (Below.refl _ _) nq)).trans (grown_setCell _ _ _)).trans (grown_setCell _ _ _)⟩
  ·
   rw [HE.out]
   rfl
  ·
   exact(Below.heap_setCell _ _ _ _ (by simp; omega)).trans ((Below.heap_setCell _ _ _ _ (by simp; omega)).trans HJ.out.ha)
  ·
   exact(Below.heap_setCell _ _ _ _ (by simp; omega)).trans ((Below.heap_setCell _ _ _ _ (by simp; omega)).trans HJ.out.h1)
  ·
   rw [HF.out]
   exact one_setCell (one_setCell (w:=W.drewN nq) HJ.out.hc)
 ·
  rw [if_neg hlt] at HE HF
  go_enter Tryz.func177,Tryz.ntmps177
  go_wp2_with fail
  go_quiet ((go_at_call 174; first | (with_reducible exact H0.out _) | (with_reducible exact H1.out _)))
  go_wp2
  go_ret
  refine⟨?_,⟨(zbo HJ.out.hb nq).setCell (p:=⟨B,0,none⟩) (by simp; omega) _,?_,?_,?_⟩,(zch rfl (World.grownBy.refl W _) (zbo (Below.refl _ _) nq)).trans (grown_setCell _ _ _)⟩
  ·
   rw [HE.out]
   rfl
  ·
   exact(Below.heap_setCell _ _ _ _ (by simp; omega)).trans HJ.out.ha
  ·
   exact(Below.heap_setCell _ _ _ _ (by simp; omega)).trans HJ.out.h1
  ·
   rw [HF.out]
   exact one_setCell (w:=W.drewN nq) HJ.out.hc
open Classical in
noncomputable def nat_Sub.f (l0 l1:List Int):Option (List Int×Int):=if okL l0∧okL l1 then (if val B32 l0 < val B32 l1 then some ([],20) else some (dg B32 (val B32 l0-val B32 l1),0)) else none
theorem sub_gather (A0:Option Addr) (c0:Nat) (l0:List Int) (A1:Option Addr) (c1:Nat) (l1:List Int) (w:World) (hr0:Kd.C (Kd.int .u32) w A0 l0.length l0) (hc0:l0.length≤c0) (hr1:Kd.C (Kd.int .u32) w A1 l1.length l1) (hc1:l1.length≤c1) (h:okL l0∧okL l1) (hle:val B32 l1≤val B32 l0)
  (W:World) (hb:Below w.heap.size w W) (x0:W.heap[w.heap.size]? = some (.cells #[.slice A0 l0.length c0] 25 (0,0))) (x1:W.heap[w.heap.size+1]? = some (.cells #[.slice A1 l1.length c1] 25 (0,0))) :
  Calls Tryz.prog 168 #[.int .i64 (l0.length:Int),.func (.func 177) #[] #[.pointer (some ⟨w.heap.size,0,none⟩),.pointer (some ⟨w.heap.size+1,0,none⟩),.pointer (some ⟨W.heap.size,0,none⟩)]] (W.alloc (.cells #[.int .u64 0] 161)) fun e w' =>
   ∃ v,e=.returned v∧Kd.R (Kd.int .u32) 81 w' w.heap.size (fun _=>True) v (dg B32 (val B32 l0-val B32 l1))∧Below w.heap.size w w':=by
 have hlt:=lt_of_block x1
 have hJ:SJ A0 c0 l0 A1 c1 l1 w W.heap.size 0 (W.alloc (.cells #[.int .u64 0] 161)) :=
  ⟨hb.alloc hb.size _,(Below.heap_alloc _ _ _ (by omega)).trans x0,(Below.heap_alloc _ _ _ (by omega)).trans x1,zbU W _⟩
 have hs:(W.alloc (.cells #[.int .u64 0] 161)).heap.size=W.heap.size+1:=by simp
 have hl:=h.1.2
 rw [← sum_sub_all h.1.1 h.2.1 hle]
 refine(gather_calls l0.length 177 _ (subAt l0 l1) (fun i W'=>SJ A0 c0 l0 A1 c1 l1 w W.heap.size i W') (some W.heap.size) _ (zcr Tryz.func177 (by kernel_rfl) rfl) (fun k hk=>by cases hk; omega) hJ ?_ ?_ ?_ (by omega)).mono ?_
 ·
  intro i W1 W2 h1 hbb
  exact⟨h1.hb.trans (hbb.mono (by omega)),(hbb.block _ (by omega)).trans h1.ha,(hbb.block _ (by omega)).trans h1.h1,(hbb.block _ (by omega)).trans h1.hc⟩
 ·
  intro i W1 hi h1
  exact sub1_calls A0 c0 l0 A1 c1 l1 w W.heap.size i W1 (by omega) hr0 hr1 hc0 hc1 h.1.1 h.2.1 hlt h1
 ·
  intro i _
  have:=subAt_range h.1.1 h.2.1 i
  omega
 ·
  rintro e w1 ⟨v,rfl,hR,hj,hg⟩
  exact⟨v,rfl,Kd.R_lower hR (by omega),hj.hb⟩
theorem nat_Sub.calls (A0:Option Addr) (c0:Nat) (l0:List Int) (A1:Option Addr) (c1:Nat) (l1:List Int) (r1:List Int) (r2:Int) (w:World) (hr0:Kd.C (Kd.int .u32) w A0 l0.length l0) (hc0:l0.length≤c0) (hr1:Kd.C (Kd.int .u32) w A1 l1.length l1) (hc1:l1.length≤c1) (h:nat_Sub.f l0 l1=some (r1,r2)) :
  Calls Tryz.prog 165 #[.slice A0 l0.length c0,.slice A1 l1.length c1] w fun e w'=>∃ v0_:Value,e=.returned (.tuple #[v0_,.int .i64 r2])∧Kd.R (Kd.int .u32) 81 w' w.heap.size (fun _=>True) v0_ r1∧Below w.heap.size w w':=by
 unfold nat_Sub.f at h
 split at h
 ·
  rename_i hr
  have hB0:=((Below.refl w.heap.size w).alloc (Nat.le_refl _) (.cells #[.slice A0 l0.length c0] 25)).alloc (by simp) (.cells #[.slice A1 l1.length c1] 25)
  have hx0:((w.alloc (.cells #[.slice A0 l0.length c0] 25)).alloc (.cells #[.slice A1 l1.length c1] 25)).heap[w.heap.size]? = some (.cells #[.slice A0 l0.length c0] 25 (0,0)):=by
   rw [Below.heap_alloc _ _ _ (by simp)]; exact zbU w _
  have hx1:((w.alloc (.cells #[.slice A0 l0.length c0] 25)).alloc (.cells #[.slice A1 l1.length c1] 25)).heap[w.heap.size+1]? = some (.cells #[.slice A1 l1.length c1] 25 (0,0)):=by
   have:=zbU (w.alloc (.cells #[.slice A0 l0.length c0] 25)) (.cells #[.slice A1 l1.length c1] 25)
   simpa using this
  have hs:((w.alloc (.cells #[.slice A0 l0.length c0] 25)).alloc (.cells #[.slice A1 l1.length c1] 25)).heap.size=w.heap.size+2:=by simp
  have HCm:=Aside0.mk (cmp_in A0 c0 l0 A1 c1 l1 _ (Kd.C_alloc (Kd.C_alloc hr0 (.cells #[.slice A0 l0.length c0] 25)) (.cells #[.slice A1 l1.length c1] 25)) hc0 (Kd.C_alloc (Kd.C_alloc hr1 (.cells #[.slice A0 l0.length c0] 25)) (.cells #[.slice A1 l1.length c1] 25)) hc1 hr)
  have HX:=Aside0.mk (And.intro hB0 (And.intro hx0 (And.intro hx1 hs)))
  clear hB0 hx0 hx1 hs
  by_cases hlt:val B32 l0 < val B32 l1
  ·
   rw [if_pos hlt] at h
   simp only [Option.some.injEq,Prod.mk.injEq] at h
   obtain⟨rfl,rfl⟩:=h
   have hcm:cmpN (val B32 l0) (val B32 l1)=-1:=by unfold cmpN; rw [if_pos hlt]
   rw [hcm] at HCm
   clear hcm hr hr0 hr1 hc0 hc1 hlt
   go_enter Tryz.func165,Tryz.ntmps165
   go_wp2_with fail
   refine HCm.out.mono ?_
   rintro e w1 ⟨rfl,hB1⟩
   have HB1:=Aside0.mk hB1
   clear hB1
   go_wp2
   go_ret2
   exact⟨_,rfl,Kd.R_nil _ _ _ _ _,zbm HX.out.1 HB1.out⟩
  ·
   rw [if_neg hlt] at h
   simp only [Option.some.injEq,Prod.mk.injEq] at h
   obtain⟨rfl,rfl⟩:=h
   have hcm:¬ cmpN (val B32 l0) (val B32 l1) < 0:=by unfold cmpN; rw [if_neg hlt]; split<;>omega
   have HG:=Aside0.mk (sub_gather A0 c0 l0 A1 c1 l1 w hr0 hc0 hr1 hc1 hr (by omega))
   have hl0:=hr.1.2
   clear hr hr0 hr1 hc0 hc1 hlt
   generalize cmpN (val B32 l0) (val B32 l1)=cm at HCm hcm
   have hcb:decide (cm < 0)=false:=decide_eq_false hcm
   go_enter Tryz.func165,Tryz.ntmps165
   go_wp2_with fail
   refine HCm.out.mono ?_
   rintro e w1 ⟨rfl,hB1⟩
   have hq0:=(hB1.block w.heap.size (by simp; omega)).trans HX.out.2.1
   have hq1:=(hB1.block (w.heap.size+1) (by simp)).trans HX.out.2.2.1
   have HG1:=Aside0.mk (HG.out w1 (zbm HX.out.1 hB1) hq0 hq1)
   have k0:(w1.alloc (.cells #[.int .u64 0] 161)).cell? ⟨w.heap.size,0,none⟩=some (.slice A0 l0.length c0):=cell_of_one ((Below.heap_alloc _ _ _ (lt_of_block hq0)).trans hq0)
   have hsz:w.heap.size+2≤w1.heap.size:=by have:=hB1.size; rw [HX.out.2.2.2] at this; exact this
   clear hq0 hq1 hB1
   go_wp2_with fail
   refine HG1.out.mono ?_
   rintro e w2 ⟨v,rfl,hR,hB⟩
   obtain⟨A,c,rfl⟩:=Kd.R_slice hR
   have HR:=Aside0.mk hR
   have HB:=Aside0.mk hB
   clear hR hB
   go_wp2
   go_ret2
   exact⟨_,rfl,HR.out,HB.out⟩
 ·
  cases h
end Go.Proofs.YtehghijlchpeaaaGreat.Nat1
end
