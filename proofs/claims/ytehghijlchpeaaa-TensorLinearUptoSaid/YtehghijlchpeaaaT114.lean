/- Part 15 of the proof of tensorLinearUpto_holds: what it uses, in build order. -/
import Derived.Test.YtehghijlchpeaaaT113
import Derived.ArgAppend
import Derived.Below
import Derived.BigQuiet
import Derived.Deep.AppendLies
import Derived.Deep.CutBlock
import Derived.Deep.DeepCutAuto
import Derived.Deep.Draws
import Derived.Deep.LoopGhost
import Derived.Deep.OwnRows
import Derived.Deep.QuietTactic
import Derived.Deep.RegionHeld3
import Derived.KernelRfl
import Derived.Laws.BitsLemmas
import Derived.Laws.BytesArg
import Derived.Laws.IdiomCopy
import Derived.Laws.MakeOwn
import Derived.Laws.OwnMore
import Derived.Laws.Rows
import Derived.Laws.Slices
import Derived.Lib.AppendStr
import Derived.Lib.ConvBytes
import Derived.Lib.ItoaNum
import Derived.Maps.AppendAt
import Derived.OrdersHeld
import Derived.OwnWalk
import Derived.RowKit
import Derived.RowKit3
import Derived.Tactics
import Derived.Test.YtehghijlchpeaaaProg
import Derived.WalkKit
import Derived.WideLaws
set_option maxHeartbeats 8000000
set_option maxRecDepth 100000
set_option linter.unusedVariables false
set_option linter.unusedSimpArgs false
set_option linter.unusedSectionVars false
section
namespace Go.Proofs.Ytehghijlchpeaaa.Nat1
open Go.RowKit YtehghijlchpeaaaW.PrintWords YtehghijlchpeaaaW.PrintLast YtehghijlchpeaaaW.PrintMore L Nt
theorem val_top {l:List Int} {n:Nat} (hl:l.length=n+1):val B32 l=zb2 B32 (lmb l) n+(lmb l n).toNat*B32 ^ n:=by
 rw [← zco (l:=l) (m:=n+1) (by omega),zb2]
theorem val_top2 {l:List Int} {m:Nat} (hl:l.length=m+2):val B32 l=zb2 B32 (lmb l) m+B32 ^ m*((lmb l (m+1)).toNat*B32+(lmb l m).toNat):=by
 rw [← zco (l:=l) (m:=m+2) (by omega),zb2,zb2,Nat.pow_succ,Nat.mul_add]
 have:(lmb l (m+1)).toNat*(B32 ^ m*B32)=B32 ^ m*((lmb l (m+1)).toNat*B32):=by simp only [Nat.mul_comm,Nat.mul_left_comm,Nat.mul_assoc]
 rw [this,Nat.mul_comm (B32 ^ m) (lmb l m).toNat]
 omega
theorem part_top3 (us:List Int) (j m:Nat):part us j (m+3)=part us j m+B32 ^ m*(((lmb us (j+(m+2))).toNat*B32+(lmb us (j+(m+1))).toNat)*B32+(lmb us (j+m)).toNat):=by
 unfold part
 rw [zb2,zb2,zb2]
 simp only [Nat.pow_succ,Nat.mul_add,Nat.add_mul]
 simp only [Nat.mul_comm,Nat.mul_left_comm,Nat.mul_assoc]
 omega
theorem zcw {l:List Int} (h:ok B32 l) (k:Nat):zb2 B32 (lmb l) k < B32 ^ k:=sumB_lt_pow (fun i=>by have:=zbI h i; unfold B32; omega) k
theorem div_norm {b n:Nat} (hb:0 < b) (hn:(dg B32 b).length=n+1):∃ s:Nat,s < 32∧(32-(Lib.bitLen (lmb (dg B32 b) n).toNat:Int))=(s:Int)∧2147483648*B32 ^ n≤b*2 ^ s∧b*2 ^ s < B32 ^ (n+1):=by
 have hok:=dg_ok zbB b
 have e:=val_top hn
 rw [zbT zbB] at e
 have h1:=zcw hok n
 have h2:=pow_le_of_dg zbB hb
 rw [hn,Nat.add_sub_cancel] at h2
 have h3:=zbI hok n
 generalize zb2 B32 (lmb (dg B32 b)) n=lo at *
 generalize hx:(lmb (dg B32 b) n).toNat=x at *
 have hx1:x < 4294967296:=by omega
 have hx0:x≠0:=by
  rintro rfl
  omega
 obtain⟨h7,h5,h4⟩:1≤Lib.bitLen x∧2 ^ (Lib.bitLen x-1)≤x∧x < 2 ^ Lib.bitLen x:=Lib.bitLenAux_bounds _ x (by omega) hx0
 have h6:Lib.bitLen x≤32:=by
  rcases Nat.lt_or_ge 32 (Lib.bitLen x) with h | h
  ·
   exfalso
   have:2 ^ 32≤2 ^ (Lib.bitLen x-1):=Nat.pow_le_pow_right (by omega) (by omega)
   omega
  ·
   exact h
 generalize Lib.bitLen x=t at *
 have hp1:2 ^ (t-1)*2 ^ (32-t)=2147483648:=by rw [← Nat.pow_add,show t-1+(32-t)=31 by omega]
 have hp2:2 ^ t*2 ^ (32-t)=B32:=by rw [← Nat.pow_add,show t+(32-t)=32 by omega]; rfl
 refine⟨32-t,by omega,by omega,?_,?_⟩
 ·
  have h8:2 ^ (t-1)*2 ^ (32-t)≤x*2 ^ (32-t):=Nat.mul_le_mul_right _ h5
  rw [hp1] at h8
  have h9:=Nat.mul_le_mul_right (B32 ^ n) h8
  have h10:b*2 ^ (32-t)=lo*2 ^ (32-t)+x*2 ^ (32-t)*B32 ^ n:=by
   rw [e,Nat.add_mul]; simp only [Nat.mul_comm,Nat.mul_left_comm,Nat.mul_assoc]
  omega
 ·
  have h8:(x+1)*2 ^ (32-t)≤2 ^ t*2 ^ (32-t):=Nat.mul_le_mul_right _ h4
  rw [hp2] at h8
  have h9:b < (x+1)*B32 ^ n:=by rw [Nat.add_mul,Nat.one_mul]; omega
  have h10:b*2 ^ (32-t) < (x+1)*B32 ^ n*2 ^ (32-t):=Nat.mul_lt_mul_of_pos_right h9 (Nat.pow_pos (by omega))
  have h11:(x+1)*B32 ^ n*2 ^ (32-t)=(x+1)*2 ^ (32-t)*B32 ^ n:=by simp only [Nat.mul_comm,Nat.mul_left_comm,Nat.mul_assoc]
  have h12:=Nat.mul_le_mul_right (B32 ^ n) h8
  rw [Nat.pow_succ,Nat.mul_comm (B32 ^ n)]
  omega
theorem norm_top {V n:Nat} (h1:2147483648*B32 ^ n≤V) (h2:V < B32 ^ (n+1)):(dg B32 V).length=n+1∧2147483648≤lmb (dg B32 V) n:=by
 have hl:(dg B32 V).length=n+1:=by
  have h3:=zbS zbB h2
  have h4:=lt_dg zbB (n:=V)
  rcases Nat.lt_or_ge n (dg B32 V).length with h | h
  ·
   omega
  ·
   exfalso
   have h5:B32 ^ (dg B32 V).length≤B32 ^ n:=Nat.pow_le_pow_right B32_pos h
   have:=pow_pos_ n
   omega
 refine⟨hl,?_⟩
 have e:=val_top hl
 rw [zbT zbB] at e
 have h3:=zcw (dg_ok zbB V) n
 have h4:=zbI (dg_ok zbB V) n
 rcases Int.lt_or_le (lmb (dg B32 V) n) 2147483648 with h | h
 ·
  exfalso
  have h5:((lmb (dg B32 V) n).toNat+1)*B32 ^ n≤2147483648*B32 ^ n:=Nat.mul_le_mul_right _ (by omega)
  rw [Nat.add_mul,Nat.one_mul] at h5
  omega
 ·
  exact h
theorem val_zeros (n:Nat):val B32 (List.replicate n 0)=0:=by
 induction n with
 | zero=>rfl
 | succ n ih=>rw [List.replicate_succ,zcu,ih]; rfl
theorem ok_zeros (n:Nat):ok B32 (List.replicate n 0):=fun x hx=>by rw [List.eq_of_mem_replicate hx]; decide
theorem lmb_zeros (n i:Nat):lmb (List.replicate n 0) i=0:=by
 unfold lmb
 rw [List.getD_eq_getElem?_getD]
 rcases Nat.lt_or_ge i n with h | h
 ·
  rw [List.getElem?_replicate,if_pos h]; rfl
 ·
  rw [List.getElem?_eq_none (by rw [List.length_replicate]; exact h)]; rfl
theorem pad {l:List Int} {L:Nat} (h:ok B32 l) (hl:l.length≤L):(l.take (min l.length L)++(List.replicate L 0).drop (min l.length L)).length=L∧ok B32 (l.take (min l.length L)++(List.replicate L 0).drop (min l.length L))∧val B32 (l.take (min l.length L)++(List.replicate L 0).drop (min l.length L))=val B32 l:=by
 rw [Nat.min_eq_left hl,List.take_length,List.drop_replicate]
 refine⟨by rw [List.length_append,List.length_replicate]; omega,ok_append.2 ⟨h,ok_zeros _⟩,by rw [val_append,val_zeros,Nat.mul_zero,Nat.add_zero]⟩
end Go.Proofs.Ytehghijlchpeaaa.Nat1
end
section
namespace Go.Proofs.Ytehghijlchpeaaa.Nat1
open Go.RowKit YtehghijlchpeaaaW.PrintWords YtehghijlchpeaaaW.PrintLast YtehghijlchpeaaaW.PrintMore L Nt
theorem UR_of_R {W:World} {base:Nat} {ok':Nat→Prop} {g cap n:Nat} {us:List Int} (h:Kd.R (Kd.int .u32) 63 W base ok' (.slice (some ⟨g,0,none⟩) n cap) us):UR W g cap us:=by
 obtain⟨rfl,_⟩:=Kd.R_reads' h
 exact own_weaken (Kd.own_of_R h) (Nat.zero_le _)
theorem UR.R {W:World} {g cap:Nat} {us:List Int} (h:UR W g cap us):Kd.R (Kd.int .u32) 63 W 0 (fun _=>True) (.slice (some ⟨g,0,none⟩) us.length cap) us:=Kd.R_of_own h (fun _ _=>trivial)
theorem UR.c {W:World} {g cap:Nat} {us:List Int} (h:UR W g cap us):us.length≤cap∧Kd.C (Kd.int .u32) W (some ⟨g,0,none⟩) us.length us:=(Kd.R_reads' h.R).2
theorem UR.grown {W W':World} {g g2 cap:Nat} {us:List Int} (h:UR W g cap us) (hg:W.grownBy W' (some g2)) (hne:g≠g2):UR W' g cap us:=h.keep (hg.block g h.lt (by simpa using hne))
theorem UR.below {W W':World} {g cap:Nat} {us:List Int} (h:UR W g cap us) (hb:Below W.heap.size W W'):UR W' g cap us:=h.keep (hb.block g h.lt)
def VR2 (W:World) (g g2:Nat) (A:Option Addr) (l:List Int):Prop:=∀ W':World,(∀ k,k < W.heap.size→k≠g→k≠g2→W'.heap[k]? = W.heap[k]?)→Kd.C (Kd.int .u32) W' A l.length l
theorem VR2.v {W:World} {g g2:Nat} {A:Option Addr} {l:List Int} (h:VR2 W g g2 A l):VR W g A l:=fun W' hk=>h W' (fun k h1 h2 _=>hk k h1 h2)
theorem VR2.grown {W W':World} {g g2 g3:Nat} {A:Option Addr} {l:List Int} (h:VR2 W g g2 A l) (hg:W.grownBy W' (some g3)) (h3:g3=g∨g3=g2):VR2 W' g g2 A l :=
 fun W2 hk=>h W2 (fun k h1 h2 h4=>(hk k (Nat.lt_of_lt_of_le h1 hg.size) h2 h4).trans (hg.block k h1 (by rcases h3 with rfl | rfl<;>simpa)))
theorem VR2_of_R {W W2:World} {base g g2 n c:Nat} {ok':Nat→Prop} {A:Option Addr} {l:List Int} (h:Kd.R (Kd.int .u32) 63 W base ok' (.slice A n c) l) (hk:∀ k,k < W.heap.size→W2.heap[k]? = W.heap[k]?) (hs:W.heap.size≤W2.heap.size) (hg:W.heap.size≤g) (hg2:W.heap.size≤g2):VR2 W2 g g2 A l:=by
 intro W' hk'
 exact(Kd.R_reads' (Kd.R_step h (w1:=W') (fun k _ hlt=>(hk' k (by omega) (by omega) (by omega)).trans (hk k hlt)))).2.2
theorem R_slice_n {W:World} {base n:Nat} {ok':Nat→Prop} {v:Value} {l:List Int} (h:Kd.R (Kd.int .u32) 63 W base ok' v l) (hn:l.length=n):∃ A c,v=.slice A n c:=by
 subst hn
 exact Kd.R_slice h
theorem R_slice1_n {W:World} {base n:Nat} {ok':Nat→Prop} {v:Value} {l:List Int} (h:Kd.R (Kd.int .u32) 63 W base ok' v l) (hn:l.length=n) (hp:0 < n):∃ (A:Addr) (c:Nat),v=.slice (some A) n c:=by
 subst hn
 exact Kd.R_slice1 h hp
theorem R_form_n {W:World} {base n:Nat} {ok':Nat→Prop} {v:Value} {l:List Int} (h:Kd.R (Kd.int .u32) 63 W base ok' v l) (hn:l.length=n) (hp:0 < n):∃ g cap,v=.slice (some ⟨g,0,none⟩) n cap∧base≤g∧g < W.heap.size∧n≤cap:=by
 subst hn
 obtain⟨g,cap,rfl,h1,h2,_⟩:=Kd.R_form h hp
 exact⟨g,cap,rfl,h1,h2,(Kd.R_reads' h).2.1⟩
theorem zct {W:World} {base n c:Nat} {ok':Nat→Prop} {A:Option Addr} {l:List Int} (h:Kd.R (Kd.int .u32) 63 W base ok' (.slice A n c) l):Kd.C (Kd.int .u32) W A n l∧n≤c:=by
 obtain⟨rfl,h1,h2⟩:=Kd.R_reads' h
 exact⟨h2,h1⟩
structure DI (w:World) (gu cu gq cq:Nat) (Av:Option Addr) (xv:List Int) (L Q V X J:Nat) (wr:World):Prop where
 le:J≤Q
 b:Below w.heap.size w wr
 v:VR2 wr gu gq Av xv
 r:∃ us qs,us.length=L∧ok B32 us∧UR wr gu cu us∧qs.length=Q∧ok B32 qs∧UR wr gq cq qs∧val B32 us < V*B32 ^ J∧X=val B32 qs*V+val B32 us∧∀ i,i < J→lmb qs i=0
theorem part_bound {us:List Int} {j V:Nat} (k:Nat) (hlt:val B32 us < V*B32 ^ (j+1)):part us j k < B32*V:=by
 have e1:=val_part us j k
 have h1:B32 ^ j*part us j k≤B32 ^ j*(part us j k+B32 ^ k*val B32 (us.drop (j+k))):=Nat.mul_le_mul_left _ (Nat.le_add_right _ _)
 have h2:V*B32 ^ (j+1)=B32 ^ j*(B32*V):=by rw [Nat.pow_succ]; simp only [Nat.mul_comm,Nat.mul_left_comm,Nat.mul_assoc]
 have h3:B32 ^ j*part us j k < B32 ^ j*(B32*V):=by omega
 exact Nat.lt_of_mul_lt_mul_left h3
theorem top_le {us xv:List Int} {j m V:Nat} (hu:ok B32 us) (hv:ok B32 xv) (hl:xv.length=m+2) (hV:val B32 xv=V) (hP:part us j (m+3) < B32*V):lmb us (j+(m+2))≤lmb xv (m+1):=by
 have e:=val_top (n:=m+1) hl
 have h1:=zcw hv (m+1)
 have h2:=zbI hu (j+(m+2))
 have h3:=zbI hv (m+1)
 have e2:part us j (m+3)=part us j (m+2)+(lmb us (j+(m+2))).toNat*B32 ^ (m+2):=rfl
 rw [hV] at e
 have h4:B32*V < B32*(((lmb xv (m+1)).toNat+1)*B32 ^ (m+1)):=by
  refine Nat.mul_lt_mul_of_pos_left ?_ B32_pos
  rw [Nat.add_mul,Nat.one_mul]
  omega
 have h5:B32*(((lmb xv (m+1)).toNat+1)*B32 ^ (m+1))=((lmb xv (m+1)).toNat+1)*B32 ^ (m+2):=by
  rw [Nat.pow_succ B32 (m+1)]; simp only [Nat.mul_comm,Nat.mul_left_comm,Nat.mul_assoc]
 have h6:(lmb us (j+(m+2))).toNat*B32 ^ (m+2) < ((lmb xv (m+1)).toNat+1)*B32 ^ (m+2):=by omega
 have h7:=Nat.lt_of_mul_lt_mul_right h6
 omega
theorem guess_spec {us xv:List Int} {j m V:Nat} {g:Int} (hu:ok B32 us) (hv:ok B32 xv) (hl:xv.length=m+2) (hV:val B32 xv=V) (hvt:2147483648≤lmb xv (m+1)) (hP:part us j (m+3) < B32*V)
  (h:QR (lmb us (j+(m+2))) (lmb us (j+(m+1))) (lmb us (j+m)) (lmb xv (m+1)) (lmb xv m) g):g.toNat=part us j (m+3) / V∨g.toNat=part us j (m+3) / V+1:=by
 have hV0:0 < V:=by
  rcases Nat.eq_zero_or_pos V with h0 | h0
  ·
   subst h0; omega
  ·
   exact h0
 exact guess_two (zbI hu _).1 (zbI hu _).1 (zbI hu _).1 (by omega) (zbI hv _).1 h (part_top3 us j m) (part_lt hu j m) (hV ▸ val_top2 hl) (zcw hv m) ((Nat.div_lt_iff_lt_mul hV0).mpr hP)
theorem round_end {us us' qs:List Int} {j n V X:Nat} {x:Int} (hou:ok B32 us) (hl:us'.length=us.length) (hsame:∀ i,¬ (j≤i∧i < j+(n+1))→lmb us' i=lmb us i) (hV:0 < V) (hVn:V < B32 ^ n)
  (hlt:val B32 us < V*B32 ^ (j+1)) (hP:part us' j (n+1)=part us j (n+1) % V) (hx:x.toNat=part us j (n+1) / V) (hX:X=val B32 qs*V+val B32 us) (hj:j < qs.length) (hz:∀ i,i < j+1→lmb qs i=0) :
  val B32 us' < V*B32 ^ j∧X=val B32 (qs.set j x)*V+val B32 us'∧∀ i,i < j→lmb (qs.set j x) i=0:=by
 obtain⟨h1,h2,h3⟩:=div_step hou hl hsame hV hVn hlt hP
 refine⟨h1,?_,fun i hi=>by rw [zcl _ _ _ _ hj,if_neg (by omega)]; exact hz i (by omega)⟩
 rw [val_set qs j x hj (hz j (by omega)),hx,hX,h2,Nat.add_mul]
 omega
theorem div_long (A0:Option Addr) (c0:Nat) (l0:List Int) (A1:Option Addr) (c1:Nat) (l1:List Int) (w:World) (hr0:Kd.C (Kd.int .u32) w A0 l0.length l0) (hc0:l0.length≤c0) (hr1:Kd.C (Kd.int .u32) w A1 l1.length l1) (hc1:l1.length≤c1) (h0:okD l0) (h1:okD l1)
  (hz:val B32 l1≠0) (hle:val B32 l1≤val B32 l0) (m:Nat) (hm:(dg B32 (val B32 l1)).length=m+2):Calls Try.prog 98 #[.slice A0 l0.length c0,.slice A1 l1.length c1] w (DivPost w (dg B32 (val B32 l0 / val B32 l1)) (dg B32 (val B32 l0 % val B32 l1)) 0):=by
 have HT0:=Aside0.mk (nat_Trim.calls A0 c0 l0 (dg B32 (val B32 l0)) w hr0 hc0 (if_pos h0.okL))
 have HT1:=Aside0.mk (fun (W:World) (hb:Below w.heap.size w W)=>nat_Trim.calls A1 c1 l1 (dg B32 (val B32 l1)) W (Kd.C_below hr1 hb) hc1 (if_pos h1.okL))
 have hb1:=(dg_okD h1 rfl).1
 have ha1:=(dg_okD h0 rfl).1
 have va:val B32 (dg B32 (val B32 l0))=val B32 l0:=zbT zbB _
 have vb:val B32 (dg B32 (val B32 l1))=val B32 l1:=zbT zbB _
 obtain⟨s,hs,hsx,hV1,hV2⟩:=div_norm (Nat.pos_of_ne_zero hz) hm
 obtain⟨hvl,hvt⟩:=norm_top hV1 hV2
 have hbB:=pow_le_of_dg zbB (Nat.pos_of_ne_zero hz)
 rw [hm] at hbB
 have haB:=lt_dg zbB (n:=val B32 l0)
 have hlen:=zbR zbB hle
 rw [hm] at hlen
 generalize val B32 l1=b at *
 generalize val B32 l0=a at *
 generalize dg B32 b=xb at *
 generalize dg B32 a=xa at *
 obtain⟨L,hL⟩:∃ L,L=xa.length+1:=⟨_,rfl⟩
 obtain⟨Q,hQ⟩:∃ Q,xa.length=Q+m+1:=⟨xa.length-(m+1),by omega⟩
 have hp:0 < 2 ^ s:=Nat.pow_pos (by omega)
 have hX:a*2 ^ s < b*2 ^ s*B32 ^ Q:=by
  have h1:B32 ^ (m+1)*B32 ^ Q≤b*B32 ^ Q:=Nat.mul_le_mul_right _ hbB
  rw [← Nat.pow_add,show m+1+Q=xa.length by omega] at h1
  have h2:a*2 ^ s < b*B32 ^ Q*2 ^ s:=Nat.mul_lt_mul_of_pos_right (by omega) hp
  have h3:b*B32 ^ Q*2 ^ s=b*2 ^ s*B32 ^ Q:=by simp only [Nat.mul_comm,Nat.mul_left_comm,Nat.mul_assoc]
  omega
 have hXl:(dg B32 (a*2 ^ s)).length≤L:=by
  refine zbS zbB ?_
  have h2:a*2 ^ s < B32 ^ xa.length*2 ^ s:=Nat.mul_lt_mul_of_pos_right haB hp
  have h3:2 ^ s≤2 ^ 32:=Nat.pow_le_pow_right (by omega) (by omega)
  have h4:B32 ^ xa.length*2 ^ s≤B32 ^ xa.length*B32:=Nat.mul_le_mul_left _ h3
  rw [hL,Nat.pow_succ]
  omega
 have hdiv:a*2 ^ s / (b*2 ^ s)=a / b:=Nat.mul_div_mul_right a b hp
 have hmod:a*2 ^ s % (b*2 ^ s)=a % b*2 ^ s:=Nat.mul_mod_mul_right (2 ^ s) a b
 obtain⟨c,hcc,hc0'⟩:∃ c,cmpN a b=c∧0≤c:=⟨_,rfl,by unfold cmpN; split; omega; split<;>omega⟩
 have HC:=Aside0.mk (fun (A0:Option Addr) (c0:Nat) (A1:Option Addr) (c1:Nat) (W:World) x y z u=>nat_Cmp.calls A0 c0 xa A1 c1 xb c W x y z u (by rw [nat_Cmp.f,if_pos ⟨ha1.okL,hb1.okL⟩,va,vb,hcc]))
 have HSb:=Aside0.mk (fun (A0:Option Addr) (c0:Nat) (W:World) x y=>nat_Shl.calls A0 c0 xb (s:Int) (dg B32 (b*2 ^ s)) W x y (by rw [nat_Shl.f,if_pos ⟨hb1.okL,by omega,by omega⟩,vb,Int.toNat_natCast]))
 have HSa:=Aside0.mk (fun (A0:Option Addr) (c0:Nat) (W:World) x y=>nat_Shl.calls A0 c0 xa (s:Int) (dg B32 (a*2 ^ s)) W x y (by rw [nat_Shl.f,if_pos ⟨ha1.okL,by omega,by omega⟩,va,Int.toNat_natCast]))
 have hxt:=zbI hb1.1 (m+1)
 have hsx:=Aside0.mk hsx
 have HV:=Aside0.mk (And.intro hV2 (And.intro hvt (And.intro hX (And.intro hdiv hmod))))
 have HOv:=Aside0.mk (dg_ok zbB (b*2 ^ s))
 have HVv:=Aside0.mk (zbT zbB (b*2 ^ s))
 have HOu:=Aside0.mk (pad (dg_ok zbB (a*2 ^ s)) hXl)
 rw [zbT zbB] at HOu
 generalize dg B32 (b*2 ^ s)=xv at *
 generalize dg B32 (a*2 ^ s)=lu at *
 obtain⟨n,hn⟩:∃ n,n=m+2:=⟨_,rfl⟩
 obtain⟨la,hla⟩:∃ la,la=Q+m+1:=⟨_,rfl⟩
 have hl0:(la:Int)≤549755813888:=by have:=ha1.2; omega
 have hln:(n:Int)≤(la:Int):=by omega
 have hn2:2≤(n:Int):=by omega
 have hQl:(Q:Int)≤549755813888:=by omega
 rw [← hn] at hm
 rw [← hla] at hQ
 obtain⟨x,hx⟩:∃ x,x=lmb xb (m+1):=⟨_,rfl⟩
 have Hx:=Aside0.mk hx
 rw [← hx] at hxt hsx
 rw [hm] at HC HSb
 rw [hQ] at HC HSa
 have Hm:=Aside0.mk hm
 have HQ:=Aside0.mk hQ
 have HL:=Aside0.mk hL
 have HXl:=Aside0.mk hXl
 have Hvl:=Aside0.mk hvl
 have Hn:=Aside0.mk hn
 have Hla:=Aside0.mk hla
 have hsI:0≤(s:Int)∧(s:Int) < 32:=by omega
 clear hx h0 h1 hr0 hr1 hz hle va vb ha1 hb1 hcc hV1 hV2 hbB haB hX hdiv hmod hp hvt hm hQ hL hlen hXl hvl hn hla
 go_enter Try.func98,Try.ntmps98
 go_wp2_with fail
 refine HT0.out.mono ?_
 rintro e w1 ⟨va,rfl,hR,hB⟩
 obtain⟨Aa,ca,rfl⟩:=R_slice_n hR HQ.out
 have HB:=Aside0.mk hB
 have HRa:=Aside0.mk hR
 clear hR hB
 go_wp2_with fail
 refine(HT1.out w1 HB.out).mono ?_
 rintro e w2 ⟨vb,rfl,hR,hB⟩
 obtain⟨Ab,cb,rfl⟩:=R_slice1_n hR Hm.out (by omega)
 have HB2:=Aside0.mk (zbp HB.out hB)
 have HRa2:=Aside0.mk (Kd.R_below HRa.out hB)
 have HRb:=Aside0.mk hR
 clear hR hB HB HRa
 go_wp2_with fail
 refine(HC.out Aa ca (some Ab) cb w2 (zct HRa2.out).1 (zct HRa2.out).2 (zct HRb.out).1 (zct HRb.out).2).mono ?_
 rintro e w3 ⟨rfl,hB⟩
 have HB3:=Aside0.mk (zbp HB2.out hB)
 have HRa3:=Aside0.mk (Kd.R_below HRa2.out hB)
 have HRb3:=Aside0.mk (Kd.R_below HRb.out hB)
 obtain⟨adb,e,hx⟩:=Kd.at_int (zct HRb3.out).1 ((n-1:Nat):Int) (by omega) (by omega)
 cases e
 rw [rd_lmb,Int.toNat_natCast,show n-1=m+1 by have:=Hn.out; omega,← Hx.out,show m+1=n-1 by have:=Hn.out; omega] at hx
 clear hB HRa2 HRb HB2
 go_wp2_with fail
 refine(Try.bits_LeadingZeros32 x w3 hxt.1 (by omega)).mono ?_
 rintro e w4 ⟨rfl,rfl⟩
 rw [hsx.out]
 go_wp2_with fail
 refine(HSb.out (some Ab) cb _ (zct HRb3.out).1 (zct HRb3.out).2).mono ?_
 rintro e w4 ⟨vv,rfl,hR,hB⟩
 obtain⟨Av,cv,rfl⟩:=R_slice1_n hR (Hvl.out.trans Hn.out.symm) (by omega)
 have HCV:=Aside0.mk (zct hR).2
 have HB4:=Aside0.mk (zbp HB3.out hB)
 have HRa4:=Aside0.mk (Kd.R_below HRa3.out hB)
 have HB4s:=Aside0.mk HB4.out.size
 have HRv:=Aside0.mk hR
 clear hR hB hx HRa3 HRb3
 go_wp2_with ((with_reducible refine zbG (N:=62) rfl ?_); refine Kd.R_make (Kd.int .u32) _ 63 rfl (N:=62) rfl 22 _ _ rfl ((la:Int)+1) rfl rfl Try.underlying22 (.int .u32 0) 4 infoU32 rfl (by decide) (by omega) 0 (ok:=fun _=>True) (okp:=fun _=>True) rfl (fun _ hk=>hk) trivial (by omega) (by omega) (Below.refl _ _) (Nat.le_refl _) ?_; intro vu w5 hR hB hG hN; clear hG hN)
 rw [show ((la:Int)+1).toNat=L by have:=HL.out; have:=HQ.out; omega] at hR
 obtain⟨gu,cu,rfl,hgu,hgu2,hcu⟩:=R_form_n hR (List.length_replicate ..) (by have:=HL.out; omega)
 have HGU:=Aside0.mk (And.intro hgu hgu2)
 have HB5:=Aside0.mk (zbp HB4.out hB)
 have HBv5:=Aside0.mk hB
 have HRa5:=Aside0.mk (Kd.R_below HRa4.out hB)
 have HRu:=Aside0.mk hR
 have hcu2:(la:Int)+1≤cu:=by have:=HL.out; have:=HQ.out; omega
 clear hR hB HRa4 hgu hgu2 hcu
 go_wp2_with fail
 refine(HSa.out Aa ca w5 (zct HRa5.out).1 (zct HRa5.out).2).mono ?_
 rintro e w6 ⟨vl,rfl,hR,hB⟩
 obtain⟨Al,cl,rfl⟩:=Kd.R_slice hR
 have HB6:=Aside0.mk (zbp HB5.out hB)
 have HBv6:=Aside0.mk (zbp HBv5.out hB)
 have HRu6:=Aside0.mk (Kd.R_below HRu.out hB)
 have HCl:=Aside0.mk (Kd.R_reads' hR).2.2
 clear hR hB HRa5 HRu HB5 HBv5
 go_wp2_with (first | ((with_reducible refine zbV (b:=.copy) rfl ?_); go_must (refine Kd.R_copy (0:Int) w4.heap.size rfl (.tmp 63) (.tmp 66) 22 23 63 rfl Try.underlying22 (by kernel_rfl) _ (List.replicate L 0) lu Al lu.length cl (fun _=>True) rfl rfl HRu6.out HCl.out HBv6.out HBv6.out.size ?_); intro w7 hR hB hG; rw [List.length_replicate] at hR; have HRu7:=Aside0.mk (show Kd.R (Kd.int .u32) 63 w7 w4.heap.size (fun _=>True) (.slice (some ⟨gu,0,none⟩) L cu) _ from hR); have HBv7:=Aside0.mk hB; have HG7:=Aside0.mk (show w6.grownBy w7 (some gu) from hG); clear hR hB hG) | ((with_reducible refine zbG (N:=74) rfl ?_); go_must (refine Kd.R_make (Kd.int .u32) _ 63 rfl (N:=74) rfl 23 _ _ rfl ((la:Int)-(n:Int)+1) rfl rfl Try.underlying23 (.int .u32 0) 4 infoU32 rfl (by decide) (by omega) 0 (ok:=fun _=>True) (okp:=fun _=>True) rfl (fun _ hk=>hk) trivial (by omega) (by omega) (Below.refl _ _) (Nat.le_refl _) ?_); intro vq w8 hR hB hG hN; clear hG hN; rw [show ((la:Int)-(n:Int)+1).toNat=Q by have:=Hla.out; have:=Hn.out; omega] at hR; obtain⟨gq,cq,rfl,hgq,hgq2,hcq⟩:=R_form_n hR (List.length_replicate ..) (by have:=Hla.out; have:=Hn.out; omega); have HRq8:=Aside0.mk hR; have HB8:=Aside0.mk hB; have HGQ:=Aside0.mk (And.intro hgq (And.intro hgq2 hcq)); clear hR hB hgq hgq2 hcq))
 have HB7:=Aside0.mk (show Below w.heap.size w w7 from HB4.out.trans ⟨HBv7.out.os,HBv7.out.tape,HBv7.out.output,HBv7.out.size,fun k hk=>HBv7.out.block k (by have:=HB4.out.size; omega)⟩)
 have HB7s:=Aside0.mk HBv7.out.size
 clear HB6 HBv6 HRu6 HCl
 have hne:gu≠gq:=by
  have h1:=HGU.out.2
  have h2:=HG7.out.size
  have h3:=HBv7.out.size
  have h4:=own_lt (Kd.own_of_R HRu7.out) gu (by simp [Value.ownBlock])
  have hgq:=HGQ.out.1
  omega
 have HNE:=Aside0.mk hne
 have hcq2:(Q:Int)≤cq:=by have:=HGQ.out.2.2; omega
 have HI0:Aside0 (DI w gu cu gq cq (some Av) xv L Q (b*2 ^ s) (a*2 ^ s) Q w8):=by
  refine⟨⟨Nat.le_refl _,zbp HB7.out HB8.out,?_,_,List.replicate Q 0,HOu.out.1,HOu.out.2.1,(UR_of_R HRu7.out).below HB8.out,List.length_replicate ..,ok_zeros _,UR_of_R HRq8.out,?_,?_,fun i _=>lmb_zeros _ _⟩⟩
  ·
   refine VR2_of_R HRv.out (fun k hk=>(HB8.out.block k (by have:=HBv7.out.size; omega)).trans (HBv7.out.block k hk)) (Nat.le_trans HBv7.out.size HB8.out.size) HGU.out.1 (Nat.le_trans HBv7.out.size HGQ.out.1)
  ·
   rw [HOu.out.2.2]; exact HV.out.2.2.1
  ·
   rw [val_zeros,Nat.zero_mul,Nat.zero_add,HOu.out.2.2]
 clear HRq8 HB8 HRu7 HBv7 HB7 HRv HG7 hne HB4
 have hgu0:gu≠gq:=HNE.out
 clear hgu0
 go_loopw [14] (fun iv wr=>∃ J:Nat,iv=.int .i64 ((J:Int)-1)∧Aside0 (DI w gu cu gq cq (some Av) xv L Q (b*2 ^ s) (a*2 ^ s) J wr)) (fun iv _=>(intOf iv+1).toNat)
 case atStart=>exact⟨Q,rfl,HI0⟩
 case round =>
  obtain⟨J,rfl,HI⟩:=hrel
  rcases Nat.eq_zero_or_pos J with hJ | hJ
  ·
   subst hJ
   obtain⟨us,qs,hul,huo,hU,hql,hqo,hQr,hlt,hX,hz⟩:=HI.out.r
   rw [Nat.pow_zero,Nat.mul_one] at hlt
   have hL2:L=la+1:=by have:=HL.out; have:=HQ.out; omega
   have hq:val B32 qs=a / b:=by
    rw [← HV.out.2.2.2.1,hX,Nat.add_comm,Nat.add_mul_div_right _ _ (by omega),Nat.div_eq_of_lt hlt,Nat.zero_add]
   have hr:val B32 us=a % b*2 ^ s:=by
    rw [← HV.out.2.2.2.2,hX,Nat.add_comm,Nat.add_mul_mod_self_right,Nat.mod_eq_of_lt hlt]
   have hr2:a % b*2 ^ s / 2 ^ s=a % b:=Nat.mul_div_cancel _ (Nat.pow_pos (by omega))
   have huk:okL us:=⟨huo,by omega⟩
   have HTq:=nat_Trim.calls (some ⟨gq,0,none⟩) cq qs (dg B32 (a / b)) wr hQr.c.2 hQr.c.1 (by rw [nat_Trim.f,if_pos ⟨hqo,by omega⟩,hq])
   rw [hql] at HTq
   have HTq:=Aside0.mk HTq
   have HTu:=fun (W:World) (h:Below wr.heap.size wr W)=>nat_Trim.calls (some ⟨gu,0,none⟩) cu us (dg B32 (a % b*2 ^ s)) W (hU.below h).c.2 (hU.below h).c.1 (by rw [nat_Trim.f,if_pos huk,hr])
   rw [hul] at HTu
   have HTu:=Aside0.mk HTu
   have hok2:okL (dg B32 (a % b*2 ^ s)):=by
    refine⟨dg_ok zbB _,?_⟩
    rw [← hr]
    exact Nat.le_trans (zbS zbB (val_lt huo)) huk.2
   have HSr:=Aside0.mk (fun (A:Option Addr) (c:Nat) (W:World) x y=>nat_Shr.calls A c (dg B32 (a % b*2 ^ s)) (s:Int) (dg B32 (a % b)) W x y (by rw [nat_Shr.f,if_pos ⟨hok2,by omega,by omega⟩,zbT zbB,Int.toNat_natCast,hr2]))
   have HBr:=Aside0.mk HI.out.b
   clear hul huo hU hql hqo hQr hlt hX hz hL2 hq hr hr2 huk hok2 HI
   go_wp2_with fail
   refine HTq.out.mono ?_
   rintro e w9 ⟨v1,rfl,hR,hB⟩
   obtain⟨Aq,ccq,rfl⟩:=Kd.R_slice hR
   have HB9:=Aside0.mk hB
   have HR9:=Aside0.mk hR
   clear hR hB
   go_wp2_with fail
   refine(HTu.out w9 HB9.out).mono ?_
   rintro e w10 ⟨v2,rfl,hR,hB⟩
   obtain⟨Ar,cr,rfl⟩:=Kd.R_slice hR
   have HB10:=Aside0.mk (zbp HB9.out hB)
   have HR10:=Aside0.mk (Kd.R_below HR9.out hB)
   have HRr:=Aside0.mk hR
   clear hR hB
   go_wp2_with fail
   refine(HSr.out Ar cr w10 (Kd.R_reads' HRr.out).2.2 (Kd.R_reads' HRr.out).2.1).mono ?_
   rintro e w11 ⟨v3,rfl,hR,hB⟩
   obtain⟨Af,cf,rfl⟩:=Kd.R_slice hR
   have HB11:=Aside0.mk (zbp HBr.out (zbp HB10.out hB))
   have HRR:=Aside0.mk (two_apart (Kd.R_lower HR10.out HBr.out.size) hR hB (zbp HBr.out HB10.out).size)
   clear hR hB
   go_wp2
   go_ret3
   exact⟨_,_,rfl,HRR.out.1,HRR.out.2,HB11.out⟩
  ·
   obtain⟨j,rfl⟩:∃ j,J=j+1:=⟨J-1,by omega⟩
   rw [show ((j+1:Nat):Int)-1=(j:Int) by omega]
   have hjn:(j:Int)+(n:Int)≤(la:Int):=by have:=HI.out.le; have:=Hla.out; have:=Hn.out; omega
   have hjq:(j:Int) < (Q:Int):=by have:=HI.out.le; omega
   clear hJ
   obtain⟨us,qs,hul,huo,hU,hql,hqo,hQr,hlt,hX,hz⟩:=HI.out.r
   have hxl:xv.length=m+2:=by have:=Hvl.out; omega
   have hPb:=part_bound (m+3) hlt
   have hVr:=HI.out.v
   have HVR:=Aside0.mk hVr
   have HUR:=Aside0.mk hU
   have HQR:=Aside0.mk hQr
   have HUO:=Aside0.mk huo
   have HS:=Aside0.mk (And.intro hlt (And.intro hX (And.intro hz (And.intro hPb (And.intro hul (And.intro hql hqo))))))
   have hCv:Kd.C (Kd.int .u32) wr (some Av) n xv:=by
    have:=hVr.v.c
    rwa [hxl,← Hn.out] at this
   have hnm:=Hn.out
   have hlL:L=la+1:=by have:=HL.out; have:=HQ.out; omega
   have HG:=Aside0.mk (guess_calls gu j n (cu-j) (some Av) cv (lmb us (j+n)) (lmb us (j+(n-1))) (lmb us (j+(n-2))) (lmb xv (n-1)) (lmb xv (n-2)) wr (by omega) (by omega) (by omega)
    (hU.at_ _ (by omega)) (hU.at_ _ (by omega)) (hU.at_ _ (by omega)) xv (by omega) hCv rfl rfl (by omega) (by have:=hCv; exact(Nat.le_trans (Nat.le_of_eq (by rw [hnm])) (by have:=HCV.out; omega)))
    (zbI huo _) (zbI huo _) (zbI huo _) ⟨by have:=HV.out.2.1; rw [show n-1=m+1 by omega]; exact this,(zbI HOv.out _).2⟩ (zbI HOv.out _)
    (by rw [show j+n=j+(m+2) by omega,show n-1=m+1 by omega]; exact top_le huo HOv.out hxl HVv.out hPb))
   clear hU huo hQr hlt hX hz hPb hul hql hqo hVr hCv hnm hlL hxl
   go_wp2_with fail
   rw [show j+n+1-j=n+1 by omega]
   refine HG.out.mono ?_
   rintro e w9 ⟨g,rfl,⟨mm,rfl⟩,hQG⟩
   have hg0:=hQG.q0
   have HGT:=Aside0.mk (guess_spec (us:=us) (xv:=xv) (j:=j) (m:=m) (g:=g) HUO.out HOv.out (by have:=Hvl.out; omega) HVv.out HV.out.2.1 HS.out.2.2.2.1 (by
    have h:=hQG
    rw [show j+n=j+(m+2) by have:=Hn.out; omega,show n-1=m+1 by have:=Hn.out; omega,show n-2=m by have:=Hn.out; omega] at h
    exact h))
   clear hQG HG
   have HTK:=Aside0.mk (take_calls gu cu j (cu-j) us (some Av) cv xv g (wr.drewN mm) HUR.out HVR.out.v (by have:=HCV.out; have:=Hvl.out; have:=Hn.out; omega) (by have:=HS.out.2.2.2.2.1; have:=HL.out; have:=HQ.out; have:=Hvl.out; have:=Hn.out; omega) (by have:=HS.out.2.2.2.2.1; have:=HL.out; have:=HQ.out; omega) HUO.out HOv.out hg0 (by have:=Hvl.out; have:=Hn.out; omega))
   rw [Hvl.out,← Hn.out] at HTK
   go_wp2_with fail
   refine HTK.out.mono ?_
   rintro e w10 ⟨us1,t,rfl,hl1,ho1,hU1,hG1,hs1,he1⟩
   have hX1:xv.length+1=n+1:=by have:=Hvl.out; have:=Hn.out; omega
   rw [hX1] at he1 hs1
   have hV0:0 < val B32 xv:=by
    rcases Nat.eq_zero_or_pos (val B32 xv) with h0 | h0
    ·
     have:=HS.out.2.2.2.1
     rw [← HVv.out,h0] at this
     omega
    ·
     exact h0
   have hVn:val B32 xv < B32 ^ n:=by rw [HVv.out,Hn.out]; exact HV.out.1
   have hVX:val B32 xv < B32 ^ (n+1):=Nat.lt_of_lt_of_le hVn (Nat.pow_le_pow_right B32_pos (by omega))
   have hgt:g.toNat=part us j (n+1) / val B32 xv∨g.toNat=part us j (n+1) / val B32 xv+1:=by
    have:=HGT.out
    rwa [← HVv.out,show m+3=n+1 by have:=Hn.out; omega] at this
   have hTK:=taken rfl hV0 hVX (part_lt ho1 j (n+1)) hgt he1
   have hQ1:UR w10 gq cq qs:=UR.grown (W:=wr.drewN mm) HQR.out hG1 HNE.out.symm
   have hV1:VR2 w10 gu gq (some Av) xv:=VR2.grown (W:=wr.drewN mm) HVR.out hG1 (.inl rfl)
   have hB1:Below w.heap.size w w10:=⟨hG1.os.trans HI.out.b.os,hG1.tape.trans HI.out.b.tape,hG1.output.trans HI.out.b.output,Nat.le_trans HI.out.b.size hG1.size,fun k hk=>(hG1.block k (Nat.lt_of_lt_of_le hk HI.out.b.size) (by have:=HGU.out.1; have:=HB4s.out; intro e; injection e with e; omega)).trans (HI.out.b.block k hk)⟩
   cases t with
   | false =>
    have HEND:=Aside0.mk (round_end (x:=g) (V:=val B32 xv) HUO.out hl1 (n:=n) hs1 hV0 hVn (by rw [HVv.out]; exact HS.out.1) (hTK.1 rfl).2 (hTK.1 rfl).1 (X:=a*2 ^ s) (by rw [HVv.out]; exact HS.out.2.1) (by have:=HS.out.2.2.2.2.2.1; omega) HS.out.2.2.1)
    have hqc:=hQ1.at_ j (by have:=HS.out.2.2.2.2.2.1; omega)
    have HM:=Aside0.mk (And.intro hl1 (And.intro ho1 (And.intro hU1 (And.intro hQ1 (And.intro hV1 hB1)))))
    clear hl1 ho1 hU1 hG1 hs1 he1 hX1 hV0 hVn hVX hgt hTK hQ1 hV1 hB1 HTK
    go_wp2
    go_roundw
    case rel =>
     refine⟨j,rfl,⟨⟨by have:=HI.out.le; omega,HM.out.2.2.2.2.2.setCell (by show w.heap.size≤gq; have:=HGQ.out.1; have:=HGU.out.1; have:=HB4s.out; have:=HB7s.out; omega) _,HM.out.2.2.2.2.1.grown (grown_set _ _ _ _) (.inr rfl),us1,qs.set j g,by rw [HM.out.1]; exact HS.out.2.2.2.2.1,HM.out.2.1,HM.out.2.2.1.grown (grown_set _ _ _ _) HNE.out,by rw [List.length_set]; exact HS.out.2.2.2.2.2.1,ok_set HS.out.2.2.2.2.2.2 _ hg0,HM.out.2.2.2.1.set_ _ _,?_,?_,HEND.out.2.2⟩⟩⟩
     ·
      rw [← HVv.out]; exact HEND.out.1
     ·
      rw [← HVv.out]; exact HEND.out.2.1
    case measure=>first | (simp [intOf]; done) | (simp [intOf]; omega)
   | true =>
    have hg1:g.toNat=part us j (n+1) / val B32 xv+1:=(hTK.2 rfl).1
    have hg2:1≤g:=by
     generalize part us j (n+1) / val B32 xv=qq at hg1
     omega
    have HBK:=Aside0.mk (back_calls gu cu j (cu-j) us1 (some Av) cv xv w10 hU1 hV1.v (by have:=HCV.out; have:=Hvl.out; have:=Hn.out; omega) (by rw [hl1]; have:=HS.out.2.2.2.2.1; have:=HL.out; have:=HQ.out; have:=Hvl.out; have:=Hn.out; omega) (by rw [hl1]; have:=HS.out.2.2.2.2.1; have:=HL.out; have:=HQ.out; omega) ho1 HOv.out (by have:=Hvl.out; have:=Hn.out; omega))
    rw [Hvl.out,← Hn.out] at HBK
    have HTK2:=Aside0.mk (And.intro hl1 (And.intro hs1 (And.intro hV0 (And.intro hVn (And.intro hTK (And.intro hQ1 (And.intro hV1 hB1)))))))
    clear hl1 ho1 hU1 hG1 hs1 he1 hV0 hVn hVX hgt hTK hQ1 hV1 hB1 HTK hg1
    go_wp2_with fail
    refine HBK.out.mono ?_
    rintro e w11 ⟨us2,tt,rfl,hl2,ho2,hU2,hG2,hs2,he2⟩
    rw [hX1] at he2 hs2
    have hPP:=(HTK2.out.2.2.2.2.1.2 trivial).2 _ tt he2 (part_lt ho2 j (n+1))
    have hgm:(g-1).toNat=part us j (n+1) / val B32 xv:=by
     have:=(HTK2.out.2.2.2.2.1.2 trivial).1
     generalize part us j (n+1) / val B32 xv=qq at this ⊢
     omega
    have hg3:0≤g-1∧g-1 < 4294967296:=by omega
    have HEND:=Aside0.mk (round_end (x:=g-1) (V:=val B32 xv) HUO.out (hl2.trans HTK2.out.1) (n:=n) (fun i hi=>(hs2 i hi).trans (HTK2.out.2.1 i hi)) HTK2.out.2.2.1 HTK2.out.2.2.2.1 (by rw [HVv.out]; exact HS.out.1) hPP hgm (X:=a*2 ^ s) (by rw [HVv.out]; exact HS.out.2.1) (by have:=HS.out.2.2.2.2.2.1; omega) HS.out.2.2.1)
    have hQ2:UR w11 gq cq qs:=HTK2.out.2.2.2.2.2.1.grown hG2 HNE.out.symm
    have hV2:VR2 w11 gu gq (some Av) xv:=HTK2.out.2.2.2.2.2.2.1.grown hG2 (.inl rfl)
    have hB1:=HTK2.out.2.2.2.2.2.2.2
    have hB2:Below w.heap.size w w11:=⟨hG2.os.trans hB1.os,hG2.tape.trans hB1.tape,hG2.output.trans hB1.output,Nat.le_trans hB1.size hG2.size,fun k hk=>(hG2.block k (Nat.lt_of_lt_of_le hk hB1.size) (by have:=HGU.out.1; have:=HB4s.out; intro e; injection e with e; omega)).trans (hB1.block k hk)⟩
    have hqc:=hQ2.at_ j (by have:=HS.out.2.2.2.2.2.1; omega)
    have HM:=Aside0.mk (And.intro (hl2.trans HTK2.out.1) (And.intro ho2 (And.intro hU2 (And.intro hQ2 (And.intro hV2 hB2)))))
    clear hl2 ho2 hU2 hG2 hs2 he2 hPP hgm hQ2 hV2 hB1 hB2 HTK2 HBK hX1
    go_wp2
    go_roundw
    case rel =>
     refine⟨j,rfl,⟨⟨by have:=HI.out.le; omega,HM.out.2.2.2.2.2.setCell (by show w.heap.size≤gq; have:=HGQ.out.1; have:=HGU.out.1; have:=HB4s.out; have:=HB7s.out; omega) _,HM.out.2.2.2.2.1.grown (grown_set _ _ _ _) (.inr rfl),us2,qs.set j (g-1),by rw [HM.out.1]; exact HS.out.2.2.2.2.1,HM.out.2.1,HM.out.2.2.1.grown (grown_set _ _ _ _) HNE.out,by rw [List.length_set]; exact HS.out.2.2.2.2.2.1,ok_set HS.out.2.2.2.2.2.2 _ hg3,HM.out.2.2.2.1.set_ _ _,?_,?_,HEND.out.2.2⟩⟩⟩
     ·
      rw [← HVv.out]; exact HEND.out.1
     ·
      rw [← HVv.out]; exact HEND.out.2.1
    case measure=>first | (simp [intOf]; done) | (simp [intOf]; omega)
end Go.Proofs.Ytehghijlchpeaaa.Nat1
end
section
namespace Go.Proofs.Ytehghijlchpeaaa.Nat1
open Go.RowKit YtehghijlchpeaaaW.PrintWords YtehghijlchpeaaaW.PrintLast YtehghijlchpeaaaW.PrintMore L Nt
theorem quo_DivMod.calls (A0:Option Addr) (c0:Nat) (l0:List Int) (A1:Option Addr) (c1:Nat) (l1:List Int) (r1 r2:List Int) (r3:Int) (w:World) (hr0:Kd.C (Kd.int .u32) w A0 l0.length l0) (hc0:l0.length≤c0) (hr1:Kd.C (Kd.int .u32) w A1 l1.length l1) (hc1:l1.length≤c1) (h:quo_DivMod.f l0 l1=some (r1,r2,r3)) :
  Calls Try.prog 98 #[.slice A0 l0.length c0,.slice A1 l1.length c1] w fun e w'=>∃ v0_ v1_:Value,e=.returned (.tuple #[v0_,v1_,.int .i64 r3])∧Kd.R (Kd.int .u32) 63 w' w.heap.size (fun k_=>some k_≠(v1_:Value).ownBlock) v0_ r1∧Kd.R (Kd.int .u32) 63 w' w.heap.size (fun k_=>some k_≠(v0_:Value).ownBlock) v1_ r2∧Below w.heap.size w w':=by
 show Calls Try.prog 98 #[.slice A0 l0.length c0,.slice A1 l1.length c1] w (DivPost w r1 r2 r3)
 unfold quo_DivMod.f at h
 split at h
 ·
  rename_i hk
  split at h
  ·
   rename_i hz
   cases h
   exact div_zero A0 c0 l0 A1 c1 l1 w hr0 hc0 hr1 hc1 hk.1 hk.2 hz
  ·
   rename_i hz
   cases h
   have hne:dg B32 (val B32 l1)≠[]:=fun e=>hz ((zcg zbB _).1 e)
   have hpos:0 < (dg B32 (val B32 l1)).length:=List.length_pos_iff.2 hne
   rcases Nat.lt_or_ge (val B32 l0) (val B32 l1) with hlt | hle
   ·
    rw [Nat.div_eq_of_lt hlt,Nat.mod_eq_of_lt hlt,zbU]
    exact div_below A0 c0 l0 A1 c1 l1 w hr0 hc0 hr1 hc1 hk.1 hk.2 hz hlt
   ·
    rcases Nat.lt_or_ge 1 (dg B32 (val B32 l1)).length with h2 | h2
    ·
     obtain⟨m,hm⟩:∃ m,(dg B32 (val B32 l1)).length=m+2:=⟨_,(Nat.sub_add_cancel h2).symm⟩
     exact div_long A0 c0 l0 A1 c1 l1 w hr0 hc0 hr1 hc1 hk.1 hk.2 hz hle m hm
    ·
     exact div_one A0 c0 l0 A1 c1 l1 w hr0 hc0 hr1 hc1 hk.1 hk.2 hz hle (by omega)
 ·
  cases h
end Go.Proofs.Ytehghijlchpeaaa.Nat1
end
section
namespace Go.Proofs.Ytehghijlchpeaaa.Nat1
open Go.RowKit YtehghijlchpeaaaW.PrintWords YtehghijlchpeaaaW.PrintLast YtehghijlchpeaaaW.PrintMore L Nt
def bits_Len32.f (a0:Int):Option Int:=if 0≤a0∧a0 < 4294967296 then some (Lib.bitLen a0.toNat:Int) else none
theorem bits_Len32.calls (a0:Int) (r:Int) (w:World) (h:bits_Len32.f a0=some r) :
  Calls Try.prog 96 #[.int .u32 a0] w fun e w'=>e=.returned (.int .i64 r)∧Below w.heap.size w w':=by
 unfold bits_Len32.f at h
 split at h
 ·
  rename_i hk
  cases h
  refine(Try.bits_Len32 a0 w hk.1 (by omega)).mono ?_
  rintro e w' ⟨rfl,rfl⟩
  exact⟨rfl,Below.refl _ _⟩
 ·
  cases h
end Go.Proofs.Ytehghijlchpeaaa.Nat1
end
section
noncomputable section
namespace Go.Proofs.Ytehghijlchpeaaa.H
open Go.RowKit Ytehghijlchpeaaa.L Ytehghijlchpeaaa.Nat1 YtehghijlchpeaaaW.PrintWords YtehghijlchpeaaaW.PrintLast YtehghijlchpeaaaW.PrintMore
attribute [local go_sem] zb6 zb4 zca zcb zbY zbX zb5 zb7   -- for this text's walks alone
def errW:Option Int→Value
 | none=>.nilIface
 | some c=>.iface 0 (.int .i64 c)
theorem zbz:errW none=.nilIface:=rfl
theorem zbA (c:Int):errW (some c)=.iface 0 (.int .i64 c):=rfl
end Go.Proofs.Ytehghijlchpeaaa.H
end
end
section
noncomputable section
namespace Go.Proofs.Ytehghijlchpeaaa.H
open Go.RowKit Ytehghijlchpeaaa.L Ytehghijlchpeaaa.Nat1 YtehghijlchpeaaaW.PrintWords YtehghijlchpeaaaW.PrintLast YtehghijlchpeaaaW.PrintMore
attribute [local go_sem] zb6 zb4 zca zcb zbY zbX zb5 zb7   -- for this text's walks alone
def nat_Mul.l0:Nat→List Int→List Int→List Int→Int→Int→Option (List Int)
 | 0,_,_,_,_,_=>none
 | k+1,x0,x5,x8,x9,x10=>if x10 < x9 then (if 0≤x10 then (if x10 < (x8.length:Int) then ((nat_row.f x0 (rd x8 x10) x10).bind fun t102=>((nat_Add.f x5 t102).bind fun t105=>(nat_Mul.l0 k x0 t105 x8 x9 (wrap64 (x10+1))))) else (none)) else (none)) else (some x5)
def nat_Mul.f (k:Nat) (l0:List Int) (l1:List Int):Option (List Int):=nat_Mul.l0 k l0 ([]:List Int) l1 (l1.length:Int) 0
theorem nat_Mul.calls (k:Nat) (A0:Option Addr) (c0:Nat) (l0:List Int) (A1:Option Addr) (c1:Nat) (l1:List Int) (r:List Int) (w:World) (hr0:Kd.C (Kd.int .u32) w A0 l0.length l0) (hc0:l0.length≤c0) (hr1:Kd.C (Kd.int .u32) w A1 l1.length l1) (hc1:l1.length≤c1) (h:nat_Mul.f k l0 l1=some r) :
  Calls Try.prog 103 #[.slice A0 l0.length c0,.slice A1 l1.length c1] w fun e w'=>∃ v0_:Value,e=.returned (v0_)∧Kd.R (Kd.int .u32) 63 w' w.heap.size (fun _=>True) v0_ r∧Below w.heap.size w w':=by
 have HR0:=Aside0.mk hr0
 have HC0:=Aside0.mk hc0
 clear hr0 hc0
 have HR1:=Aside0.mk hr1
 have HC1:=Aside0.mk hc1
 clear hr1 hc1
 have HB:=Aside0.mk (Below.refl w.heap.size w)
 have H:(nat_Mul.l0 k l0 ([]:List Int) l1 (l1.length:Int) 0)=some r:=h
 clear h
 have H':=Aside0.mk H
 clear H
 go_enter Try.func103,Try.ntmps103
 go_wp2
 go_loopg [5,10] k (fun kq v5 v10 w'=>∃ (x5_1:List Int) (x10_1:Int),v10=.int .i64 x10_1∧Aside0 (nat_Mul.l0 kq l0 x5_1 l1 (l1.length:Int) x10_1=some r)∧Aside0 (kq≤k)∧Aside0 (Kd.R (Kd.int .u32) 63 w' w.heap.size (fun _=>True) v5 x5_1)∧Aside0 (Below w.heap.size w w'))
 case atStart=>exact⟨(([]:List Int)),(0),(by first | rfl | (simp; done) | (simp [*]; done)),H',⟨Nat.le_refl _⟩,⟨by first | exact Kd.R_nil _ _ _ _ _ | exact Kd.N_nil _ _ _ _ _ | exact Kd.V_nil _ _ _ _ _ | exact Kd.Q_nil _ _ _ _ _ | exact Kd.S_nil _ _ _ _ _⟩,⟨by repeat (first | (with_reducible first | exact HB.out | apply zbq | apply zbr | apply zbv) | exact HB.out)⟩⟩
 case round =>
  clear H'
  try clear c1
  try clear p2
  obtain⟨x5_1,x10_1,rfl,HA,HK1,HO_5,HB⟩:=hrel
  cases gk with
  | zero=>exact absurd HA.out (by simp [nat_Mul.l0])
  | succ k1 =>
   have H:=HA.out
   clear HA
   simp only [nat_Mul.l0] at H
   by_cases c3:x10_1 < (l1.length:Int)
   ·
    rw [if_pos c3] at H
    have c3b0:decide (x10_1 < (l1.length:Int))=true:=decide_eq_true c3
    clear c3
    by_cases c4:0≤x10_1
    ·
     rw [if_pos c4] at H
     have c4b0:decide (0≤x10_1)=true:=decide_eq_true c4
     clear c4
     by_cases c5:x10_1 < (l1.length:Int)
     ·
      rw [if_pos c5] at H
      have c5b0:decide (x10_1 < (l1.length:Int))=true:=decide_eq_true c5
      clear c5
      replace H:=Option.bind_eq_some_iff.mp H
      obtain⟨t102,A60,H⟩:=H
      replace H:((nat_Add.f x5_1 t102).bind fun t105=>(nat_Mul.l0 k1 l0 t105 l1 (l1.length:Int) (wrap64 (x10_1+1))))=some r:=H
      have A6:=Aside0.mk A60
      clear A60
      replace H:=Option.bind_eq_some_iff.mp H
      obtain⟨t105,A70,H⟩:=H
      replace H:(nat_Mul.l0 k1 l0 t105 l1 (l1.length:Int) (wrap64 (x10_1+1)))=some r:=H
      have A7:=Aside0.mk A70
      clear A70
      have H':=Aside0.mk H
      clear H
      have p101:0≤(x10_1:Int):=of_decide_eq_true qs
      have q101:x10_1 < (l1.length:Int):=of_decide_eq_true qs
      obtain⟨ad101,e101,hx101_0⟩:=Kd.at_int HR1.out x10_1 p101 q101
      cases e101
      replace hx101_0:=(HB.out.cell (World.block_lt_of_cell? w _ hx101_0)).trans hx101_0
      replace p101:=eq_true p101
      replace q101:=eq_true q101
      go_wp2_with (first | ((with_reducible refine zbC (f:=127) rfl ?_); refine zbO (some 19) rfl rfl Try.func127 (by kernel_rfl) rfl #[.slice A0 l0.length c0,.int .u32 (rd l1 x10_1),.int .i64 x10_1] rfl (by (try simp only [List.map_toArray,List.map_cons,List.map_nil]); first | done | rfl | (simp only [List.length_drop,List.length_take]; rfl)) ?_; (with_reducible refine(nat_row.calls _ _ l0 (rd l1 x10_1) x10_1 t102 _ ?side1 ?side2 A6.out).mono ?_); (case side1=>exact qc (Kd.C_below HR0.out HB.out)); (case side2=>exact HC0.out); rintro e w8 ⟨v103,rfl,ho0,hb⟩; refine⟨_,rfl,?_⟩; have n0_:=Aside0.mk (Kd.R_elder' (qr HO_5.out) (Kd.R_base ho0) hb); have n1_:=Aside0.mk (Kd.R_lower (Kd.R_new' ho0 (Kd.R_lt (qr HO_5.out))) (zbs (qb HB.out))); have n2_:=Aside0.mk (zbp (qb HB.out) hb); clear HO_5; clear HB; have HO_5:=n0_; have HO104:=n1_; have HB:=n2_; clear n0_ n1_ n2_; (try clear hb); (try clear hb2); (try clear hk); (try clear hi); (try clear ho0); obtain⟨Ao9,co9,eo9⟩:=Kd.R_slice HO_5.out; subst eo9; obtain⟨Ao10,co10,eo10⟩:=Kd.R_slice HO104.out; subst eo10) | ((with_reducible refine zbC (f:=105) rfl ?_); refine zbO (some 20) rfl rfl Try.func105 (by kernel_rfl) rfl #[.slice Ao9 x5_1.length co9,.slice Ao10 t102.length co10] rfl (by (try simp only [List.map_toArray,List.map_cons,List.map_nil]); first | done | rfl | (simp only [List.length_drop,List.length_take]; rfl)) ?_; (with_reducible refine(nat_Add.calls _ _ x5_1 _ _ t102 t105 _ ?side1 ?side2 ?side3 ?side4 A7.out).mono ?_); (case side1=>exact qc (Kd.R_reads' HO_5.out).2.2); (case side2=>exact(Kd.R_reads' HO_5.out).2.1); (case side3=>exact qc (Kd.R_reads' HO104.out).2.2); (case side4=>exact(Kd.R_reads' HO104.out).2.1); rintro e w11 ⟨v106,rfl,ho0,hb⟩; refine⟨_,rfl,?_⟩; have n0_:=Aside0.mk (Kd.R_elder' (qr HO_5.out) (Kd.R_base ho0) hb); have n1_:=Aside0.mk (Kd.R_elder' (qr HO104.out) (Kd.R_base ho0) hb); have n2_:=Aside0.mk (Kd.R_lower (Kd.R_new' (Kd.R_new' ho0 (Kd.R_lt (qr HO_5.out))) (Kd.R_lt (qr HO104.out))) (zbs (qb HB.out))); have n3_:=Aside0.mk (zbp (qb HB.out) hb); clear HO_5; clear HO104; clear HB; have HO_5:=n0_; have HO104:=n1_; have HO107:=n2_; have HB:=n3_; clear n0_ n1_ n2_ n3_; (try clear hb); (try clear hb2); (try clear hk); (try clear hi); (try clear ho0)))
      go_roundg k1
      case measure=>have:=HK1.out; omega
      case rel=>exact⟨(t105),(wrap64 (x10_1+1)),(by first | rfl | (simp; done) | (simp [*]; done)),H',⟨by have:=HK1.out; omega⟩,⟨by (with_reducible repeat (first | apply Kd.R_alloc | apply Kd.R_drewN | apply Kd.R_drew)); exact Kd.R_mono HO107.out (fun _ hk=>trivial)⟩,⟨by repeat (first | (with_reducible first | exact HB.out | apply zbq | apply zbr | apply zbv) | exact HB.out)⟩⟩
     ·
      rw [if_neg c5] at H
      exact absurd H (by simp)
    ·
     rw [if_neg c4] at H
     exact absurd H (by simp)
   ·
    rw [if_neg c3] at H
    have c3b0:decide (x10_1 < (l1.length:Int))=false:=decide_eq_false c3
    clear c3
    obtain rfl:=Option.some.inj H
    go_wp2
    go_ret
    exact⟨_,by first | rfl | (simp [zbz,zbA]<;>rfl) | (simp [*,zbz,zbA]<;>rfl),by (with_reducible repeat (first | apply Kd.R_alloc | apply Kd.R_drewN | apply Kd.R_drew)); exact HO_5.out,by repeat (first | (with_reducible first | exact HB.out | apply zbq | apply zbr | apply zbv) | exact HB.out)⟩
def nat_Bits.f (k:Nat) (l0:List Int):Option (Int):=(nat_top.f k l0).bind fun t108=>(if t108=0 then (some 0) else (if 0≤(wrap64 (t108-1)) then (if (wrap64 (t108-1)) < (l0.length:Int) then ((bits_Len32.f (rd l0 (wrap64 (t108-1)))).bind fun t110=>(some (wrap64 ((wrap64 (32*(wrap64 (t108-1))))+t110)))) else (none)) else (none)))
theorem nat_Bits.mono:∀ a0 k,LeO (nat_Bits.f k a0) (nat_Bits.f (k+1) a0):=by
 intro a0 k
 unfold nat_Bits.f
 repeat' first
   | (with_reducible exact nat_top.mono _ _)
   | (with_reducible exact LeO.refl _)
   | (with_reducible exact LeO.none _)
   | (with_reducible refine LeO.ite ?_ ?_)
   | (with_reducible refine LeO.bind ?_ (fun _=>?_))
   | exact nat_top.mono _ _
   | exact LeO.none _
   | refine LeO.ite ?_ ?_
   | refine LeO.bind ?_ (fun _=>?_)
theorem nat_Bits.calls (k:Nat) (A0:Option Addr) (c0:Nat) (l0:List Int) (r:Int) (w:World) (hr0:Kd.C (Kd.int .u32) w A0 l0.length l0) (hc0:l0.length≤c0) (h:nat_Bits.f k l0=some r) :
  Calls Try.prog 62 #[.slice A0 l0.length c0] w fun e w'=>e=.returned (.int .i64 r)∧Below w.heap.size w w':=by
 have HR0:=Aside0.mk hr0
 have HC0:=Aside0.mk hc0
 clear hr0 hc0
 have HB:=Aside0.mk (Below.refl w.heap.size w)
 have H:((nat_top.f k l0).bind fun t108=>(if t108=0 then (some 0) else (if 0≤(wrap64 (t108-1)) then (if (wrap64 (t108-1)) < (l0.length:Int) then ((bits_Len32.f (rd l0 (wrap64 (t108-1)))).bind fun t110=>(some (wrap64 ((wrap64 (32*(wrap64 (t108-1))))+t110)))) else (none)) else (none))))=some r:=h
 clear h
 replace H:=Option.bind_eq_some_iff.mp H
 obtain⟨t108,A20,H⟩:=H
 replace H:(if t108=0 then (some 0) else (if 0≤(wrap64 (t108-1)) then (if (wrap64 (t108-1)) < (l0.length:Int) then ((bits_Len32.f (rd l0 (wrap64 (t108-1)))).bind fun t110=>(some (wrap64 ((wrap64 (32*(wrap64 (t108-1))))+t110)))) else (none)) else (none)))=some r:=H
 have A2:=Aside0.mk A20
 clear A20
 by_cases c3:t108=0
 ·
  rw [if_pos c3] at H
  have c3b0:(t108 == 0)=true:=beq_iff_eq.mpr c3
  have c3b1:(t108 != 0)=false:=bne_eq_false_iff_eq.mpr c3
  clear c3
  obtain rfl:=Option.some.inj H
  go_enter Try.func62,Try.ntmps62
  go_wp2_with (first | ((with_reducible refine zbC (f:=95) rfl ?_); refine zbO (some 5) rfl rfl Try.func95 (by kernel_rfl) rfl #[.slice A0 l0.length c0] rfl (by (try simp only [List.map_toArray,List.map_cons,List.map_nil]); first | done | rfl | (simp only [List.length_drop,List.length_take]; rfl)) ?_; (with_reducible refine(nat_top.calls k _ _ l0 t108 _ ?side1 ?side2 A2.out).mono ?_); (case side1=>exact qc HR0.out); (case side2=>exact HC0.out); rintro e w' ⟨rfl,⟨nd,rfl⟩⟩; refine⟨_,rfl,?_⟩))
  go_ret
  exact⟨by first | rfl | (simp [zbz,zbA]<;>rfl) | (simp [*,zbz,zbA]<;>rfl),by repeat (first | (with_reducible first | exact HB.out | apply zbq | apply zbr | apply zbv) | exact HB.out)⟩
 ·
  rw [if_neg c3] at H
  have c3b0:(t108 == 0)=false:=beq_eq_false_iff_ne.mpr c3
  have c3b1:(t108 != 0)=true:=bne_iff_ne.mpr c3
  obtain⟨ji4,hji4⟩:∃ j_:Int,(wrap64 (t108-1))=j_:=⟨_,rfl⟩
  replace H:(if 0≤(ji4) then (if (ji4) < (l0.length:Int) then ((bits_Len32.f (rd l0 (ji4))).bind fun t110=>(some (wrap64 ((wrap64 (32*(ji4)))+t110)))) else (none)) else (none))=some r:=by first | (rw [hji4] at H; exact H) | (simp only [hji4] at H ⊢; exact H)
  (try rw [hji4] at A2)
  have hji4w:(IntKind.i64.wrap (t108-1))=ji4:=(zcj _).trans hji4
  by_cases c5:0≤(ji4)
  ·
   rw [if_pos c5] at H
   have c5b0:decide (0≤(ji4))=true:=decide_eq_true c5
   clear c5
   by_cases c6:(ji4) < (l0.length:Int)
   ·
    rw [if_pos c6] at H
    have c6b0:decide ((ji4) < (l0.length:Int))=true:=decide_eq_true c6
    clear c6
    replace H:=Option.bind_eq_some_iff.mp H
    obtain⟨t110,A70,H⟩:=H
    replace H:(some (wrap64 ((wrap64 (32*(ji4)))+t110)))=some r:=H
    have A7:=Aside0.mk A70
    clear A70
    obtain rfl:=Option.some.inj H
    go_enter Try.func62,Try.ntmps62
    go_wp2_with (first | ((with_reducible refine zbC (f:=95) rfl ?_); refine zbO (some 5) rfl rfl Try.func95 (by kernel_rfl) rfl #[.slice A0 l0.length c0] rfl (by (try simp only [List.map_toArray,List.map_cons,List.map_nil]); first | done | rfl | (simp only [List.length_drop,List.length_take]; rfl)) ?_; (with_reducible refine(nat_top.calls k _ _ l0 t108 _ ?side1 ?side2 A2.out).mono ?_); (case side1=>exact qc HR0.out); (case side2=>exact HC0.out); rintro e w' ⟨rfl,⟨nd,rfl⟩⟩; refine⟨_,rfl,?_⟩; have p109:0≤((ji4):Int):=of_decide_eq_true qs; have q109:(ji4) < (l0.length:Int):=of_decide_eq_true qs; obtain⟨ad109,e109,hx109_0⟩:=Kd.at_int HR0.out (ji4) p109 q109; cases e109; replace p109:=eq_true p109; replace q109:=eq_true q109) | ((with_reducible refine zbC (f:=96) rfl ?_); refine zbO (some 16) rfl rfl Try.func96 (by kernel_rfl) rfl #[.int .u32 (rd l0 (ji4))] rfl (by (try simp only [List.map_toArray,List.map_cons,List.map_nil]); first | done | (simp only [hji4]; rfl) | rfl | (simp only [List.length_drop,List.length_take]; rfl)) ?_; (with_reducible refine(bits_Len32.calls (rd l0 (ji4)) t110 _ A7.out).mono ?_); rintro e w8 ⟨rfl,hb⟩; refine⟨_,rfl,?_⟩; have n0_:=Aside0.mk (zbp (qb HB.out) hb); clear HB; have HB:=n0_; clear n0_; (try clear hb); (try clear hb2); (try clear hk); (try clear hi)))
    go_ret
    exact⟨by first | rfl | (simp [zbz,zbA]<;>rfl) | (simp only [← hji4]; first | rfl | (simp [zbz,zbA]<;>rfl)) | (simp [*,zbz,zbA]<;>rfl),by repeat (first | (with_reducible first | exact HB.out | apply zbq | apply zbr | apply zbv) | exact HB.out)⟩
   ·
    rw [if_neg c6] at H
    exact absurd H (by simp)
  ·
   rw [if_neg c5] at H
   exact absurd H (by simp)
def quo_Gcd.l0:Nat→List Int→List Int→Option (List Int)
 | 0,_,_=>none
 | k+1,x0,x1=>if (x1.length:Int) > 0 then ((quo_DivMod.f x0 x1).bind fun bt117=>(quo_Gcd.l0 k x1 bt117.2.1)) else (some x0)
def quo_Gcd.f (k:Nat) (l0:List Int) (l1:List Int):Option (List Int):=(nat_Trim.f l0).bind fun t111=>((nat_Trim.f l1).bind fun t114=>(quo_Gcd.l0 k t111 t114))
theorem quo_Gcd.calls (k:Nat) (A0:Option Addr) (c0:Nat) (l0:List Int) (A1:Option Addr) (c1:Nat) (l1:List Int) (r:List Int) (w:World) (hr0:Kd.C (Kd.int .u32) w A0 l0.length l0) (hc0:l0.length≤c0) (hr1:Kd.C (Kd.int .u32) w A1 l1.length l1) (hc1:l1.length≤c1) (h:quo_Gcd.f k l0 l1=some r) :
  Calls Try.prog 63 #[.slice A0 l0.length c0,.slice A1 l1.length c1] w fun e w'=>∃ v0_:Value,e=.returned (v0_)∧Kd.R (Kd.int .u32) 63 w' w.heap.size (fun _=>True) v0_ r∧Below w.heap.size w w':=by
 have HR0:=Aside0.mk hr0
 have HC0:=Aside0.mk hc0
 clear hr0 hc0
 have HR1:=Aside0.mk hr1
 have HC1:=Aside0.mk hc1
 clear hr1 hc1
 have HB:=Aside0.mk (Below.refl w.heap.size w)
 have H:((nat_Trim.f l0).bind fun t111=>((nat_Trim.f l1).bind fun t114=>(quo_Gcd.l0 k t111 t114)))=some r:=h
 clear h
 replace H:=Option.bind_eq_some_iff.mp H
 obtain⟨t111,A30,H⟩:=H
 replace H:((nat_Trim.f l1).bind fun t114=>(quo_Gcd.l0 k t111 t114))=some r:=H
 have A3:=Aside0.mk A30
 clear A30
 replace H:=Option.bind_eq_some_iff.mp H
 obtain⟨t114,A40,H⟩:=H
 replace H:(quo_Gcd.l0 k t111 t114)=some r:=H
 have A4:=Aside0.mk A40
 clear A40
 have H':=Aside0.mk H
 clear H
 go_enter Try.func63,Try.ntmps63
 go_wp2_with (first | ((with_reducible refine zbC (f:=97) rfl ?_); refine zbO (some 9) rfl rfl Try.func97 (by kernel_rfl) rfl #[.slice A0 l0.length c0] rfl (by (try simp only [List.map_toArray,List.map_cons,List.map_nil]); first | done | rfl | (simp only [List.length_drop,List.length_take]; rfl)) ?_; (with_reducible refine(nat_Trim.calls _ _ l0 t111 _ ?side1 ?side2 A3.out).mono ?_); (case side1=>exact qc HR0.out); (case side2=>exact HC0.out); rintro e w5 ⟨v112,rfl,ho0,hb⟩; refine⟨_,rfl,?_⟩; have n0_:=Aside0.mk (Kd.R_lower ho0 (zbs (qb HB.out))); have n1_:=Aside0.mk (zbp (qb HB.out) hb); clear HB; have HO113:=n0_; have HB:=n1_; clear n0_ n1_; (try clear hb); (try clear hb2); (try clear hk); (try clear hi); (try clear ho0)) | ((with_reducible refine zbC (f:=97) rfl ?_); refine zbO (some 11) rfl rfl Try.func97 (by kernel_rfl) rfl #[.slice A1 l1.length c1] rfl (by (try simp only [List.map_toArray,List.map_cons,List.map_nil]); first | done | rfl | (simp only [List.length_drop,List.length_take]; rfl)) ?_; (with_reducible refine(nat_Trim.calls _ _ l1 t114 _ ?side1 ?side2 A4.out).mono ?_); (case side1=>exact qc (Kd.C_below HR1.out HB.out)); (case side2=>exact HC1.out); rintro e w6 ⟨v115,rfl,ho0,hb⟩; refine⟨_,rfl,?_⟩; have n0_:=Aside0.mk (Kd.R_elder' (qr HO113.out) (Kd.R_base ho0) hb); have n1_:=Aside0.mk (Kd.R_lower (Kd.R_new' ho0 (Kd.R_lt (qr HO113.out))) (zbs (qb HB.out))); have n2_:=Aside0.mk (zbp (qb HB.out) hb); clear HO113; clear HB; have HO113:=n0_; have HO116:=n1_; have HB:=n2_; clear n0_ n1_ n2_; (try clear hb); (try clear hb2); (try clear hk); (try clear hi); (try clear ho0)))
 go_loopg [0,1] k (fun kq v0 v1 w'=>∃ (x0_1:List Int) (x1_1:List Int),Aside0 (quo_Gcd.l0 kq x0_1 x1_1=some r)∧Aside0 (kq≤k)∧Aside0 (Kd.R (Kd.int .u32) 63 w' w.heap.size (fun k_=>some k_≠(v1:Value).ownBlock) v0 x0_1)∧Aside0 (Kd.R (Kd.int .u32) 63 w' w.heap.size (fun k_=>some k_≠(v0:Value).ownBlock) v1 x1_1)∧Aside0 (Below w.heap.size w w'))
 case atStart=>exact⟨(t111),(t114),H',⟨Nat.le_refl _⟩,⟨by (with_reducible repeat (first | apply Kd.R_alloc | apply Kd.R_drewN | apply Kd.R_drew)); exact Kd.R_mono HO113.out (fun _ hk=>hk.2)⟩,⟨by (with_reducible repeat (first | apply Kd.R_alloc | apply Kd.R_drewN | apply Kd.R_drew)); exact Kd.R_mono HO116.out (fun _ hk=>hk.2)⟩,⟨by repeat (first | (with_reducible first | exact HB.out | apply zbq | apply zbr | apply zbv) | exact HB.out)⟩⟩
 case round =>
  clear H'
  try clear c1
  try clear p2
  try clear c6
  obtain⟨x0_1,x1_1,HA,HK1,HO_0,HO_1,HB⟩:=hrel
  cases gk with
  | zero=>exact absurd HA.out (by simp [quo_Gcd.l0])
  | succ k1 =>
   have H:=HA.out
   clear HA
   simp only [quo_Gcd.l0] at H
   by_cases c7:(x1_1.length:Int) > 0
   ·
    rw [if_pos c7] at H
    have c7b0:decide (0 < (x1_1.length:Int))=true:=decide_eq_true c7
    have c7b1:decide (0 < x1_1.length)=true:=decide_eq_true (by omega)
    clear c7
    replace H:=Option.bind_eq_some_iff.mp H
    obtain⟨⟨t117,t118,t119⟩,A80,H⟩:=H
    replace H:(quo_Gcd.l0 k1 x1_1 t118)=some r:=H
    have A8:=Aside0.mk A80
    clear A80
    have H':=Aside0.mk H
    clear H
    obtain⟨Ao9,co9,eo9⟩:=Kd.R_slice HO_1.out
    subst eo9
    obtain⟨Ao10,co10,eo10⟩:=Kd.R_slice HO_0.out
    subst eo10
    go_wp2_with (first | ((with_reducible refine zbC (f:=98) rfl ?_); refine zbO (some 18) rfl rfl Try.func98 (by kernel_rfl) rfl #[.slice Ao10 x0_1.length co10,.slice Ao9 x1_1.length co9] rfl (by (try simp only [List.map_toArray,List.map_cons,List.map_nil]); first | done | rfl | (simp only [List.length_drop,List.length_take]; rfl)) ?_; (with_reducible refine(quo_DivMod.calls _ _ x0_1 _ _ x1_1 t117 t118 t119 _ ?side1 ?side2 ?side3 ?side4 A8.out).mono ?_); (case side1=>exact qc (Kd.R_reads' HO_0.out).2.2); (case side2=>exact(Kd.R_reads' HO_0.out).2.1); (case side3=>exact qc (Kd.R_reads' HO_1.out).2.2); (case side4=>exact(Kd.R_reads' HO_1.out).2.1); rintro e w11 ⟨v120,v122,rfl,ho0,ho1,hb⟩; refine⟨_,rfl,?_⟩; have n0_:=Aside0.mk (Kd.R_mono (Kd.R_told (Kd.R_told (Kd.R_old (qr HO_0.out) hb) (Kd.R_base ho0)) (Kd.R_base ho1)) (fun _ h_=>h_.1)); have n1_:=Aside0.mk (Kd.R_mono (Kd.R_told (Kd.R_told (Kd.R_old (qr HO_1.out) hb) (Kd.R_base ho0)) (Kd.R_base ho1)) (fun _ h_=>h_.1)); have n2_:=Aside0.mk (Kd.R_lower (Kd.R_new' (Kd.R_new' ho0 (Kd.R_lt (qr HO_0.out))) (Kd.R_lt (qr HO_1.out))) (zbs (qb HB.out))); have n3_:=Aside0.mk (Kd.R_lower (Kd.R_new' (Kd.R_new' ho1 (Kd.R_lt (qr HO_0.out))) (Kd.R_lt (qr HO_1.out))) (zbs (qb HB.out))); have n4_:=Aside0.mk (zbp (qb HB.out) hb); clear HO_0; clear HO_1; clear HB; have HO_0:=n0_; have HO_1:=n1_; have HO121:=n2_; have HO123:=n3_; have HB:=n4_; clear n0_ n1_ n2_ n3_ n4_; (try clear hb); (try clear hb2); (try clear hk); (try clear hi); (try clear ho0); (try clear ho1)))
    go_roundg k1
    case measure=>have:=HK1.out; omega
    case rel=>exact⟨(x1_1),(t118),H',⟨by have:=HK1.out; omega⟩,⟨by (with_reducible repeat (first | apply Kd.R_alloc | apply Kd.R_drewN | apply Kd.R_drew)); exact Kd.R_mono HO_1.out (fun _ hk=>hk.2)⟩,⟨by (with_reducible repeat (first | apply Kd.R_alloc | apply Kd.R_drewN | apply Kd.R_drew)); exact Kd.R_mono HO123.out (fun _ hk=>hk.2)⟩,⟨by repeat (first | (with_reducible first | exact HB.out | apply zbq | apply zbr | apply zbv) | exact HB.out)⟩⟩
   ·
    rw [if_neg c7] at H
    have c7b0:decide (0 < (x1_1.length:Int))=false:=decide_eq_false c7
    have c7b1:decide (0 < x1_1.length)=false:=decide_eq_false (by omega)
    clear c7
    obtain rfl:=Option.some.inj H
    obtain⟨Ao12,co12,eo12⟩:=Kd.R_slice HO_1.out
    subst eo12
    go_wp2
    go_ret
    exact⟨_,by first | rfl | (simp [zbz,zbA]<;>rfl) | (simp [*,zbz,zbA]<;>rfl),by (with_reducible repeat (first | apply Kd.R_alloc | apply Kd.R_drewN | apply Kd.R_drew)); exact Kd.R_mono HO_0.out (fun _ hk=>trivial),by repeat (first | (with_reducible first | exact HB.out | apply zbq | apply zbr | apply zbv) | exact HB.out)⟩
def rat_one.f  : Option (List Int):=(nat_Of.f 1).bind fun t139=>(some t139)
theorem rat_one.calls  (r:List Int) (w:World) (h:rat_one.f  = some r) :
  Calls Try.prog 59 #[] w fun e w'=>∃ v0_:Value,e=.returned (v0_)∧Kd.R (Kd.int .u32) 63 w' w.heap.size (fun _=>True) v0_ r∧Below w.heap.size w w':=by
 have HB:=Aside0.mk (Below.refl w.heap.size w)
 have H:((nat_Of.f 1).bind fun t139=>(some t139))=some r:=h
 clear h
 replace H:=Option.bind_eq_some_iff.mp H
 obtain⟨t139,A10,H⟩:=H
 replace H:(some t139)=some r:=H
 have A1:=Aside0.mk A10
 clear A10
 obtain rfl:=Option.some.inj H
 go_enter Try.func59,Try.ntmps59
 go_wp2_with (first | ((with_reducible refine zbC (f:=92) rfl ?_); refine zbO (some 1) rfl rfl Try.func92 (by kernel_rfl) rfl #[.int .u64 1] rfl (by (try simp only [List.map_toArray,List.map_cons,List.map_nil]); first | done | rfl | (simp only [List.length_drop,List.length_take]; rfl)) ?_; (with_reducible refine(nat_Of.calls 1 t139 _ A1.out).mono ?_); rintro e w2 ⟨v140,rfl,ho0,hb⟩; refine⟨_,rfl,?_⟩; have n0_:=Aside0.mk (Kd.R_lower ho0 (zbs (qb HB.out))); have n1_:=Aside0.mk (zbp (qb HB.out) hb); clear HB; have HO141:=n0_; have HB:=n1_; clear n0_ n1_; (try clear hb); (try clear hb2); (try clear hk); (try clear hi); (try clear ho0)))
 go_ret
 exact⟨_,by first | rfl | (simp [zbz,zbA]<;>rfl) | (simp [*,zbz,zbA]<;>rfl),by (with_reducible repeat (first | apply Kd.R_alloc | apply Kd.R_drewN | apply Kd.R_drew)); exact HO141.out,by repeat (first | (with_reducible first | exact HB.out | apply zbq | apply zbr | apply zbv) | exact HB.out)⟩
def rat_by.f (l0:List Int) (l1:List Int):Option (List Int):=(quo_DivMod.f l0 l1).bind fun bt142=>(some bt142.1)
theorem rat_by.calls (A0:Option Addr) (c0:Nat) (l0:List Int) (A1:Option Addr) (c1:Nat) (l1:List Int) (r:List Int) (w:World) (hr0:Kd.C (Kd.int .u32) w A0 l0.length l0) (hc0:l0.length≤c0) (hr1:Kd.C (Kd.int .u32) w A1 l1.length l1) (hc1:l1.length≤c1) (h:rat_by.f l0 l1=some r) :
  Calls Try.prog 65 #[.slice A0 l0.length c0,.slice A1 l1.length c1] w fun e w'=>∃ v0_:Value,e=.returned (v0_)∧Kd.R (Kd.int .u32) 63 w' w.heap.size (fun _=>True) v0_ r∧Below w.heap.size w w':=by
 have HR0:=Aside0.mk hr0
 have HC0:=Aside0.mk hc0
 clear hr0 hc0
 have HR1:=Aside0.mk hr1
 have HC1:=Aside0.mk hc1
 clear hr1 hc1
 have HB:=Aside0.mk (Below.refl w.heap.size w)
 have H:((quo_DivMod.f l0 l1).bind fun bt142=>(some bt142.1))=some r:=h
 clear h
 replace H:=Option.bind_eq_some_iff.mp H
 obtain⟨⟨t142,t143,t144⟩,A30,H⟩:=H
 replace H:(some t142)=some r:=H
 have A3:=Aside0.mk A30
 clear A30
 obtain rfl:=Option.some.inj H
 go_enter Try.func65,Try.ntmps65
 go_wp2_with (first | ((with_reducible refine zbC (f:=98) rfl ?_); refine zbO (some 11) rfl rfl Try.func98 (by kernel_rfl) rfl #[.slice A0 l0.length c0,.slice A1 l1.length c1] rfl (by (try simp only [List.map_toArray,List.map_cons,List.map_nil]); first | done | rfl | (simp only [List.length_drop,List.length_take]; rfl)) ?_; (with_reducible refine(quo_DivMod.calls _ _ l0 _ _ l1 t142 t143 t144 _ ?side1 ?side2 ?side3 ?side4 A3.out).mono ?_); (case side1=>exact qc HR0.out); (case side2=>exact HC0.out); (case side3=>exact qc HR1.out); (case side4=>exact HC1.out); rintro e w4 ⟨v145,v147,rfl,ho0,ho1,hb⟩; refine⟨_,rfl,?_⟩; have n0_:=Aside0.mk (Kd.R_lower ho0 (zbs (qb HB.out))); have n1_:=Aside0.mk (Kd.R_lower ho1 (zbs (qb HB.out))); have n2_:=Aside0.mk (zbp (qb HB.out) hb); clear HB; have HO146:=n0_; have HO148:=n1_; have HB:=n2_; clear n0_ n1_ n2_; (try clear hb); (try clear hb2); (try clear hk); (try clear hi); (try clear ho0); (try clear ho1)))
 go_ret
 exact⟨_,by first | rfl | (simp [zbz,zbA]<;>rfl) | (simp [*,zbz,zbA]<;>rfl),by (with_reducible repeat (first | apply Kd.R_alloc | apply Kd.R_drewN | apply Kd.R_drew)); exact Kd.R_mono HO146.out (fun _ hk=>trivial),by repeat (first | (with_reducible first | exact HB.out | apply zbq | apply zbr | apply zbv) | exact HB.out)⟩
def rat_limbs.f (l0:List Int) (l1:List Int):Option (Bool):=if (l0.length:Int)=(l1.length:Int) then ((nat_Cmp.f l0 l1).bind fun t149=>(some (t149 == 0))) else (some false)
theorem rat_limbs.calls (A0:Option Addr) (c0:Nat) (l0:List Int) (A1:Option Addr) (c1:Nat) (l1:List Int) (r:Bool) (w:World) (hr0:Kd.C (Kd.int .u32) w A0 l0.length l0) (hc0:l0.length≤c0) (hr1:Kd.C (Kd.int .u32) w A1 l1.length l1) (hc1:l1.length≤c1) (h:rat_limbs.f l0 l1=some r) :
  Calls Try.prog 60 #[.slice A0 l0.length c0,.slice A1 l1.length c1] w fun e w'=>e=.returned (.bool r)∧Below w.heap.size w w':=by
 have HR0:=Aside0.mk hr0
 have HC0:=Aside0.mk hc0
 clear hr0 hc0
 have HR1:=Aside0.mk hr1
 have HC1:=Aside0.mk hc1
 clear hr1 hc1
 have HB:=Aside0.mk (Below.refl w.heap.size w)
 have H:(if (l0.length:Int)=(l1.length:Int) then ((nat_Cmp.f l0 l1).bind fun t149=>(some (t149 == 0))) else (some false))=some r:=h
 clear h
 by_cases c3:(l0.length:Int)=(l1.length:Int)
 ·
  rw [if_pos c3] at H
  have c3b0:((l0.length:Int) == (l1.length:Int))=true:=beq_iff_eq.mpr c3
  have c3b1:((l0.length:Int) != (l1.length:Int))=false:=bne_eq_false_iff_eq.mpr c3
  have c3b2:(l0.length == l1.length)=true:=by first | simpa using c3 | (simp at c3 ⊢; omega)
  clear c3
  replace H:=Option.bind_eq_some_iff.mp H
  obtain⟨t149,A40,H⟩:=H
  replace H:(some (t149 == 0))=some r:=H
  have A4:=Aside0.mk A40
  clear A40
  obtain rfl:=Option.some.inj H
  go_enter Try.func60,Try.ntmps60
  go_wp2_with (first | (go_at_call 93; (with_reducible refine(nat_Cmp.calls _ _ l0 _ _ l1 t149 _ ?side1 ?side2 ?side3 ?side4 A4.out).mono ?_); (case side1=>exact qc HR0.out); (case side2=>exact HC0.out); (case side3=>exact qc HR1.out); (case side4=>exact HC1.out); rintro e w5 ⟨rfl,hb⟩; have n0_:=Aside0.mk (zbp (qb HB.out) hb); clear HB; have HB:=n0_; clear n0_; (try clear hb); (try clear hb2); (try clear hk); (try clear hi)))
  go_ret
  exact⟨by first | rfl | (simp [zbz,zbA]<;>rfl) | (simp [*,zbz,zbA]<;>rfl),by repeat (first | (with_reducible first | exact HB.out | apply zbq | apply zbr | apply zbv) | exact HB.out)⟩
 ·
  rw [if_neg c3] at H
  have c3b0:((l0.length:Int) == (l1.length:Int))=false:=beq_eq_false_iff_ne.mpr c3
  have c3b1:((l0.length:Int) != (l1.length:Int))=true:=bne_iff_ne.mpr c3
  have c3b2:(l0.length == l1.length)=false:=by first | simpa using c3 | (simp at c3 ⊢; omega)
  obtain rfl:=Option.some.inj H
  go_enter Try.func60,Try.ntmps60
  go_wp2
  go_ret
  exact⟨by first | rfl | (simp [zbz,zbA]<;>rfl) | (simp [*,zbz,zbA]<;>rfl),by repeat (first | (with_reducible first | exact HB.out | apply zbq | apply zbr | apply zbv) | exact HB.out)⟩
def rat_size.f (a0:Int):Option (List Int):=if a0 < 0 then ((nat_Of.f (IntKind.u64.wrap ((IntKind.u64.wrap (wrap64 (-(wrap64 (a0+1)))))+1))).bind fun t150=>(some t150)) else ((nat_Of.f (IntKind.u64.wrap (a0))).bind fun t153=>(some t153))
theorem rat_size.calls (a0:Int) (r:List Int) (w:World) (h:rat_size.f a0=some r) :
  Calls Try.prog 71 #[.int .i64 a0] w fun e w'=>∃ v0_:Value,e=.returned (v0_)∧Kd.R (Kd.int .u32) 63 w' w.heap.size (fun _=>True) v0_ r∧Below w.heap.size w w':=by
 have HB:=Aside0.mk (Below.refl w.heap.size w)
 have H:(if a0 < 0 then ((nat_Of.f (IntKind.u64.wrap ((IntKind.u64.wrap (wrap64 (-(wrap64 (a0+1)))))+1))).bind fun t150=>(some t150)) else ((nat_Of.f (IntKind.u64.wrap (a0))).bind fun t153=>(some t153)))=some r:=h
 clear h
 by_cases c2:a0 < 0
 ·
  rw [if_pos c2] at H
  have c2b0:decide (a0 < 0)=true:=decide_eq_true c2
  clear c2
  replace H:=Option.bind_eq_some_iff.mp H
  obtain⟨t150,A30,H⟩:=H
  replace H:(some t150)=some r:=H
  have A3:=Aside0.mk A30
  clear A30
  obtain rfl:=Option.some.inj H
  go_enter Try.func71,Try.ntmps71
  go_wp2_with (first | ((with_reducible refine zbC (f:=92) rfl ?_); refine zbO (some 10) rfl rfl Try.func92 (by kernel_rfl) rfl #[.int .u64 (IntKind.u64.wrap ((IntKind.u64.wrap (wrap64 (-(wrap64 (a0+1)))))+1))] rfl (by (try simp only [List.map_toArray,List.map_cons,List.map_nil]); first | done | rfl | (simp only [List.length_drop,List.length_take]; rfl)) ?_; (with_reducible refine(nat_Of.calls (IntKind.u64.wrap ((IntKind.u64.wrap (wrap64 (-(wrap64 (a0+1)))))+1)) t150 _ A3.out).mono ?_); rintro e w4 ⟨v151,rfl,ho0,hb⟩; refine⟨_,rfl,?_⟩; have n0_:=Aside0.mk (Kd.R_lower ho0 (zbs (qb HB.out))); have n1_:=Aside0.mk (zbp (qb HB.out) hb); clear HB; have HO152:=n0_; have HB:=n1_; clear n0_ n1_; (try clear hb); (try clear hb2); (try clear hk); (try clear hi); (try clear ho0)))
  go_ret
  exact⟨_,by first | rfl | (simp [zbz,zbA]<;>rfl) | (simp [*,zbz,zbA]<;>rfl),by (with_reducible repeat (first | apply Kd.R_alloc | apply Kd.R_drewN | apply Kd.R_drew)); exact HO152.out,by repeat (first | (with_reducible first | exact HB.out | apply zbq | apply zbr | apply zbv) | exact HB.out)⟩
 ·
  rw [if_neg c2] at H
  have c2b0:decide (a0 < 0)=false:=decide_eq_false c2
  clear c2
  replace H:=Option.bind_eq_some_iff.mp H
  obtain⟨t153,A50,H⟩:=H
  replace H:(some t153)=some r:=H
  have A5:=Aside0.mk A50
  clear A50
  obtain rfl:=Option.some.inj H
  go_enter Try.func71,Try.ntmps71
  go_wp2_with (first | ((with_reducible refine zbC (f:=92) rfl ?_); refine zbO (some 13) rfl rfl Try.func92 (by kernel_rfl) rfl #[.int .u64 (IntKind.u64.wrap (a0))] rfl (by (try simp only [List.map_toArray,List.map_cons,List.map_nil]); first | done | rfl | (simp only [List.length_drop,List.length_take]; rfl)) ?_; (with_reducible refine(nat_Of.calls (IntKind.u64.wrap (a0)) t153 _ A5.out).mono ?_); rintro e w6 ⟨v154,rfl,ho0,hb⟩; refine⟨_,rfl,?_⟩; have n0_:=Aside0.mk (Kd.R_lower ho0 (zbs (qb HB.out))); have n1_:=Aside0.mk (zbp (qb HB.out) hb); clear HB; have HO155:=n0_; have HB:=n1_; clear n0_ n1_; (try clear hb); (try clear hb2); (try clear hk); (try clear hi); (try clear ho0)))
  go_ret
  exact⟨_,by first | rfl | (simp [zbz,zbA]<;>rfl) | (simp [*,zbz,zbA]<;>rfl),by (with_reducible repeat (first | apply Kd.R_alloc | apply Kd.R_drewN | apply Kd.R_drew)); exact HO155.out,by repeat (first | (with_reducible first | exact HB.out | apply zbq | apply zbr | apply zbv) | exact HB.out)⟩
def rat_Int.f (a0:Int):Option (Bool×List Int×List Int):=(rat_size.f a0).bind fun t157=>((rat_one.f).bind fun t160=>(some (decide (a0 < 0),t157,t160)))
theorem rat_Int.calls (a0:Int) (r1:Bool) (r2:List Int) (r3:List Int) (w:World) (h:rat_Int.f a0=some (r1,r2,r3)) :
  Calls Try.prog 28 #[.int .i64 a0] w fun e w'=>∃ v1_ v2_:Value,e=.returned (.agg #[.bool r1,v1_,v2_])∧Kd.R (Kd.int .u32) 63 w' w.heap.size (fun k_=>some k_≠(v2_:Value).ownBlock) v1_ r2∧Kd.R (Kd.int .u32) 63 w' w.heap.size (fun k_=>some k_≠(v1_:Value).ownBlock) v2_ r3∧Below w.heap.size w w':=by
 have hu25:=Try.underlying25
 have HB:=Aside0.mk (Below.refl w.heap.size w)
 have H:((rat_size.f a0).bind fun t157=>((rat_one.f).bind fun t160=>(some (decide (a0 < 0),t157,t160))))=some (r1,r2,r3):=h
 clear h
 replace H:=Option.bind_eq_some_iff.mp H
 obtain⟨t157,A20,H⟩:=H
 replace H:((rat_one.f).bind fun t160=>(some (decide (a0 < 0),t157,t160)))=some (r1,r2,r3):=H
 have A2:=Aside0.mk A20
 clear A20
 replace H:=Option.bind_eq_some_iff.mp H
 obtain⟨t160,A30,H⟩:=H
 replace H:(some (decide (a0 < 0),t157,t160))=some (r1,r2,r3):=H
 have A3:=Aside0.mk A30
 clear A30
 simp only [Option.some.injEq,Prod.mk.injEq] at H
 obtain⟨rfl,rfl,rfl⟩:=H
 go_enter Try.func28,Try.ntmps28
 go_wp2_with (first | ((with_reducible refine zbG (N:=2) rfl ?_); refine zbF ?hg (N:=2) ?hd (cs:=#[.bool false,.slice none 0 0,.slice none 0 0]) (t:=25) ?hr ?_; (case hd=>rfl); (case hg=>rfl); (case hr=>first | (go_simp; done) | (go_simp; rfl)); intro gb156 hg w4 hbox hb; have n0_:=Aside0.mk (zbp (qb HB.out) hb); have n1_:=Aside0.mk (hbox); have n2_:=Aside0.mk ((by rw [hg]; exact(zbs (qb HB.out)):w.heap.size≤gb156)); have n3_:=Aside0.mk ((by rw [hg]; exact(zbs (qb HB.out)):w.heap.size≤gb156)); clear HB; have HB:=n0_; have BK156:=n1_; have GW156:=n2_; have GE156:=n3_; clear n0_ n1_ n2_ n3_; clear hb hbox hg) | ((with_reducible refine zbC (f:=71) rfl ?_); refine zbO (some 6) rfl rfl Try.func71 (by kernel_rfl) rfl #[.int .i64 a0] rfl (by (try simp only [List.map_toArray,List.map_cons,List.map_nil]); first | done | rfl | (simp only [List.length_drop,List.length_take]; rfl)) ?_; (with_reducible refine(rat_size.calls a0 t157 _ A2.out).mono ?_); rintro e w5 ⟨v158,rfl,ho0,hb⟩; refine⟨_,rfl,?_⟩; have n0_:=Aside0.mk (Kd.R_lower ho0 (zbs (qb1 HB.out GE156.out))); have n1_:=Aside0.mk (zbt (g:=gb156) (o:=.cells #[.bool false,.slice none 0 0,.slice none 0 0] 25 (0,0)) (qk BK156.out) hb); have n2_:=Aside0.mk (zbp (qb1 HB.out GE156.out) hb); clear BK156; clear HB; have HO159:=n0_; have BK156:=n1_; have HB:=n2_; clear n0_ n1_ n2_; (try clear hb); (try clear hb2); (try clear hk); (try clear hi); (try clear ho0)) | ((with_reducible refine zbC (f:=59) rfl ?_); refine zbO (some 7) rfl rfl Try.func59 (by kernel_rfl) rfl #[] rfl (by (try simp only [List.map_toArray,List.map_cons,List.map_nil]); first | done | rfl | (simp only [List.length_drop,List.length_take]; rfl)) ?_; (with_reducible refine(rat_one.calls  t160 _ A3.out).mono ?_); rintro e w6 ⟨v161,rfl,ho0,hb⟩; refine⟨_,rfl,?_⟩; have n0_:=Aside0.mk (Kd.R_elder' (qr HO159.out) (Kd.R_base ho0) hb); have n1_:=Aside0.mk (Kd.R_lower (Kd.R_new' ho0 (Kd.R_lt (qr HO159.out))) (zbs (qb1 HB.out GE156.out))); have n2_:=Aside0.mk (zbt (g:=gb156) (o:=.cells #[.bool false,.slice none 0 0,.slice none 0 0] 25 (0,0)) (qk BK156.out) hb); have n3_:=Aside0.mk (zbp (qb1 HB.out GE156.out) hb); clear HO159; clear BK156; clear HB; have HO159:=n0_; have HO162:=n1_; have BK156:=n2_; have HB:=n3_; clear n0_ n1_ n2_ n3_; (try clear hb); (try clear hb2); (try clear hk); (try clear hi); (try clear ho0); obtain⟨Ao7,co7,eo7⟩:=Kd.R_slice HO162.out; subst eo7; obtain⟨Ao8,co8,eo8⟩:=Kd.R_slice HO159.out; subst eo8; obtain⟨hcz9_0,hcz9_1,hcz9_2,hfz9_0,hfz9_1,hfz9_2⟩:=qz BK156.out))
 refine bodyPost_ret (results_cell_row rfl _ _ gb156 25 #[.bool (decide (a0 < 0)),.slice Ao8 t157.length co8,.slice Ao7 t160.length co7] (0,0) _ rfl (by (with_reducible repeat (first | refine zby ?_ _ | refine zbx ?_ | refine zbw ?_ _)); refine zbK (cs:=#[.bool (decide (a0 < 0)),.slice Ao8 t157.length co8,.slice none 0 0]) ?_ 2 _ rfl; (with_reducible repeat (first | refine zby ?_ _ | refine zbx ?_ | refine zbw ?_ _)); refine zbK (cs:=#[.bool (decide (a0 < 0)),.slice none 0 0,.slice none 0 0]) ?_ 1 _ rfl; (with_reducible repeat (first | refine zby ?_ _ | refine zbx ?_ | refine zbw ?_ _)); refine zbK (cs:=#[.bool false,.slice none 0 0,.slice none 0 0]) ?_ 0 _ rfl; (with_reducible repeat (first | refine zby ?_ _ | refine zbx ?_ | refine zbw ?_ _)); exact BK156.out) Try.underlying25 rfl (by kernel_rfl)) rfl ?_
 exact⟨_,_,by first | rfl | (simp [zbz,zbA]<;>rfl) | (simp [*,zbz,zbA]<;>rfl),by (with_reducible repeat (first | apply Kd.R_alloc | apply Kd.R_drewN | apply Kd.R_drew)); exact Kd.R_mono (Kd.R_far (p:=⟨gb156,2,none⟩) (Kd.R_far (p:=⟨gb156,1,none⟩) (Kd.R_far (p:=⟨gb156,0,none⟩) (Kd.R_types HO159.out BK156.out (by decide)) (fun _ hk=>hk.2) (.bool (decide (a0 < 0)))) (fun _ hk=>hk.2) (.slice Ao8 t157.length co8)) (fun _ hk=>hk.2) (.slice Ao7 t160.length co7)) (fun _ hk=>hk.1.2),by (with_reducible repeat (first | apply Kd.R_alloc | apply Kd.R_drewN | apply Kd.R_drew)); exact Kd.R_mono (Kd.R_far (p:=⟨gb156,2,none⟩) (Kd.R_far (p:=⟨gb156,1,none⟩) (Kd.R_far (p:=⟨gb156,0,none⟩) (Kd.R_types HO162.out BK156.out (by decide)) (fun _ hk=>hk.2) (.bool (decide (a0 < 0)))) (fun _ hk=>hk.2) (.slice Ao8 t157.length co8)) (fun _ hk=>hk.2) (.slice Ao7 t160.length co7)) (fun _ hk=>hk.1.2),by repeat (first | (with_reducible first | exact HB.out | apply zbq | apply zbr | apply zbv | refine zbE ?_ GE156.out) | exact HB.out)⟩
end Go.Proofs.Ytehghijlchpeaaa.H
end
end
section
namespace Go.Proofs.Ytehghijlchpeaaa.Nat1
open Go.RowKit YtehghijlchpeaaaW.PrintWords YtehghijlchpeaaaW.PrintLast YtehghijlchpeaaaW.PrintMore L Nt
def nb (n:Nat):Nat:=if n=0 then 0 else n.log2+1
theorem nb_of {n r:Nat} (h0:n≠0) (h1:2 ^ r≤n) (h2:n < 2 ^ (r+1)):nb n=r+1:=by
 unfold nb
 rw [if_neg h0,(Nat.log2_eq_iff h0).2 ⟨h1,h2⟩]
theorem pow32 (k:Nat):B32 ^ k=2 ^ (32*k):=by rw [Nat.pow_mul]; rfl
theorem can_last {l:List Int} {n:Nat} (hl:l.length=n+1) (hc:can l):lmb l n≠0:=by
 refine hc _ ?_
 rw [List.getLast?_eq_getElem?,hl,Nat.add_sub_cancel]
 unfold lmb
 rw [List.getD_eq_getElem?_getD,List.getElem?_eq_getElem (by omega)]
 rfl
theorem wrap_bits {t y:Nat} (ht:t≤1099511627776) (h1:1≤y) (h2:y≤32):wrap64 (wrap64 (32*(t:Int))+(y:Int))=((32*t+(y-1)+1:Nat):Int):=by
 unfold wrap64
 omega
theorem bits_spec {l:List Int} (h:okL l):∃ k,H.nat_Bits.f k l=some (nb (val B32 l):Int):=by
 have hll:=h.2
 obtain⟨k,t,e1,e2,e3,e4⟩:=top_spec l (by omega)
 refine⟨k,?_⟩
 have ed:=top_dg zbB h.1 e3 e4
 have ht:(dg B32 (val B32 l)).length=t:=by rw [← ed,List.length_take]; omega
 unfold H.nat_Bits.f
 rw [e1,Option.bind_some]
 cases t with
 | zero =>
  rw [if_pos (by rfl)]
  have:val B32 l=0:=(zcg zbB _).1 (List.eq_nil_of_length_eq_zero ht)
  rw [this]
  rfl
 | succ t =>
  have ew:wrap64 (((t+1:Nat):Int)-1)=(t:Int):=by unfold wrap64; omega
  have hx:lmb l t=lmb (dg B32 (val B32 l)) t:=by
   rw [← ed]
   unfold lmb
   rw [List.getD_eq_getElem?_getD,List.getD_eq_getElem?_getD,List.getElem?_take,if_pos (by omega)]
  have hr:=zbI h.1 t
  rw [if_neg (by omega),ew,if_pos (by omega),if_pos (by omega),rd_lmb,bits_Len32.f,if_pos hr,Option.bind_some]
  have hv:=val_top ht
  rw [zbT zbB,← hx] at hv
  have hlo:=zcw (dg_ok zbB (val B32 l)) t
  have hx0:lmb l t≠0:=by rw [hx]; exact can_last ht (dg_can zbB _)
  obtain⟨x,hxx⟩:∃ x:Nat,(lmb l t).toNat=x:=⟨_,rfl⟩
  rw [hxx] at hv ⊢
  obtain⟨b1,b2,b3⟩:1≤Lib.bitLen x∧2 ^ (Lib.bitLen x-1)≤x∧x < 2 ^ Lib.bitLen x:=Lib.bitLenAux_bounds _ x (by omega) (by omega)
  have hb32:Lib.bitLen x≤32:=by
   rcases Nat.lt_or_ge 32 (Lib.bitLen x) with h | h
   ·
    exfalso
    have:2 ^ 32≤2 ^ (Lib.bitLen x-1):=Nat.pow_le_pow_right (by omega) (by omega)
    omega
   ·
    exact h
  generalize Lib.bitLen x=y at *
  generalize zb2 B32 (lmb (dg B32 (val B32 l))) t=lo at *
  rw [pow32] at hlo hv
  have hn:nb (val B32 l)=(32*t+(y-1))+1:=by
   refine nb_of ?_ ?_ ?_
   ·
    have:=Nat.pow_pos (n:=32*t) (show 0 < 2 by omega)
    have:1*2 ^ (32*t)≤x*2 ^ (32*t):=Nat.mul_le_mul_right _ (by omega)
    omega
   ·
    rw [Nat.pow_add,Nat.mul_comm]
    have:=Nat.mul_le_mul_right (2 ^ (32*t)) b2
    omega
   ·
    have h3:(x+1)*2 ^ (32*t)≤2 ^ y*2 ^ (32*t):=Nat.mul_le_mul_right _ b3
    rw [Nat.add_mul,Nat.one_mul] at h3
    rw [show 32*t+(y-1)+1=y+32*t by omega,Nat.pow_add]
    omega
  rw [hn,wrap_bits (by omega) b1 hb32]
theorem mul_loop {l0 l1:List Int} (h0:okD l0) (h1:okD l1) (j:Nat):∀ i,i+j=l1.length→∃ k,∀ k',k≤k'→H.nat_Mul.l0 k' l0 (dg B32 (val B32 l0*zb2 B32 (lmb l1) i)) l1 (l1.length:Int) (i:Int)=some (dg B32 (val B32 l0*val B32 l1)):=by
 induction j with
 | zero =>
  intro i hi
  refine⟨1,fun k' hk=>?_⟩
  obtain⟨k',rfl⟩:∃ q,k'=q+1:=⟨k'-1,by omega⟩
  rw [H.nat_Mul.l0,if_neg (by omega),zco (by omega)]
 | succ j ih =>
  intro i hi
  obtain⟨k,hk⟩:=ih (i+1) (by omega)
  refine⟨k+1,fun k' hk'=>?_⟩
  obtain⟨k',rfl⟩:∃ q,k'=q+1:=⟨k'-1,by omega⟩
  have hb:=h1.2
  have ha:=h0.2
  have hr:=zbI h1.1 i
  have e1:nat_row.f l0 (rd l1 (i:Int)) (i:Int)=some (dg B32 (val B32 l0*(lmb l1 i).toNat*B32 ^ i)):=by
   rw [rd_lmb,nat_row.f,if_pos ⟨h0.okL,hr,by omega,by omega⟩,Int.toNat_natCast]
  have hlen:∀ x n:Nat,x < B32 ^ n→n≤1099511627776→okL (dg B32 x):=fun x n hx hn=>⟨dg_ok zbB _,Nat.le_trans (zbS zbB hx) hn⟩
  have hv0:=val_lt h0.1
  have hs:=zcw h1.1 i
  have l1':val B32 l0*zb2 B32 (lmb l1) i < B32 ^ (l0.length+i):=by
   rw [Nat.pow_add]
   exact Nat.mul_lt_mul'' hv0 hs
  have l2':val B32 l0*(lmb l1 i).toNat*B32 ^ i < B32 ^ (l0.length+1+i):=by
   rw [Nat.pow_add,Nat.pow_succ]
   refine Nat.mul_lt_mul_of_pos_right (Nat.mul_lt_mul'' hv0 ?_) (pow_pos_ i)
   unfold B32
   omega
  have e2:nat_Add.f (dg B32 (val B32 l0*zb2 B32 (lmb l1) i)) (dg B32 (val B32 l0*(lmb l1 i).toNat*B32 ^ i))=some (dg B32 (val B32 l0*zb2 B32 (lmb l1) (i+1))):=by
   rw [nat_Add.f,if_pos ⟨hlen _ _ l1' (by omega),hlen _ _ l2' (by omega)⟩,zbT zbB,zbT zbB,zb2,Nat.mul_add,Nat.mul_assoc]
  rw [H.nat_Mul.l0,if_pos (by omega),if_pos (by omega),if_pos (by omega),e1,Option.bind_some,e2,Option.bind_some,show wrap64 ((i:Int)+1)=((i+1:Nat):Int) by unfold wrap64; omega]
  exact hk k' (by omega)
theorem mul_spec {l0 l1:List Int} (h0:okD l0) (h1:okD l1):∃ k,∀ k',k≤k'→H.nat_Mul.f k' l0 l1=some (dg B32 (val B32 l0*val B32 l1)):=by
 obtain⟨k,hk⟩:=mul_loop h0 h1 l1.length 0 (by omega)
 refine⟨k,fun k' h=>?_⟩
 have:=hk k' h
 simp only [zb2,Nat.mul_zero,zbU] at this
 exact this
theorem dg_okD' {n m:Nat} {l:List Int} (h:okD l) (hn:n≤val B32 l):okD (dg B32 n):=⟨dg_ok zbB _,Nat.le_trans (zbS zbB (Nat.lt_of_le_of_lt hn (val_lt h.1))) h.2⟩
theorem gcd_loop (b:Nat):∀ a,okD (dg B32 a)→okD (dg B32 b)→∃ k,H.quo_Gcd.l0 k (dg B32 a) (dg B32 b)=some (dg B32 (Nat.gcd a b)):=by
 induction b using Nat.strongRecOn with
 | _ b ih =>
  intro a ha hb
  rcases Nat.eq_zero_or_pos b with h0 | h0
  ·
   subst h0
   refine⟨1,?_⟩
   rw [zbU,H.quo_Gcd.l0,if_neg (by simp),Nat.gcd_zero_right]
  ·
   have hne:dg B32 b≠[]:=fun e=>by have:=(zcg zbB b).1 e; omega
   have hpos:=List.length_pos_iff.2 hne
   have hr:okD (dg B32 (a % b)):=dg_okD' (m:=0) hb (by rw [zbT zbB]; exact Nat.le_of_lt (Nat.mod_lt _ h0))
   obtain⟨k,hk⟩:=ih (a % b) (Nat.mod_lt _ h0) b hb hr
   refine⟨k+1,?_⟩
   rw [H.quo_Gcd.l0,if_pos (by omega),quo_DivMod.f,if_pos ⟨ha,hb⟩,zbT zbB,zbT zbB,if_neg (by omega),Option.bind_some]
   simp only []
   rw [hk,Nat.gcd_comm a b,Nat.gcd_rec b a,Nat.gcd_comm]
theorem gcd_spec {l0 l1:List Int} (h0:okD l0) (h1:okD l1):∃ k,H.quo_Gcd.f k l0 l1=some (dg B32 (Nat.gcd (val B32 l0) (val B32 l1))):=by
 obtain⟨k,hk⟩:=gcd_loop (val B32 l1) (val B32 l0) (dg_okD h0 rfl).1 (dg_okD h1 rfl).1
 refine⟨k,?_⟩
 rw [H.quo_Gcd.f,nat_Trim.f,if_pos h0.okL,Option.bind_some,nat_Trim.f,if_pos h1.okL,Option.bind_some,hk]
section
variable (A0:Option Addr) (c0:Nat) (l0:List Int) (A1:Option Addr) (c1:Nat) (l1:List Int) (w:World) (hr0:Kd.C (Kd.int .u32) w A0 l0.length l0) (hc0:l0.length≤c0) (hr1:Kd.C (Kd.int .u32) w A1 l1.length l1) (hc1:l1.length≤c1)
include hr0 hc0
theorem bits_q (h:okL l0):Calls Try.prog 62 #[.slice A0 l0.length c0] w fun e w'=>e=.returned (.int .i64 (nb (val B32 l0):Int))∧Below w.heap.size w w':=by
 obtain⟨k,hk⟩:=bits_spec h
 exact H.nat_Bits.calls k A0 c0 l0 _ w hr0 hc0 hk
include hr1 hc1
theorem gcd_q (h0:okD l0) (h1:okD l1):Calls Try.prog 63 #[.slice A0 l0.length c0,.slice A1 l1.length c1] w fun e w'=>∃ v0_:Value,e=.returned (v0_)∧Kd.R (Kd.int .u32) 63 w' w.heap.size (fun _=>True) v0_ (dg B32 (Nat.gcd (val B32 l0) (val B32 l1)))∧Below w.heap.size w w':=by
 obtain⟨k,hk⟩:=gcd_spec h0 h1
 exact H.quo_Gcd.calls k A0 c0 l0 A1 c1 l1 _ w hr0 hc0 hr1 hc1 hk
theorem mul_q (h0:okD l0) (h1:okD l1):Calls Try.prog 103 #[.slice A0 l0.length c0,.slice A1 l1.length c1] w fun e w'=>∃ v0_:Value,e=.returned (v0_)∧Kd.R (Kd.int .u32) 63 w' w.heap.size (fun _=>True) v0_ (dg B32 (val B32 l0*val B32 l1))∧Below w.heap.size w w':=by
 obtain⟨k,hk⟩:=mul_spec h0 h1
 exact H.nat_Mul.calls k A0 c0 l0 A1 c1 l1 _ w hr0 hc0 hr1 hc1 (hk k (Nat.le_refl _))
theorem by_q (h0:okD l0) (h1:okD l1) (hz:val B32 l1≠0):Calls Try.prog 65 #[.slice A0 l0.length c0,.slice A1 l1.length c1] w fun e w'=>∃ v0_:Value,e=.returned (v0_)∧Kd.R (Kd.int .u32) 63 w' w.heap.size (fun _=>True) v0_ (dg B32 (val B32 l0 / val B32 l1))∧Below w.heap.size w w' :=
 H.rat_by.calls A0 c0 l0 A1 c1 l1 _ w hr0 hc0 hr1 hc1 (by rw [H.rat_by.f,quo_DivMod.f,if_pos ⟨h0,h1⟩,if_neg hz,Option.bind_some])
end
theorem one_q (w:World):Calls Try.prog 59 #[] w fun e w'=>∃ v0_:Value,e=.returned (v0_)∧Kd.R (Kd.int .u32) 63 w' w.heap.size (fun _=>True) v0_ (dg B32 1)∧Below w.heap.size w w' :=
 H.rat_one.calls _ w (by rw [H.rat_one.f,nat_Of.f,if_pos (by omega)]; rfl)
end Go.Proofs.Ytehghijlchpeaaa.Nat1
end
section
namespace Go.Proofs.Ytehghijlchpeaaa.Nat1
open Go.RowKit YtehghijlchpeaaaW.PrintWords YtehghijlchpeaaaW.PrintLast YtehghijlchpeaaaW.PrintMore L Nt
def store3 (W:World) (g:Nat) (a b c:Value):World:=((W.setCell ⟨g,0,none⟩ a).setCell ⟨g,1,none⟩ b).setCell ⟨g,2,none⟩ c
theorem zb0 {W:World} {g t:Nat} {x y z:Value} (h:W.heap[g]? = some (.cells #[x,y,z] t (0,0))) (a b c:Value):(store3 W g a b c).heap[g]? = some (.cells #[a,b,c] t (0,0)) :=
 zbK (cs:=#[a,b,z]) (zbK (cs:=#[a,y,z]) (zbK (cs:=#[x,y,z]) h 0 a rfl) 1 b rfl) 2 c rfl
theorem zbZ {w W:World} {g:Nat} (h:Below w.heap.size w W) (hg:w.heap.size≤g) (a b c:Value):Below w.heap.size w (store3 W g a b c):=zbE (zbE (zbE h hg) hg) hg
theorem store3_R {W:World} {base g:Nat} {ok':Nat→Prop} {v:Value} {xs:List Int} {cs:Array Value} (h:Kd.R (Kd.int .u32) 63 W base ok' v xs) (hg:W.heap[g]? = some (.cells cs 25 (0,0))) (a b c:Value):Kd.R (Kd.int .u32) 63 (store3 W g a b c) base ok' v xs :=
 Kd.R_mono (Kd.R_far (p:=⟨g,2,none⟩) (Kd.R_far (p:=⟨g,1,none⟩) (Kd.R_far (p:=⟨g,0,none⟩) (Kd.R_types h hg (by decide)) (fun _ hk=>hk.2) a) (fun _ hk=>hk.2) b) (fun _ hk=>hk.2) c) (fun _ hk=>hk.1)
theorem store3_eq (W:World) (g:Nat) (a b c:Value):((W.setCell ⟨g,0,none⟩ a).setCell ⟨g,1,none⟩ b).setCell ⟨g,2,none⟩ c=store3 W g a b c:=rfl
theorem zbM {W:World} {g t:Nat} {x y z:Value} (h:W.heap[g]? = some (.cells #[x,y,z] t (0,0))) :
  (W.cell? ⟨g,0,none⟩=some x∧W.cell? ⟨g,1,none⟩=some y∧W.cell? ⟨g,2,none⟩=some z)∧(W.frozen? ⟨g,0,none⟩=false∧W.frozen? ⟨g,1,none⟩=false∧W.frozen? ⟨g,2,none⟩=false):=by
 simp [World.cell?,World.frozen?,h]
def mkR (n:Bool) (a b:Nat):Bool×List Int×List Int×Int :=
 if b=0 then (false,[],[],17) else if a=0 then (false,[],dg B32 1,0) else (n,dg B32 (a / Nat.gcd a b),dg B32 (b / Nat.gcd a b),0)
def MakePost (w:World) (r:Bool×List Int×List Int×Int) (e:Ending) (w':World):Prop :=
 ∃ v1_ v2_:Value,e=.returned (.tuple #[.agg #[.bool r.1,v1_,v2_],.int .i64 r.2.2.2])∧Kd.R (Kd.int .u32) 63 w' w.heap.size (fun k_=>some k_≠(v2_:Value).ownBlock) v1_ r.2.1∧Kd.R (Kd.int .u32) 63 w' w.heap.size (fun k_=>some k_≠(v1_:Value).ownBlock) v2_ r.2.2.1∧Below w.heap.size w w'
theorem part_calls (A0:Option Addr) (c0:Nat) (l0:List Int) (A1:Option Addr) (c1:Nat) (l1:List Int) (g:Nat) (W:World) (hg:W.heap[g]? = some (.cells #[.slice A1 l1.length c1] 23 (0,0))) (hr0:Kd.C (Kd.int .u32) W A0 l0.length l0) (hc0:l0.length≤c0) (hr1:Kd.C (Kd.int .u32) W A1 l1.length l1) (hc1:l1.length≤c1) (h0:okD l0) (h1:okD l1) (hz:val B32 l1≠0) :
  Calls Try.prog 64 #[.slice A0 l0.length c0,.pointer (some ⟨g,0,none⟩)] W fun e w'=>∃ v0_:Value,e=.returned (v0_)∧Kd.R (Kd.int .u32) 63 w' W.heap.size (fun _=>True) v0_ (dg B32 (val B32 l0 / val B32 l1))∧Below W.heap.size W w':=by
 have k0:=cell_of_one hg
 have H:=Aside0.mk (by_q A0 c0 l0 A1 c1 l1 W hr0 hc0 hr1 hc1 h0 h1 hz)
 clear hg hr0 hr1 hc0 hc1 h0 h1 hz
 go_enter Try.func64,Try.ntmps64
 go_wp2_with fail
 refine H.out.mono ?_
 rintro e w1 ⟨v,rfl,hR,hB⟩
 obtain⟨A,c,rfl⟩:=Kd.R_slice hR
 have HR:=Aside0.mk hR
 have HB:=Aside0.mk hB
 clear hR hB
 go_wp2
 go_ret
 exact⟨_,rfl,HR.out,HB.out⟩
section
variable (n:Bool) (A0:Option Addr) (c0:Nat) (l0:List Int) (A1:Option Addr) (c1:Nat) (l1:List Int) (w:World) (hr0:Kd.C (Kd.int .u32) w A0 l0.length l0) (hc0:l0.length≤c0) (hr1:Kd.C (Kd.int .u32) w A1 l1.length l1) (hc1:l1.length≤c1) (h0:okD l0) (h1:okD l1)
include hr0 hc0 hr1 hc1 h0 h1
theorem make_zero (hz:val B32 l1=0):Calls Try.prog 22 #[.bool n,.slice A0 l0.length c0,.slice A1 l1.length c1] w (MakePost w (mkR n (val B32 l0) (val B32 l1))):=by
 have hu25:=Try.underlying25
 rw [mkR,if_pos hz]
 have HB1:=Aside0.mk (fun (W:World) (hb:Below w.heap.size w W)=>bits_q A1 c1 l1 W (Kd.C_below hr1 hb) hc1 h1.okL)
 rw [hz,show nb 0=0 from rfl] at HB1
 clear hr0 hr1 h0 h1 hz
 go_enter Try.func22,Try.ntmps22
 go_wp2_with (first | ((with_reducible refine zbG (N:=6) rfl ?_); refine zbF ?hg (N:=6) ?hd (cs:=#[.bool false,.slice none 0 0,.slice none 0 0]) (t:=25) ?hr ?_; (case hd=>rfl); (case hg=>rfl); (case hr=>first | (go_simp; done) | (go_simp; rfl)); intro gb hgb w1 hbox hb; have HX:=Aside0.mk (And.intro hgb (And.intro hbox hb)); clear hgb hbox hb))
 refine(HB1.out w1 HX.out.2.2).mono ?_
 rintro e w2 ⟨rfl,hB⟩
 have HBX:=Aside0.mk (zbt HX.out.2.1 hB)
 have HB2:=Aside0.mk (zbp HX.out.2.2 hB)
 obtain⟨⟨x0,x1,x2⟩,y0,y1,y2⟩:=zbM HBX.out
 clear hB
 go_wp2
 refine bodyPost_ret (results_ct rfl _ _ gb 25 _ (0,0) _ rfl (zb0 HBX.out _ _ _) Try.underlying25 rfl (by kernel_rfl)) rfl ?_
 exact⟨_,_,rfl,Kd.R_nil _ _ _ _ _,Kd.R_nil _ _ _ _ _,zbZ HB2.out (by rw [HX.out.1]; exact Nat.le_refl _) _ _ _⟩
theorem make_nil (hz:val B32 l1≠0) (hz0:val B32 l0=0):Calls Try.prog 22 #[.bool n,.slice A0 l0.length c0,.slice A1 l1.length c1] w (MakePost w (mkR n (val B32 l0) (val B32 l1))):=by
 have hu25:=Try.underlying25
 rw [mkR,if_neg hz,if_pos hz0]
 have HB1:=Aside0.mk (fun (W:World) (hb:Below w.heap.size w W)=>bits_q A1 c1 l1 W (Kd.C_below hr1 hb) hc1 h1.okL)
 have HB0:=Aside0.mk (fun (W:World) (hb:Below w.heap.size w W)=>bits_q A0 c0 l0 W (Kd.C_below hr0 hb) hc0 h0.okL)
 have hb1:1≤((nb (val B32 l1):Nat):Int):=by unfold nb; rw [if_neg hz]; omega
 rw [hz0,show nb 0=0 from rfl] at HB0
 generalize ((nb (val B32 l1):Nat):Int)=b1 at *
 clear hr0 hr1 h0 h1 hz hz0
 go_enter Try.func22,Try.ntmps22
 go_wp2_with (first | ((with_reducible refine zbG (N:=6) rfl ?_); refine zbF ?hg (N:=6) ?hd (cs:=#[.bool false,.slice none 0 0,.slice none 0 0]) (t:=25) ?hr ?_; (case hd=>rfl); (case hg=>rfl); (case hr=>first | (go_simp; done) | (go_simp; rfl)); intro gb hgb w1 hbox hb; have HX:=Aside0.mk (And.intro hgb (And.intro hbox hb)); clear hgb hbox hb))
 refine(HB1.out w1 HX.out.2.2).mono ?_
 rintro e w2 ⟨rfl,hB⟩
 have HBX:=Aside0.mk (zbt HX.out.2.1 hB)
 have HB2:=Aside0.mk (zbp HX.out.2.2 hB)
 clear hB
 go_wp2_with fail
 refine(HB0.out w2 HB2.out).mono ?_
 rintro e w3 ⟨rfl,hB⟩
 have HBX3:=Aside0.mk (zbt HBX.out hB)
 have HB3:=Aside0.mk (zbp HB2.out hB)
 clear hB
 go_wp2_with fail
 refine(one_q w3).mono ?_
 rintro e w4 ⟨v,rfl,hR,hB⟩
 have HBX4:=Aside0.mk (zbt HBX3.out hB)
 have HB4:=Aside0.mk (zbp HB3.out hB)
 have HR:=Aside0.mk (Kd.R_lower hR HB3.out.size)
 obtain⟨⟨x0,x1,x2⟩,y0,y1,y2⟩:=zbM HBX4.out
 obtain⟨A,c,rfl⟩:=Kd.R_slice hR
 clear hB hR
 go_wp2
 refine bodyPost_ret (results_ct rfl _ _ gb 25 _ (0,0) _ rfl (zb0 HBX4.out _ _ _) Try.underlying25 rfl (by kernel_rfl)) rfl ?_
 exact⟨_,_,rfl,Kd.R_nil _ _ _ _ _,Kd.R_mono (store3_R HR.out HBX4.out _ _ _) (fun k _=>by simp [Value.ownBlock]),zbZ HB4.out (by rw [HX.out.1]; exact Nat.le_refl _) _ _ _⟩
theorem make_go (hz:val B32 l1≠0) (hz0:val B32 l0≠0):Calls Try.prog 22 #[.bool n,.slice A0 l0.length c0,.slice A1 l1.length c1] w (MakePost w (mkR n (val B32 l0) (val B32 l1))):=by
 have hu25:=Try.underlying25
 rw [mkR,if_neg hz,if_neg hz0]
 have HB1:=Aside0.mk (fun (W:World) (hb:Below w.heap.size w W)=>bits_q A1 c1 l1 W (Kd.C_below hr1 hb) hc1 h1.okL)
 have HB0:=Aside0.mk (fun (W:World) (hb:Below w.heap.size w W)=>bits_q A0 c0 l0 W (Kd.C_below hr0 hb) hc0 h0.okL)
 have HG:=Aside0.mk (fun (W:World) (hb:Below w.heap.size w W)=>gcd_q A0 c0 l0 A1 c1 l1 W (Kd.C_below hr0 hb) hc0 (Kd.C_below hr1 hb) hc1 h0 h1)
 have hgk:okD (dg B32 (Nat.gcd (val B32 l0) (val B32 l1))):=dg_okD' (m:=0) h0 (Nat.gcd_le_left _ (Nat.pos_of_ne_zero hz0))
 have hgz:val B32 (dg B32 (Nat.gcd (val B32 l0) (val B32 l1)))≠0:=by
  rw [zbT zbB]
  exact Nat.ne_of_gt (Nat.gcd_pos_of_pos_left _ (Nat.pos_of_ne_zero hz0))
 have HP0:=Aside0.mk (fun (A:Option Addr) (c g:Nat) (W:World) (hg:W.heap[g]? = some (.cells #[.slice A _ c] 23 (0,0))) (hb:Below w.heap.size w W) (hr:Kd.C (Kd.int .u32) W A _ _) hc=>part_calls A0 c0 l0 A c (dg B32 (Nat.gcd (val B32 l0) (val B32 l1))) g W hg (Kd.C_below hr0 hb) hc0 hr hc h0 hgk hgz)
 have HP1:=Aside0.mk (fun (A:Option Addr) (c g:Nat) (W:World) (hg:W.heap[g]? = some (.cells #[.slice A _ c] 23 (0,0))) (hb:Below w.heap.size w W) (hr:Kd.C (Kd.int .u32) W A _ _) hc=>part_calls A1 c1 l1 A c (dg B32 (Nat.gcd (val B32 l0) (val B32 l1))) g W hg (Kd.C_below hr1 hb) hc1 hr hc h1 hgk hgz)
 rw [zbT zbB] at HP0 HP1
 have hb1:1≤((nb (val B32 l1):Nat):Int):=by unfold nb; rw [if_neg hz]; omega
 have hb0:1≤((nb (val B32 l0):Nat):Int):=by unfold nb; rw [if_neg hz0]; omega
 generalize ((nb (val B32 l1):Nat):Int)=b1 at *
 generalize ((nb (val B32 l0):Nat):Int)=b0 at *
 generalize Nat.gcd (val B32 l0) (val B32 l1)=gg at *
 clear hr0 hr1 h0 h1 hz hz0 hgk hgz
 go_enter Try.func22,Try.ntmps22
 go_wp2_with (first | ((with_reducible refine zbG (N:=6) rfl ?_); refine zbF ?hg (N:=6) ?hd (cs:=#[.bool false,.slice none 0 0,.slice none 0 0]) (t:=25) ?hr ?_; (case hd=>rfl); (case hg=>rfl); (case hr=>first | (go_simp; done) | (go_simp; rfl)); intro gb hgb w1 hbox hb; have HX:=Aside0.mk (And.intro hgb (And.intro hbox hb)); clear hgb hbox hb))
 refine(HB1.out w1 HX.out.2.2).mono ?_
 rintro e w2 ⟨rfl,hB⟩
 have HBX:=Aside0.mk (zbt HX.out.2.1 hB)
 have HB2:=Aside0.mk (zbp HX.out.2.2 hB)
 clear hB
 go_wp2_with fail
 refine(HB0.out w2 HB2.out).mono ?_
 rintro e w3 ⟨rfl,hB⟩
 have HBX3:=Aside0.mk (zbt HBX.out hB)
 have HB3:=Aside0.mk (zbp HB2.out hB)
 clear hB
 go_wp2_with fail
 refine(HG.out w3 HB3.out).mono ?_
 rintro e w4 ⟨v,rfl,hR,hB⟩
 have HBX4:=Aside0.mk (zbt HBX3.out hB)
 have HB4:=Aside0.mk (zbp HB3.out hB)
 have HR:=Aside0.mk (Kd.R_lower hR HB3.out.size)
 obtain⟨A,c,rfl⟩:=Kd.R_slice hR
 clear hB hR
 go_wp2_with fail
 obtain⟨W5,hW5⟩:∃ W5,W5=w4.alloc (.cells #[.slice A (dg B32 gg).length c] 23):=⟨_,rfl⟩
 have hB5:Below w4.heap.size w4 W5:=by rw [hW5]; exact zbq (Below.refl _ _) _
 have HG5:=Aside0.mk (show W5.heap[w4.heap.size]? = some (.cells #[.slice A (dg B32 gg).length c] 23 (0,0)) by rw [hW5]; exact zbL _ _)
 have HBX5:=Aside0.mk (zbt HBX4.out hB5)
 have HB5:=Aside0.mk (zbp HB4.out hB5)
 have HR5:=Aside0.mk (Kd.R_below HR.out hB5)
 rw [← hW5]
 clear hW5 hB5
 refine(HP0.out A c w4.heap.size W5 HG5.out HB5.out (Kd.R_reads' HR5.out).2.2 (Kd.R_reads' HR5.out).2.1).mono ?_
 rintro e w6 ⟨v,rfl,hR,hB⟩
 have HBX6:=Aside0.mk (zbt HBX5.out hB)
 have HB6:=Aside0.mk (zbp HB5.out hB)
 have HG6:=Aside0.mk (zbt HG5.out hB)
 have HR6:=Aside0.mk (Kd.R_below HR5.out hB)
 have HN6:=Aside0.mk (Kd.R_lower hR HB5.out.size)
 obtain⟨An,cn,rfl⟩:=Kd.R_slice hR
 clear hB hR
 go_wp2_with fail
 refine(HP1.out A c w4.heap.size w6 HG6.out HB6.out (Kd.R_reads' HR6.out).2.2 (Kd.R_reads' HR6.out).2.1).mono ?_
 rintro e w7 ⟨v,rfl,hR,hB⟩
 have HBX7:=Aside0.mk (zbt HBX6.out hB)
 have HB7:=Aside0.mk (zbp HB6.out hB)
 have HRR:=Aside0.mk (two_apart HN6.out hR hB HB6.out.size)
 obtain⟨Ad,cd,rfl⟩:=Kd.R_slice hR
 obtain⟨⟨x0,x1,x2⟩,y0,y1,y2⟩:=zbM HBX7.out
 clear hB hR
 go_wp2
 refine bodyPost_ret (results_ct rfl _ _ gb 25 _ (0,0) _ rfl (zb0 HBX7.out _ _ _) Try.underlying25 rfl (by kernel_rfl)) rfl ?_
 exact⟨_,_,rfl,store3_R HRR.out.1 HBX7.out _ _ _,store3_R HRR.out.2 HBX7.out _ _ _,zbZ HB7.out (by rw [HX.out.1]; exact Nat.le_refl _) _ _ _⟩
theorem make_q:Calls Try.prog 22 #[.bool n,.slice A0 l0.length c0,.slice A1 l1.length c1] w (MakePost w (mkR n (val B32 l0) (val B32 l1))):=by
 by_cases hz:val B32 l1=0
 ·
  exact make_zero n A0 c0 l0 A1 c1 l1 w hr0 hc0 hr1 hc1 h0 h1 hz
 ·
  by_cases hz0:val B32 l0=0
  ·
   exact make_nil n A0 c0 l0 A1 c1 l1 w hr0 hc0 hr1 hc1 h0 h1 hz hz0
  ·
   exact make_go n A0 c0 l0 A1 c1 l1 w hr0 hc0 hr1 hc1 h0 h1 hz hz0
end
open Classical in
noncomputable def rat_Make.f (a0:Bool) (l1 l2:List Int):Option (Bool×List Int×List Int×Int):=if okD l1∧okD l2 then some (mkR a0 (val B32 l1) (val B32 l2)) else none
theorem rat_Make.calls (a0:Bool) (A1:Option Addr) (c1:Nat) (l1:List Int) (A2:Option Addr) (c2:Nat) (l2:List Int) (r1:Bool) (r2 r3:List Int) (r4:Int) (w:World) (hr1:Kd.C (Kd.int .u32) w A1 l1.length l1) (hc1:l1.length≤c1) (hr2:Kd.C (Kd.int .u32) w A2 l2.length l2) (hc2:l2.length≤c2) (h:rat_Make.f a0 l1 l2=some (r1,r2,r3,r4)) :
  Calls Try.prog 22 #[.bool a0,.slice A1 l1.length c1,.slice A2 l2.length c2] w fun e w'=>∃ v1_ v2_:Value,e=.returned (.tuple #[.agg #[.bool r1,v1_,v2_],.int .i64 r4])∧Kd.R (Kd.int .u32) 63 w' w.heap.size (fun k_=>some k_≠(v2_:Value).ownBlock) v1_ r2∧Kd.R (Kd.int .u32) 63 w' w.heap.size (fun k_=>some k_≠(v1_:Value).ownBlock) v2_ r3∧Below w.heap.size w w':=by
 unfold rat_Make.f at h
 split at h
 ·
  rename_i hk
  have h:=Option.some.inj h
  have:=make_q a0 A1 c1 l1 A2 c2 l2 w hr1 hc1 hr2 hc2 hk.1 hk.2
  rw [h] at this
  exact this
 ·
  cases h
end Go.Proofs.Ytehghijlchpeaaa.Nat1
end
section
noncomputable section
namespace Go.Proofs.Ytehghijlchpeaaa.J
open Go.RowKit Ytehghijlchpeaaa.H Ytehghijlchpeaaa.L Ytehghijlchpeaaa.Nat1 YtehghijlchpeaaaW.PrintWords YtehghijlchpeaaaW.PrintLast YtehghijlchpeaaaW.PrintMore
attribute [local go_sem] zb6 zb4 zca zcb zbY zbX zb5 zb7   -- for this text's walks alone
def errW:Option Int→Value
 | none=>.nilIface
 | some c=>.iface 0 (.int .i64 c)
theorem zbz:errW none=.nilIface:=rfl
theorem zbA (c:Int):errW (some c)=.iface 0 (.int .i64 c):=rfl
theorem info25:(Try.prog.info? 25).map (fun i=>(i.zero,i.size,i.bytes))=some (some (.agg #[(.bool false),(.slice none 0 0),(.slice none 0 0)]),3,56):=by kernel_rfl
structure S25 where
 f0:Bool
 f1:(List Int)
 f2:(List Int)
def z25:S25:=⟨false,([]:List Int),([]:List Int)⟩
def k25:Kd S25:=Kd.iso (Kd.pair Kd.bool (Kd.pair (Kd.slice 63 (Kd.int .u32)) (Kd.slice 63 (Kd.int .u32)))) (fun x:S25=>(x.f0,x.f1,x.f2))
theorem k25_open {w:World} {x:S25} {cs:List Value} (h:k25.K w x cs):∃ A1 c1 A2 c2,cs=[.bool x.f0,.slice A1 x.f1.length c1,.slice A2 x.f2.length c2]∧x.f1.length≤c1∧(Kd.int .u32).C w A1 x.f1.length x.f1∧x.f2.length≤c2∧(Kd.int .u32).C w A2 x.f2.length x.f2:=by
 obtain⟨_,_,rfl,rfl,⟨_,_,rfl,⟨A1,c1,rfl,l1,g1⟩,⟨A2,c2,rfl,l2,g2⟩⟩⟩:=h
 exact⟨A1,c1,A2,c2,rfl,l1,g1,l2,g2⟩
theorem k25_mk (w:World) (x:S25) {A1:Option Addr} {c1:Nat} (l1:x.f1.length≤c1) (g1:(Kd.int .u32).C w A1 x.f1.length x.f1) {A2:Option Addr} {c2:Nat} (l2:x.f2.length≤c2) (g2:(Kd.int .u32).C w A2 x.f2.length x.f2):k25.K w x [.bool x.f0,.slice A1 x.f1.length c1,.slice A2 x.f2.length c2]:=⟨[.bool x.f0],[.slice A1 x.f1.length c1,.slice A2 x.f2.length c2],rfl,rfl,⟨[.slice A1 x.f1.length c1],[.slice A2 x.f2.length c2],rfl,⟨A1,c1,rfl,l1,g1⟩,⟨A2,c2,rfl,l2,g2⟩⟩⟩
theorem k25_mkM (w:World) (base:Nat) (ok:Nat→Prop) (x:S25) {v1:Value} (g1:(Kd.int .u32).R 63 w base ok v1 x.f1) {v2:Value} (g2:(Kd.int .u32).R 63 w base ok v2 x.f2):k25.M w base ok x [.bool x.f0,v1,v2]:=⟨[.bool x.f0],[v1,v2],rfl,rfl,⟨[v1],[v2],rfl,⟨v1,rfl,g1⟩,⟨v2,rfl,g2⟩⟩⟩
def rd_T25 (xs:List S25) (i:Int):S25:=xs.getD i.toNat z25
theorem at_T25 {w:World} {A:Option Addr} {n:Nat} {xs:List S25} (h:Kd.C k25 w A n xs) (i:Int) (h0:0≤i) (h1:i < n):∃ ad A1 c1 A2 c2,A=some ad∧w.cell? (ad.add (i.toNat*3))=some (.bool (rd_T25 xs i).f0)∧w.cell? ⟨(ad.add (i.toNat*3)).block,(ad.add (i.toNat*3)).off+1,none⟩=some (.slice A1 (rd_T25 xs i).f1.length c1)∧w.cell? ⟨(ad.add (i.toNat*3)).block,(ad.add (i.toNat*3)).off+2,none⟩=some (.slice A2 (rd_T25 xs i).f2.length c2)∧(rd_T25 xs i).f1.length≤c1∧(Kd.int .u32).C w A1 (rd_T25 xs i).f1.length (rd_T25 xs i).f1∧(rd_T25 xs i).f2.length≤c2∧(Kd.int .u32).C w A2 (rd_T25 xs i).f2.length (rd_T25 xs i).f2:=by
 obtain⟨ad,c,e,_,hK,hc0⟩:=Kd.C_get h z25 i h0 h1
 have hc:∀ j u,c[j]? = some u→w.cell? (ad.add (i.toNat*3+j))=some u:=hc0
 obtain⟨A1,c1,A2,c2,rfl,l1,g1,l2,g2⟩:=k25_open hK
 exact⟨ad,A1,c1,A2,c2,e,hc 0 _ rfl,by rw [← add_field _ _ 1 (by omega)]; exact hc 1 _ rfl,by rw [← add_field _ _ 2 (by omega)]; exact hc 2 _ rfl,l1,g1,l2,g2⟩
end Go.Proofs.Ytehghijlchpeaaa.J
end
end
section
noncomputable section
namespace Go.Proofs.Ytehghijlchpeaaa.J
open Go.RowKit Ytehghijlchpeaaa.H Ytehghijlchpeaaa.L Ytehghijlchpeaaa.Nat1 YtehghijlchpeaaaW.PrintWords YtehghijlchpeaaaW.PrintLast YtehghijlchpeaaaW.PrintMore
attribute [local go_sem] zb6 zb4 zca zcb zbY zbX zb5 zb7   -- for this text's walks alone
def rat_Norm.f (a0_0:Bool) (l0_1:List Int) (l0_2:List Int):Option (Bool×List Int×List Int):=(rat_Make.f a0_0 l0_1 l0_2).bind fun bt103=>(if bt103.2.2.2=0 then (some (bt103.1,bt103.2.1,bt103.2.2.1)) else ((rat_one.f).bind fun t112=>(some (false,([]:List Int),t112))))
theorem rat_Norm.calls (a0_0:Bool) (A0_1:Option Addr) (c0_1:Nat) (l0_1:List Int) (A0_2:Option Addr) (c0_2:Nat) (l0_2:List Int) (r1:Bool) (r2:List Int) (r3:List Int) (w:World) (hr0_1:Kd.C (Kd.int .u32) w A0_1 l0_1.length l0_1) (hc0_1:l0_1.length≤c0_1) (hr0_2:Kd.C (Kd.int .u32) w A0_2 l0_2.length l0_2) (hc0_2:l0_2.length≤c0_2) (h:rat_Norm.f a0_0 l0_1 l0_2=some (r1,r2,r3)) :
  Calls Try.prog 16 #[.agg #[.bool a0_0,.slice A0_1 l0_1.length c0_1,.slice A0_2 l0_2.length c0_2]] w fun e w'=>∃ v1_ v2_:Value,e=.returned (.agg #[.bool r1,v1_,v2_])∧Kd.R (Kd.int .u32) 63 w' w.heap.size (fun k_=>some k_≠(v2_:Value).ownBlock) v1_ r2∧Kd.R (Kd.int .u32) 63 w' w.heap.size (fun k_=>some k_≠(v1_:Value).ownBlock) v2_ r3∧Below w.heap.size w w':=by
 have hu25:=Try.underlying25
 have HR0_1:=Aside0.mk hr0_1
 have HC0_1:=Aside0.mk hc0_1
 clear hr0_1 hc0_1
 have HR0_2:=Aside0.mk hr0_2
 have HC0_2:=Aside0.mk hc0_2
 clear hr0_2 hc0_2
 have HB:=Aside0.mk (Below.refl w.heap.size w)
 have H:((rat_Make.f a0_0 l0_1 l0_2).bind fun bt103=>(if bt103.2.2.2=0 then (some (bt103.1,bt103.2.1,bt103.2.2.1)) else ((rat_one.f).bind fun t112=>(some (false,([]:List Int),t112)))))=some (r1,r2,r3):=h
 clear h
 replace H:=Option.bind_eq_some_iff.mp H
 obtain⟨⟨t103,t104,t107,t110⟩,A20,H⟩:=H
 replace H:(if t110=0 then (some (t103,t104,t107)) else ((rat_one.f).bind fun t112=>(some (false,([]:List Int),t112))))=some (r1,r2,r3):=H
 have A2:=Aside0.mk A20
 clear A20
 by_cases c3:t110=0
 ·
  rw [if_pos c3] at H
  have c3b0:(t110 == 0)=true:=beq_iff_eq.mpr c3
  have c3b1:(t110 != 0)=false:=bne_eq_false_iff_eq.mpr c3
  clear c3
  simp only [Option.some.injEq,Prod.mk.injEq] at H
  obtain⟨rfl,rfl,rfl⟩:=H
  go_enter Try.func16,Try.ntmps16
  go_wp2_with (first | ((with_reducible refine zbG (N:=1) rfl ?_); refine zbF ?hg (N:=1) ?hd (cs:=#[.bool a0_0,.slice A0_1 l0_1.length c0_1,.slice A0_2 l0_2.length c0_2]) (t:=25) ?hr ?_; (case hd=>rfl); (case hg=>rfl); (case hr=>first | (go_simp; done) | (go_simp; rfl)); intro gb101 hg w4 hbox hb; have n0_:=Aside0.mk (zbp (qb HB.out) hb); have n1_:=Aside0.mk (hbox); have n2_:=Aside0.mk ((by rw [hg]; exact(zbs (qb HB.out)):w.heap.size≤gb101)); have n3_:=Aside0.mk ((by rw [hg]; exact(zbs (qb HB.out)):w.heap.size≤gb101)); clear HB; have HB:=n0_; have BK101:=n1_; have GW101:=n2_; have GE101:=n3_; clear n0_ n1_ n2_ n3_; clear hb hbox hg) | ((with_reducible refine zbG (N:=2) rfl ?_); refine zbF ?hg (N:=2) ?hd (cs:=#[.bool false,.slice none 0 0,.slice none 0 0]) (t:=25) ?hr ?_; (case hd=>rfl); (case hg=>rfl); (case hr=>first | (go_simp; done) | (go_simp; rfl)); intro gb102 hg w5 hbox hb; have n0_:=Aside0.mk (zbt (g:=gb101) (o:=.cells #[.bool a0_0,.slice A0_1 l0_1.length c0_1,.slice A0_2 l0_2.length c0_2] 25 (0,0)) (qk BK101.out) hb); have n1_:=Aside0.mk (zbp (qb1 HB.out GE101.out) hb); have n2_:=Aside0.mk (hbox); have n3_:=Aside0.mk ((by rw [hg]; exact(zbs (qb1 HB.out GE101.out)):w.heap.size≤gb102)); have n4_:=Aside0.mk ((by rw [hg]; exact(zbs (qb1 HB.out GE101.out)):w.heap.size≤gb102)); have n5_:=Aside0.mk ((by rw [hg]; exact Nat.ne_of_lt (zbQ (g:=gb101) (o:=.cells #[.bool a0_0,.slice A0_1 l0_1.length c0_1,.slice A0_2 l0_2.length c0_2] 25 (0,0)) (qk BK101.out)):gb101≠gb102)); have n6_:=Aside0.mk ((by rw [hg]; exact Nat.ne_of_gt (zbQ (g:=gb101) (o:=.cells #[.bool a0_0,.slice A0_1 l0_1.length c0_1,.slice A0_2 l0_2.length c0_2] 25 (0,0)) (qk BK101.out)):gb102≠gb101)); clear BK101; clear HB; have BK101:=n0_; have HB:=n1_; have BK102:=n2_; have GW102:=n3_; have GE102:=n4_; have NB101_102:=n5_; have NB102_101:=n6_; clear n0_ n1_ n2_ n3_ n4_ n5_ n6_; clear hb hbox hg; have hnb6:=NB101_102.out; have hnc6:=NB102_101.out; obtain⟨hcz7_0,hcz7_1,hcz7_2,hfz7_0,hfz7_1,hfz7_2⟩:=qz BK101.out) | ((with_reducible refine zbC (f:=22) rfl ?_); refine zbO (some 12) rfl rfl Try.func22 (by kernel_rfl) rfl #[.bool a0_0,.slice A0_1 l0_1.length c0_1,.slice A0_2 l0_2.length c0_2] rfl (by (try simp only [List.map_toArray,List.map_cons,List.map_nil]); first | done | rfl | (simp only [List.length_drop,List.length_take]; rfl)) ?_; (with_reducible refine(rat_Make.calls a0_0 _ _ l0_1 _ _ l0_2 t103 t104 t107 t110 _ ?side1 ?side2 ?side3 ?side4 A2.out).mono ?_); (case side1=>exact qc (Kd.C_below HR0_1.out HB.out)); (case side2=>exact HC0_1.out); (case side3=>exact qc (Kd.C_below HR0_2.out HB.out)); (case side4=>exact HC0_2.out); rintro e w8 ⟨v105,v108,rfl,ho0,ho1,hb⟩; refine⟨_,rfl,?_⟩; have n0_:=Aside0.mk (Kd.R_lower ho0 (zbs (qb2 HB.out GE101.out GE102.out))); have n1_:=Aside0.mk (Kd.R_lower ho1 (zbs (qb2 HB.out GE101.out GE102.out))); have n2_:=Aside0.mk (zbt (g:=gb101) (o:=.cells #[.bool a0_0,.slice A0_1 l0_1.length c0_1,.slice A0_2 l0_2.length c0_2] 25 (0,0)) (qk BK101.out) hb); have n3_:=Aside0.mk (zbt (g:=gb102) (o:=.cells #[.bool false,.slice none 0 0,.slice none 0 0] 25 (0,0)) (qk BK102.out) hb); have n4_:=Aside0.mk (zbp (qb2 HB.out GE101.out GE102.out) hb); clear BK101; clear BK102; clear HB; have HO106:=n0_; have HO109:=n1_; have BK101:=n2_; have BK102:=n3_; have HB:=n4_; clear n0_ n1_ n2_ n3_ n4_; (try clear hb); (try clear hb2); (try clear hk); (try clear hi); (try clear ho0); (try clear ho1)) | ((with_reducible refine zbG (N:=3) rfl ?_); refine zbF ?hg (N:=3) ?hd (cs:=#[.bool false,.slice none 0 0,.slice none 0 0]) (t:=25) ?hr ?_; (case hd=>rfl); (case hg=>rfl); (case hr=>first | (go_simp; done) | (go_simp; rfl)); intro gb111 hg w9 hbox hb; have n0_:=Aside0.mk (Kd.R_below (qr HO106.out) hb); have n1_:=Aside0.mk (Kd.R_below (qr HO109.out) hb); have n2_:=Aside0.mk (zbt (g:=gb101) (o:=.cells #[.bool a0_0,.slice A0_1 l0_1.length c0_1,.slice A0_2 l0_2.length c0_2] 25 (0,0)) (qk BK101.out) hb); have n3_:=Aside0.mk (zbt (g:=gb102) (o:=.cells #[.bool false,.slice none 0 0,.slice none 0 0] 25 (0,0)) (qk BK102.out) hb); have n4_:=Aside0.mk (zbp (qb2 HB.out GE101.out GE102.out) hb); have n5_:=Aside0.mk (hbox); have n6_:=Aside0.mk ((by rw [hg]; exact(zbs (qb2 HB.out GE101.out GE102.out)):w.heap.size≤gb111)); have n7_:=Aside0.mk ((by rw [hg]; exact(zbs (qb2 HB.out GE101.out GE102.out)):w.heap.size≤gb111)); have n8_:=Aside0.mk ((by rw [hg]; exact Nat.ne_of_lt (zbQ (g:=gb101) (o:=.cells #[.bool a0_0,.slice A0_1 l0_1.length c0_1,.slice A0_2 l0_2.length c0_2] 25 (0,0)) (qk BK101.out)):gb101≠gb111)); have n9_:=Aside0.mk ((by rw [hg]; exact Nat.ne_of_gt (zbQ (g:=gb101) (o:=.cells #[.bool a0_0,.slice A0_1 l0_1.length c0_1,.slice A0_2 l0_2.length c0_2] 25 (0,0)) (qk BK101.out)):gb111≠gb101)); have n10_:=Aside0.mk ((by rw [hg]; exact Nat.ne_of_lt (zbQ (g:=gb102) (o:=.cells #[.bool false,.slice none 0 0,.slice none 0 0] 25 (0,0)) (qk BK102.out)):gb102≠gb111)); have n11_:=Aside0.mk ((by rw [hg]; exact Nat.ne_of_gt (zbQ (g:=gb102) (o:=.cells #[.bool false,.slice none 0 0,.slice none 0 0] 25 (0,0)) (qk BK102.out)):gb111≠gb102)); clear HO106; clear HO109; clear BK101; clear BK102; clear HB; have HO106:=n0_; have HO109:=n1_; have BK101:=n2_; have BK102:=n3_; have HB:=n4_; have BK111:=n5_; have GW111:=n6_; have GE111:=n7_; have NB101_111:=n8_; have NB111_101:=n9_; have NB102_111:=n10_; have NB111_102:=n11_; clear n0_ n1_ n2_ n3_ n4_ n5_ n6_ n7_ n8_ n9_ n10_ n11_; clear hb hbox hg; have hnb10:=NB111_101.out; have hnc10:=NB101_111.out; have hnb11:=NB111_102.out; have hnc11:=NB102_111.out; obtain⟨hcz12_0,hcz12_1,hcz12_2,hfz12_0,hfz12_1,hfz12_2⟩:=qz BK111.out; obtain⟨Ao13,co13,eo13⟩:=Kd.R_slice HO106.out; subst eo13; obtain⟨Ao14,co14,eo14⟩:=Kd.R_slice HO109.out; subst eo14; obtain⟨hcz15_0,hcz15_1,hcz15_2,hfz15_0,hfz15_1,hfz15_2⟩:=qz BK102.out))
  refine bodyPost_ret (results_cell_row rfl _ _ gb102 25 #[.bool t103,.slice Ao13 t104.length co13,.slice Ao14 t107.length co14] (0,0) _ rfl (by (with_reducible repeat (first | refine zby ?_ _ | refine zbx ?_ | refine zbw ?_ _)); refine zbK (cs:=#[.bool t103,.slice Ao13 t104.length co13,.slice none 0 0]) ?_ 2 _ rfl; (with_reducible repeat (first | refine zby ?_ _ | refine zbx ?_ | refine zbw ?_ _)); refine zbK (cs:=#[.bool t103,.slice none 0 0,.slice none 0 0]) ?_ 1 _ rfl; (with_reducible repeat (first | refine zby ?_ _ | refine zbx ?_ | refine zbw ?_ _)); refine zbK (cs:=#[.bool false,.slice none 0 0,.slice none 0 0]) ?_ 0 _ rfl; (with_reducible repeat (first | refine zby ?_ _ | refine zbx ?_ | refine zbw ?_ _)); refine zbP ?_ NB102_111.out _; (with_reducible repeat (first | refine zby ?_ _ | refine zbx ?_ | refine zbw ?_ _)); refine zbP ?_ NB102_111.out _; (with_reducible repeat (first | refine zby ?_ _ | refine zbx ?_ | refine zbw ?_ _)); refine zbP ?_ NB102_111.out _; (with_reducible repeat (first | refine zby ?_ _ | refine zbx ?_ | refine zbw ?_ _)); exact BK102.out) Try.underlying25 rfl (by kernel_rfl)) rfl ?_
  exact⟨_,_,by first | rfl | (simp [zbz,zbA]<;>rfl) | (simp [*,zbz,zbA]<;>rfl),by (with_reducible repeat (first | apply Kd.R_alloc | apply Kd.R_drewN | apply Kd.R_drew)); exact Kd.R_mono (Kd.R_far (p:=⟨gb102,2,none⟩) (Kd.R_far (p:=⟨gb102,1,none⟩) (Kd.R_far (p:=⟨gb102,0,none⟩) (Kd.R_far (p:=⟨gb111,2,none⟩) (Kd.R_far (p:=⟨gb111,1,none⟩) (Kd.R_far (p:=⟨gb111,0,none⟩) (Kd.R_types (Kd.R_types HO106.out BK111.out (by decide)) BK102.out (by decide)) (fun _ hk=>hk.1.2) (.bool t103)) (fun _ hk=>hk.1.2) (.slice Ao13 t104.length co13)) (fun _ hk=>hk.1.2) (.slice Ao14 t107.length co14)) (fun _ hk=>hk.2) (.bool t103)) (fun _ hk=>hk.2) (.slice Ao13 t104.length co13)) (fun _ hk=>hk.2) (.slice Ao14 t107.length co14)) (fun _ hk=>hk.1.1),by (with_reducible repeat (first | apply Kd.R_alloc | apply Kd.R_drewN | apply Kd.R_drew)); exact Kd.R_mono (Kd.R_far (p:=⟨gb102,2,none⟩) (Kd.R_far (p:=⟨gb102,1,none⟩) (Kd.R_far (p:=⟨gb102,0,none⟩) (Kd.R_far (p:=⟨gb111,2,none⟩) (Kd.R_far (p:=⟨gb111,1,none⟩) (Kd.R_far (p:=⟨gb111,0,none⟩) (Kd.R_types (Kd.R_types HO109.out BK111.out (by decide)) BK102.out (by decide)) (fun _ hk=>hk.1.2) (.bool t103)) (fun _ hk=>hk.1.2) (.slice Ao13 t104.length co13)) (fun _ hk=>hk.1.2) (.slice Ao14 t107.length co14)) (fun _ hk=>hk.2) (.bool t103)) (fun _ hk=>hk.2) (.slice Ao13 t104.length co13)) (fun _ hk=>hk.2) (.slice Ao14 t107.length co14)) (fun _ hk=>hk.1.1),by repeat (first | (with_reducible first | exact HB.out | apply zbq | apply zbr | apply zbv | refine zbE ?_ GE101.out | refine zbE ?_ GE102.out | refine zbE ?_ GE111.out) | exact HB.out)⟩
 ·
  rw [if_neg c3] at H
  have c3b0:(t110 == 0)=false:=beq_eq_false_iff_ne.mpr c3
  have c3b1:(t110 != 0)=true:=bne_iff_ne.mpr c3
  replace H:=Option.bind_eq_some_iff.mp H
  obtain⟨t112,A160,H⟩:=H
  replace H:(some (false,([]:List Int),t112))=some (r1,r2,r3):=H
  have A16:=Aside0.mk A160
  clear A160
  simp only [Option.some.injEq,Prod.mk.injEq] at H
  obtain⟨rfl,rfl,rfl⟩:=H
  go_enter Try.func16,Try.ntmps16
  go_wp2_with (first | ((with_reducible refine zbG (N:=1) rfl ?_); refine zbF ?hg (N:=1) ?hd (cs:=#[.bool a0_0,.slice A0_1 l0_1.length c0_1,.slice A0_2 l0_2.length c0_2]) (t:=25) ?hr ?_; (case hd=>rfl); (case hg=>rfl); (case hr=>first | (go_simp; done) | (go_simp; rfl)); intro gb101 hg w17 hbox hb; have n0_:=Aside0.mk (zbp (qb HB.out) hb); have n1_:=Aside0.mk (hbox); have n2_:=Aside0.mk ((by rw [hg]; exact(zbs (qb HB.out)):w.heap.size≤gb101)); have n3_:=Aside0.mk ((by rw [hg]; exact(zbs (qb HB.out)):w.heap.size≤gb101)); clear HB; have HB:=n0_; have BK101:=n1_; have GW101:=n2_; have GE101:=n3_; clear n0_ n1_ n2_ n3_; clear hb hbox hg) | ((with_reducible refine zbG (N:=2) rfl ?_); refine zbF ?hg (N:=2) ?hd (cs:=#[.bool false,.slice none 0 0,.slice none 0 0]) (t:=25) ?hr ?_; (case hd=>rfl); (case hg=>rfl); (case hr=>first | (go_simp; done) | (go_simp; rfl)); intro gb102 hg w18 hbox hb; have n0_:=Aside0.mk (zbt (g:=gb101) (o:=.cells #[.bool a0_0,.slice A0_1 l0_1.length c0_1,.slice A0_2 l0_2.length c0_2] 25 (0,0)) (qk BK101.out) hb); have n1_:=Aside0.mk (zbp (qb1 HB.out GE101.out) hb); have n2_:=Aside0.mk (hbox); have n3_:=Aside0.mk ((by rw [hg]; exact(zbs (qb1 HB.out GE101.out)):w.heap.size≤gb102)); have n4_:=Aside0.mk ((by rw [hg]; exact(zbs (qb1 HB.out GE101.out)):w.heap.size≤gb102)); have n5_:=Aside0.mk ((by rw [hg]; exact Nat.ne_of_lt (zbQ (g:=gb101) (o:=.cells #[.bool a0_0,.slice A0_1 l0_1.length c0_1,.slice A0_2 l0_2.length c0_2] 25 (0,0)) (qk BK101.out)):gb101≠gb102)); have n6_:=Aside0.mk ((by rw [hg]; exact Nat.ne_of_gt (zbQ (g:=gb101) (o:=.cells #[.bool a0_0,.slice A0_1 l0_1.length c0_1,.slice A0_2 l0_2.length c0_2] 25 (0,0)) (qk BK101.out)):gb102≠gb101)); clear BK101; clear HB; have BK101:=n0_; have HB:=n1_; have BK102:=n2_; have GW102:=n3_; have GE102:=n4_; have NB101_102:=n5_; have NB102_101:=n6_; clear n0_ n1_ n2_ n3_ n4_ n5_ n6_; clear hb hbox hg; have hnb19:=NB101_102.out; have hnc19:=NB102_101.out; obtain⟨hcz20_0,hcz20_1,hcz20_2,hfz20_0,hfz20_1,hfz20_2⟩:=qz BK101.out) | ((with_reducible refine zbC (f:=22) rfl ?_); refine zbO (some 12) rfl rfl Try.func22 (by kernel_rfl) rfl #[.bool a0_0,.slice A0_1 l0_1.length c0_1,.slice A0_2 l0_2.length c0_2] rfl (by (try simp only [List.map_toArray,List.map_cons,List.map_nil]); first | done | rfl | (simp only [List.length_drop,List.length_take]; rfl)) ?_; (with_reducible refine(rat_Make.calls a0_0 _ _ l0_1 _ _ l0_2 t103 t104 t107 t110 _ ?side1 ?side2 ?side3 ?side4 A2.out).mono ?_); (case side1=>exact qc (Kd.C_below HR0_1.out HB.out)); (case side2=>exact HC0_1.out); (case side3=>exact qc (Kd.C_below HR0_2.out HB.out)); (case side4=>exact HC0_2.out); rintro e w21 ⟨v105,v108,rfl,ho0,ho1,hb⟩; refine⟨_,rfl,?_⟩; have n0_:=Aside0.mk (Kd.R_lower ho0 (zbs (qb2 HB.out GE101.out GE102.out))); have n1_:=Aside0.mk (Kd.R_lower ho1 (zbs (qb2 HB.out GE101.out GE102.out))); have n2_:=Aside0.mk (zbt (g:=gb101) (o:=.cells #[.bool a0_0,.slice A0_1 l0_1.length c0_1,.slice A0_2 l0_2.length c0_2] 25 (0,0)) (qk BK101.out) hb); have n3_:=Aside0.mk (zbt (g:=gb102) (o:=.cells #[.bool false,.slice none 0 0,.slice none 0 0] 25 (0,0)) (qk BK102.out) hb); have n4_:=Aside0.mk (zbp (qb2 HB.out GE101.out GE102.out) hb); clear BK101; clear BK102; clear HB; have HO106:=n0_; have HO109:=n1_; have BK101:=n2_; have BK102:=n3_; have HB:=n4_; clear n0_ n1_ n2_ n3_ n4_; (try clear hb); (try clear hb2); (try clear hk); (try clear hi); (try clear ho0); (try clear ho1)) | ((with_reducible refine zbG (N:=3) rfl ?_); refine zbF ?hg (N:=3) ?hd (cs:=#[.bool false,.slice none 0 0,.slice none 0 0]) (t:=25) ?hr ?_; (case hd=>rfl); (case hg=>rfl); (case hr=>first | (go_simp; done) | (go_simp; rfl)); intro gb111 hg w22 hbox hb; have n0_:=Aside0.mk (Kd.R_below (qr HO106.out) hb); have n1_:=Aside0.mk (Kd.R_below (qr HO109.out) hb); have n2_:=Aside0.mk (zbt (g:=gb101) (o:=.cells #[.bool a0_0,.slice A0_1 l0_1.length c0_1,.slice A0_2 l0_2.length c0_2] 25 (0,0)) (qk BK101.out) hb); have n3_:=Aside0.mk (zbt (g:=gb102) (o:=.cells #[.bool false,.slice none 0 0,.slice none 0 0] 25 (0,0)) (qk BK102.out) hb); have n4_:=Aside0.mk (zbp (qb2 HB.out GE101.out GE102.out) hb); have n5_:=Aside0.mk (hbox); have n6_:=Aside0.mk ((by rw [hg]; exact(zbs (qb2 HB.out GE101.out GE102.out)):w.heap.size≤gb111)); have n7_:=Aside0.mk ((by rw [hg]; exact(zbs (qb2 HB.out GE101.out GE102.out)):w.heap.size≤gb111)); have n8_:=Aside0.mk ((by rw [hg]; exact Nat.ne_of_lt (zbQ (g:=gb101) (o:=.cells #[.bool a0_0,.slice A0_1 l0_1.length c0_1,.slice A0_2 l0_2.length c0_2] 25 (0,0)) (qk BK101.out)):gb101≠gb111)); have n9_:=Aside0.mk ((by rw [hg]; exact Nat.ne_of_gt (zbQ (g:=gb101) (o:=.cells #[.bool a0_0,.slice A0_1 l0_1.length c0_1,.slice A0_2 l0_2.length c0_2] 25 (0,0)) (qk BK101.out)):gb111≠gb101)); have n10_:=Aside0.mk ((by rw [hg]; exact Nat.ne_of_lt (zbQ (g:=gb102) (o:=.cells #[.bool false,.slice none 0 0,.slice none 0 0] 25 (0,0)) (qk BK102.out)):gb102≠gb111)); have n11_:=Aside0.mk ((by rw [hg]; exact Nat.ne_of_gt (zbQ (g:=gb102) (o:=.cells #[.bool false,.slice none 0 0,.slice none 0 0] 25 (0,0)) (qk BK102.out)):gb111≠gb102)); clear HO106; clear HO109; clear BK101; clear BK102; clear HB; have HO106:=n0_; have HO109:=n1_; have BK101:=n2_; have BK102:=n3_; have HB:=n4_; have BK111:=n5_; have GW111:=n6_; have GE111:=n7_; have NB101_111:=n8_; have NB111_101:=n9_; have NB102_111:=n10_; have NB111_102:=n11_; clear n0_ n1_ n2_ n3_ n4_ n5_ n6_ n7_ n8_ n9_ n10_ n11_; clear hb hbox hg; have hnb23:=NB111_101.out; have hnc23:=NB101_111.out; have hnb24:=NB111_102.out; have hnc24:=NB102_111.out; obtain⟨hcz25_0,hcz25_1,hcz25_2,hfz25_0,hfz25_1,hfz25_2⟩:=qz BK111.out; obtain⟨Ao26,co26,eo26⟩:=Kd.R_slice HO106.out; subst eo26; obtain⟨Ao27,co27,eo27⟩:=Kd.R_slice HO109.out; subst eo27) | ((with_reducible refine zbC (f:=59) rfl ?_); refine zbO (some 17) rfl rfl Try.func59 (by kernel_rfl) rfl #[] rfl (by (try simp only [List.map_toArray,List.map_cons,List.map_nil]); first | done | rfl | (simp only [List.length_drop,List.length_take]; rfl)) ?_; (with_reducible refine(rat_one.calls  t112 _ A16.out).mono ?_); rintro e w28 ⟨v113,rfl,ho0,hb⟩; refine⟨_,rfl,?_⟩; have n0_:=Aside0.mk (Kd.R_elder' (by (with_reducible repeat (first | apply Kd.R_alloc | apply Kd.R_drewN | apply Kd.R_drew)); exact(Kd.R_mono (Kd.R_far (p:=⟨gb111,2,none⟩) (Kd.R_far (p:=⟨gb111,1,none⟩) (Kd.R_far (p:=⟨gb111,0,none⟩) (Kd.R_types HO106.out BK111.out (by decide)) (fun _ hk=>hk.2) (.bool t103)) (fun _ hk=>hk.2) (.slice Ao26 t104.length co26)) (fun _ hk=>hk.2) (.slice Ao27 t107.length co27)) (fun _ h_=>h_.1))) (Kd.R_base ho0) hb); have n1_:=Aside0.mk (Kd.R_elder' (by (with_reducible repeat (first | apply Kd.R_alloc | apply Kd.R_drewN | apply Kd.R_drew)); exact(Kd.R_mono (Kd.R_far (p:=⟨gb111,2,none⟩) (Kd.R_far (p:=⟨gb111,1,none⟩) (Kd.R_far (p:=⟨gb111,0,none⟩) (Kd.R_types HO109.out BK111.out (by decide)) (fun _ hk=>hk.2) (.bool t103)) (fun _ hk=>hk.2) (.slice Ao26 t104.length co26)) (fun _ hk=>hk.2) (.slice Ao27 t107.length co27)) (fun _ h_=>h_.1))) (Kd.R_base ho0) hb); have n2_:=Aside0.mk (Kd.R_lower (Kd.R_new' (Kd.R_new' ho0 (Kd.R_lt (by (with_reducible repeat (first | apply Kd.R_alloc | apply Kd.R_drewN | apply Kd.R_drew)); exact(Kd.R_mono (Kd.R_far (p:=⟨gb111,2,none⟩) (Kd.R_far (p:=⟨gb111,1,none⟩) (Kd.R_far (p:=⟨gb111,0,none⟩) (Kd.R_types HO106.out BK111.out (by decide)) (fun _ hk=>hk.2) (.bool t103)) (fun _ hk=>hk.2) (.slice Ao26 t104.length co26)) (fun _ hk=>hk.2) (.slice Ao27 t107.length co27)) (fun _ h_=>h_.1))))) (Kd.R_lt (by (with_reducible repeat (first | apply Kd.R_alloc | apply Kd.R_drewN | apply Kd.R_drew)); exact(Kd.R_mono (Kd.R_far (p:=⟨gb111,2,none⟩) (Kd.R_far (p:=⟨gb111,1,none⟩) (Kd.R_far (p:=⟨gb111,0,none⟩) (Kd.R_types HO109.out BK111.out (by decide)) (fun _ hk=>hk.2) (.bool t103)) (fun _ hk=>hk.2) (.slice Ao26 t104.length co26)) (fun _ hk=>hk.2) (.slice Ao27 t107.length co27)) (fun _ h_=>h_.1))))) (zbs (qb3 HB.out GE101.out GE102.out GE111.out))); have n3_:=Aside0.mk (zbt (g:=gb101) (o:=.cells #[.bool a0_0,.slice A0_1 l0_1.length c0_1,.slice A0_2 l0_2.length c0_2] 25 (0,0)) (by (with_reducible repeat (first | refine zby ?_ _ | refine zbx ?_ | refine zbw ?_ _)); refine zbP ?_ NB101_111.out _; (with_reducible repeat (first | refine zby ?_ _ | refine zbx ?_ | refine zbw ?_ _)); refine zbP ?_ NB101_111.out _; (with_reducible repeat (first | refine zby ?_ _ | refine zbx ?_ | refine zbw ?_ _)); refine zbP ?_ NB101_111.out _; (with_reducible repeat (first | refine zby ?_ _ | refine zbx ?_ | refine zbw ?_ _)); exact BK101.out) hb); have n4_:=Aside0.mk (zbt (g:=gb102) (o:=.cells #[.bool false,.slice none 0 0,.slice none 0 0] 25 (0,0)) (by (with_reducible repeat (first | refine zby ?_ _ | refine zbx ?_ | refine zbw ?_ _)); refine zbP ?_ NB102_111.out _; (with_reducible repeat (first | refine zby ?_ _ | refine zbx ?_ | refine zbw ?_ _)); refine zbP ?_ NB102_111.out _; (with_reducible repeat (first | refine zby ?_ _ | refine zbx ?_ | refine zbw ?_ _)); refine zbP ?_ NB102_111.out _; (with_reducible repeat (first | refine zby ?_ _ | refine zbx ?_ | refine zbw ?_ _)); exact BK102.out) hb); have n5_:=Aside0.mk (zbt (g:=gb111) (o:=.cells #[.bool t103,.slice Ao26 t104.length co26,.slice Ao27 t107.length co27] 25 (0,0)) (by (with_reducible repeat (first | refine zby ?_ _ | refine zbx ?_ | refine zbw ?_ _)); refine zbK (cs:=#[.bool t103,.slice Ao26 t104.length co26,.slice none 0 0]) ?_ 2 _ rfl; (with_reducible repeat (first | refine zby ?_ _ | refine zbx ?_ | refine zbw ?_ _)); refine zbK (cs:=#[.bool t103,.slice none 0 0,.slice none 0 0]) ?_ 1 _ rfl; (with_reducible repeat (first | refine zby ?_ _ | refine zbx ?_ | refine zbw ?_ _)); refine zbK (cs:=#[.bool false,.slice none 0 0,.slice none 0 0]) ?_ 0 _ rfl; (with_reducible repeat (first | refine zby ?_ _ | refine zbx ?_ | refine zbw ?_ _)); exact BK111.out) hb); have n6_:=Aside0.mk (zbp (qb3 HB.out GE101.out GE102.out GE111.out) hb); clear HO106; clear HO109; clear BK101; clear BK102; clear BK111; clear HB; have HO106:=n0_; have HO109:=n1_; have HO114:=n2_; have BK101:=n3_; have BK102:=n4_; have BK111:=n5_; have HB:=n6_; clear n0_ n1_ n2_ n3_ n4_ n5_ n6_; (try clear hb); (try clear hb2); (try clear hk); (try clear hi); (try clear ho0); obtain⟨Ao29,co29,eo29⟩:=Kd.R_slice HO114.out; subst eo29; obtain⟨hcz30_0,hcz30_1,hcz30_2,hfz30_0,hfz30_1,hfz30_2⟩:=qz BK102.out))
  refine bodyPost_ret (results_cell_row rfl _ _ gb102 25 #[.bool false,.slice none 0 0,.slice Ao29 t112.length co29] (0,0) _ rfl (by (with_reducible repeat (first | refine zby ?_ _ | refine zbx ?_ | refine zbw ?_ _)); refine zbK (cs:=#[.bool false,.slice none 0 0,.slice none 0 0]) ?_ 2 _ rfl; (with_reducible repeat (first | refine zby ?_ _ | refine zbx ?_ | refine zbw ?_ _)); refine zbK (cs:=#[.bool false,.slice none 0 0,.slice none 0 0]) ?_ 1 _ rfl; (with_reducible repeat (first | refine zby ?_ _ | refine zbx ?_ | refine zbw ?_ _)); refine zbK (cs:=#[.bool false,.slice none 0 0,.slice none 0 0]) ?_ 0 _ rfl; (with_reducible repeat (first | refine zby ?_ _ | refine zbx ?_ | refine zbw ?_ _)); exact BK102.out) Try.underlying25 rfl (by kernel_rfl)) rfl ?_
  exact⟨_,_,by first | rfl | (simp [zbz,zbA]<;>rfl) | (simp [*,zbz,zbA]<;>rfl),by first | exact Kd.R_nil _ _ _ _ _ | exact Kd.N_nil _ _ _ _ _ | exact Kd.V_nil _ _ _ _ _ | exact Kd.Q_nil _ _ _ _ _ | exact Kd.S_nil _ _ _ _ _,by (with_reducible repeat (first | apply Kd.R_alloc | apply Kd.R_drewN | apply Kd.R_drew)); exact Kd.R_mono (Kd.R_far (p:=⟨gb102,2,none⟩) (Kd.R_far (p:=⟨gb102,1,none⟩) (Kd.R_far (p:=⟨gb102,0,none⟩) (Kd.R_types HO114.out BK102.out (by decide)) (fun _ hk=>hk.2) (.bool false)) (fun _ hk=>hk.2) (.slice none 0 0)) (fun _ hk=>hk.2) (.slice Ao29 t112.length co29)) (fun _ hk=>(by simp [Value.ownBlock])),by repeat (first | (with_reducible first | exact HB.out | apply zbq | apply zbr | apply zbv | refine zbE ?_ GE101.out | refine zbE ?_ GE102.out | refine zbE ?_ GE111.out) | exact HB.out)⟩
def rat_May.f (a0_0:Bool) (l0_1:List Int) (l0_2:List Int):Option (Int):=(rat_Norm.f a0_0 l0_1 l0_2).bind fun bt131=>(if (bt131.1 != a0_0)=true then (some 6) else ((rat_limbs.f bt131.2.1 l0_1).bind fun t139=>(if t139=true then ((rat_limbs.f bt131.2.2 l0_2).bind fun t140=>(if t140=true then (some 0) else (some 6))) else (some 6))))
theorem rat_May.calls (a0_0:Bool) (A0_1:Option Addr) (c0_1:Nat) (l0_1:List Int) (A0_2:Option Addr) (c0_2:Nat) (l0_2:List Int) (r:Int) (w:World) (hr0_1:Kd.C (Kd.int .u32) w A0_1 l0_1.length l0_1) (hc0_1:l0_1.length≤c0_1) (hr0_2:Kd.C (Kd.int .u32) w A0_2 l0_2.length l0_2) (hc0_2:l0_2.length≤c0_2) (h:rat_May.f a0_0 l0_1 l0_2=some r) :
  Calls Try.prog 18 #[.agg #[.bool a0_0,.slice A0_1 l0_1.length c0_1,.slice A0_2 l0_2.length c0_2]] w fun e w'=>e=.returned (.int .i64 r)∧Below w.heap.size w w':=by
 have hu25:=Try.underlying25
 have HR0_1:=Aside0.mk hr0_1
 have HC0_1:=Aside0.mk hc0_1
 clear hr0_1 hc0_1
 have HR0_2:=Aside0.mk hr0_2
 have HC0_2:=Aside0.mk hc0_2
 clear hr0_2 hc0_2
 have HB:=Aside0.mk (Below.refl w.heap.size w)
 have H:((rat_Norm.f a0_0 l0_1 l0_2).bind fun bt131=>(if (bt131.1 != a0_0)=true then (some 6) else ((rat_limbs.f bt131.2.1 l0_1).bind fun t139=>(if t139=true then ((rat_limbs.f bt131.2.2 l0_2).bind fun t140=>(if t140=true then (some 0) else (some 6))) else (some 6)))))=some r:=h
 clear h
 replace H:=Option.bind_eq_some_iff.mp H
 obtain⟨⟨t131,t132,t135⟩,A20,H⟩:=H
 replace H:(if (t131 != a0_0)=true then (some 6) else ((rat_limbs.f t132 l0_1).bind fun t139=>(if t139=true then ((rat_limbs.f t135 l0_2).bind fun t140=>(if t140=true then (some 0) else (some 6))) else (some 6))))=some r:=H
 have A2:=Aside0.mk A20
 clear A20
 by_cases c3:(t131 != a0_0)=true
 ·
  rw [if_pos c3] at H
  have c3b0:(t131 != a0_0)=true:=c3
  (try (have c3b1:decide (t131=a0_0)=false:=by simpa using c3))
  (try (have c3b2:(t131 == a0_0)=false:=by simpa using c3))
  (try (have c3b3:¬ (t131=a0_0):=by simpa using c3))
  clear c3
  obtain rfl:=Option.some.inj H
  go_enter Try.func18,Try.ntmps18
  go_wp2_with (first | ((with_reducible refine zbG (N:=1) rfl ?_); refine zbF ?hg (N:=1) ?hd (cs:=#[.bool a0_0,.slice A0_1 l0_1.length c0_1,.slice A0_2 l0_2.length c0_2]) (t:=25) ?hr ?_; (case hd=>rfl); (case hg=>rfl); (case hr=>first | (go_simp; done) | (go_simp; rfl)); intro gb130 hg w4 hbox hb; have n0_:=Aside0.mk (zbp (qb HB.out) hb); have n1_:=Aside0.mk (hbox); have n2_:=Aside0.mk ((by rw [hg]; exact(zbs (qb HB.out)):w.heap.size≤gb130)); have n3_:=Aside0.mk ((by rw [hg]; exact(zbs (qb HB.out)):w.heap.size≤gb130)); clear HB; have HB:=n0_; have BK130:=n1_; have GW130:=n2_; have GE130:=n3_; clear n0_ n1_ n2_ n3_; clear hb hbox hg; obtain⟨hcz5_0,hcz5_1,hcz5_2,hfz5_0,hfz5_1,hfz5_2⟩:=qz BK130.out) | ((with_reducible refine zbC (f:=16) rfl ?_); refine zbO (some 5) rfl rfl Try.func16 (by kernel_rfl) rfl #[.agg #[.bool a0_0,.slice A0_1 l0_1.length c0_1,.slice A0_2 l0_2.length c0_2]] rfl (by (try simp only [List.map_toArray,List.map_cons,List.map_nil]); first | done | rfl | (simp only [List.length_drop,List.length_take]; rfl)) ?_; (with_reducible refine(rat_Norm.calls a0_0 _ _ l0_1 _ _ l0_2 t131 t132 t135 _ ?side1 ?side2 ?side3 ?side4 A2.out).mono ?_); (case side1=>exact qc (Kd.C_below HR0_1.out HB.out)); (case side2=>exact HC0_1.out); (case side3=>exact qc (Kd.C_below HR0_2.out HB.out)); (case side4=>exact HC0_2.out); rintro e w6 ⟨v133,v136,rfl,ho0,ho1,hb⟩; refine⟨_,rfl,?_⟩; have n0_:=Aside0.mk (Kd.R_lower ho0 (zbs (qb1 HB.out GE130.out))); have n1_:=Aside0.mk (Kd.R_lower ho1 (zbs (qb1 HB.out GE130.out))); have n2_:=Aside0.mk (zbt (g:=gb130) (o:=.cells #[.bool a0_0,.slice A0_1 l0_1.length c0_1,.slice A0_2 l0_2.length c0_2] 25 (0,0)) (qk BK130.out) hb); have n3_:=Aside0.mk (zbp (qb1 HB.out GE130.out) hb); clear BK130; clear HB; have HO134:=n0_; have HO137:=n1_; have BK130:=n2_; have HB:=n3_; clear n0_ n1_ n2_ n3_; (try clear hb); (try clear hb2); (try clear hk); (try clear hi); (try clear ho0); (try clear ho1)) | ((with_reducible refine zbG (N:=3) rfl ?_); refine zbF ?hg (N:=3) ?hd (cs:=#[.bool false,.slice none 0 0,.slice none 0 0]) (t:=25) ?hr ?_; (case hd=>rfl); (case hg=>rfl); (case hr=>first | (go_simp; done) | (go_simp; rfl)); intro gb138 hg w7 hbox hb; have n0_:=Aside0.mk (Kd.R_below (qr HO134.out) hb); have n1_:=Aside0.mk (Kd.R_below (qr HO137.out) hb); have n2_:=Aside0.mk (zbt (g:=gb130) (o:=.cells #[.bool a0_0,.slice A0_1 l0_1.length c0_1,.slice A0_2 l0_2.length c0_2] 25 (0,0)) (qk BK130.out) hb); have n3_:=Aside0.mk (zbp (qb1 HB.out GE130.out) hb); have n4_:=Aside0.mk (hbox); have n5_:=Aside0.mk ((by rw [hg]; exact(zbs (qb1 HB.out GE130.out)):w.heap.size≤gb138)); have n6_:=Aside0.mk ((by rw [hg]; exact(zbs (qb1 HB.out GE130.out)):w.heap.size≤gb138)); have n7_:=Aside0.mk ((by rw [hg]; exact Nat.ne_of_lt (zbQ (g:=gb130) (o:=.cells #[.bool a0_0,.slice A0_1 l0_1.length c0_1,.slice A0_2 l0_2.length c0_2] 25 (0,0)) (qk BK130.out)):gb130≠gb138)); have n8_:=Aside0.mk ((by rw [hg]; exact Nat.ne_of_gt (zbQ (g:=gb130) (o:=.cells #[.bool a0_0,.slice A0_1 l0_1.length c0_1,.slice A0_2 l0_2.length c0_2] 25 (0,0)) (qk BK130.out)):gb138≠gb130)); clear HO134; clear HO137; clear BK130; clear HB; have HO134:=n0_; have HO137:=n1_; have BK130:=n2_; have HB:=n3_; have BK138:=n4_; have GW138:=n5_; have GE138:=n6_; have NB130_138:=n7_; have NB138_130:=n8_; clear n0_ n1_ n2_ n3_ n4_ n5_ n6_ n7_ n8_; clear hb hbox hg; have hnb8:=NB138_130.out; have hnc8:=NB130_138.out; obtain⟨hcz9_0,hcz9_1,hcz9_2,hfz9_0,hfz9_1,hfz9_2⟩:=qz BK138.out; obtain⟨Ao10,co10,eo10⟩:=Kd.R_slice HO134.out; subst eo10; obtain⟨Ao11,co11,eo11⟩:=Kd.R_slice HO137.out; subst eo11; obtain⟨hcz12_0,hcz12_1,hcz12_2,hfz12_0,hfz12_1,hfz12_2⟩:=qz BK130.out))
  go_ret
  exact⟨by first | rfl | (simp [zbz,zbA]<;>rfl) | (simp [*,zbz,zbA]<;>rfl),by repeat (first | (with_reducible first | exact HB.out | apply zbq | apply zbr | apply zbv | refine zbE ?_ GE130.out | refine zbE ?_ GE138.out) | exact HB.out)⟩
 ·
  rw [if_neg c3] at H
  have c3b0:(t131 != a0_0)=false:=by simpa using c3
  (try (have c3b1:decide (t131=a0_0)=true:=by simpa using c3))
  (try (have c3b2:(t131 == a0_0)=true:=by simpa using c3))
  clear c3
  replace H:=Option.bind_eq_some_iff.mp H
  obtain⟨t139,A130,H⟩:=H
  replace H:(if t139=true then ((rat_limbs.f t135 l0_2).bind fun t140=>(if t140=true then (some 0) else (some 6))) else (some 6))=some r:=H
  have A13:=Aside0.mk A130
  clear A130
  by_cases c14:t139=true
  ·
   subst c14
   have H1:((rat_limbs.f t135 l0_2).bind fun t140=>(if t140=true then (some 0) else (some 6)))=some r:=by rw [if_pos rfl] at H; exact H
   clear H
   have H:=H1
   clear H1
   replace H:=Option.bind_eq_some_iff.mp H
   obtain⟨t140,A150,H⟩:=H
   replace H:(if t140=true then (some 0) else (some 6))=some r:=H
   have A15:=Aside0.mk A150
   clear A150
   by_cases c16:t140=true
   ·
    subst c16
    have H1:(some 0)=some r:=by rw [if_pos rfl] at H; exact H
    clear H
    have H:=H1
    clear H1
    obtain rfl:=Option.some.inj H
    go_enter Try.func18,Try.ntmps18
    go_wp2_with (first | ((with_reducible refine zbG (N:=1) rfl ?_); refine zbF ?hg (N:=1) ?hd (cs:=#[.bool a0_0,.slice A0_1 l0_1.length c0_1,.slice A0_2 l0_2.length c0_2]) (t:=25) ?hr ?_; (case hd=>rfl); (case hg=>rfl); (case hr=>first | (go_simp; done) | (go_simp; rfl)); intro gb130 hg w17 hbox hb; have n0_:=Aside0.mk (zbp (qb HB.out) hb); have n1_:=Aside0.mk (hbox); have n2_:=Aside0.mk ((by rw [hg]; exact(zbs (qb HB.out)):w.heap.size≤gb130)); have n3_:=Aside0.mk ((by rw [hg]; exact(zbs (qb HB.out)):w.heap.size≤gb130)); clear HB; have HB:=n0_; have BK130:=n1_; have GW130:=n2_; have GE130:=n3_; clear n0_ n1_ n2_ n3_; clear hb hbox hg; obtain⟨hcz18_0,hcz18_1,hcz18_2,hfz18_0,hfz18_1,hfz18_2⟩:=qz BK130.out) | ((with_reducible refine zbC (f:=16) rfl ?_); refine zbO (some 5) rfl rfl Try.func16 (by kernel_rfl) rfl #[.agg #[.bool a0_0,.slice A0_1 l0_1.length c0_1,.slice A0_2 l0_2.length c0_2]] rfl (by (try simp only [List.map_toArray,List.map_cons,List.map_nil]); first | done | rfl | (simp only [List.length_drop,List.length_take]; rfl)) ?_; (with_reducible refine(rat_Norm.calls a0_0 _ _ l0_1 _ _ l0_2 t131 t132 t135 _ ?side1 ?side2 ?side3 ?side4 A2.out).mono ?_); (case side1=>exact qc (Kd.C_below HR0_1.out HB.out)); (case side2=>exact HC0_1.out); (case side3=>exact qc (Kd.C_below HR0_2.out HB.out)); (case side4=>exact HC0_2.out); rintro e w19 ⟨v133,v136,rfl,ho0,ho1,hb⟩; refine⟨_,rfl,?_⟩; have n0_:=Aside0.mk (Kd.R_lower ho0 (zbs (qb1 HB.out GE130.out))); have n1_:=Aside0.mk (Kd.R_lower ho1 (zbs (qb1 HB.out GE130.out))); have n2_:=Aside0.mk (zbt (g:=gb130) (o:=.cells #[.bool a0_0,.slice A0_1 l0_1.length c0_1,.slice A0_2 l0_2.length c0_2] 25 (0,0)) (qk BK130.out) hb); have n3_:=Aside0.mk (zbp (qb1 HB.out GE130.out) hb); clear BK130; clear HB; have HO134:=n0_; have HO137:=n1_; have BK130:=n2_; have HB:=n3_; clear n0_ n1_ n2_ n3_; (try clear hb); (try clear hb2); (try clear hk); (try clear hi); (try clear ho0); (try clear ho1)) | ((with_reducible refine zbG (N:=3) rfl ?_); refine zbF ?hg (N:=3) ?hd (cs:=#[.bool false,.slice none 0 0,.slice none 0 0]) (t:=25) ?hr ?_; (case hd=>rfl); (case hg=>rfl); (case hr=>first | (go_simp; done) | (go_simp; rfl)); intro gb138 hg w20 hbox hb; have n0_:=Aside0.mk (Kd.R_below (qr HO134.out) hb); have n1_:=Aside0.mk (Kd.R_below (qr HO137.out) hb); have n2_:=Aside0.mk (zbt (g:=gb130) (o:=.cells #[.bool a0_0,.slice A0_1 l0_1.length c0_1,.slice A0_2 l0_2.length c0_2] 25 (0,0)) (qk BK130.out) hb); have n3_:=Aside0.mk (zbp (qb1 HB.out GE130.out) hb); have n4_:=Aside0.mk (hbox); have n5_:=Aside0.mk ((by rw [hg]; exact(zbs (qb1 HB.out GE130.out)):w.heap.size≤gb138)); have n6_:=Aside0.mk ((by rw [hg]; exact(zbs (qb1 HB.out GE130.out)):w.heap.size≤gb138)); have n7_:=Aside0.mk ((by rw [hg]; exact Nat.ne_of_lt (zbQ (g:=gb130) (o:=.cells #[.bool a0_0,.slice A0_1 l0_1.length c0_1,.slice A0_2 l0_2.length c0_2] 25 (0,0)) (qk BK130.out)):gb130≠gb138)); have n8_:=Aside0.mk ((by rw [hg]; exact Nat.ne_of_gt (zbQ (g:=gb130) (o:=.cells #[.bool a0_0,.slice A0_1 l0_1.length c0_1,.slice A0_2 l0_2.length c0_2] 25 (0,0)) (qk BK130.out)):gb138≠gb130)); clear HO134; clear HO137; clear BK130; clear HB; have HO134:=n0_; have HO137:=n1_; have BK130:=n2_; have HB:=n3_; have BK138:=n4_; have GW138:=n5_; have GE138:=n6_; have NB130_138:=n7_; have NB138_130:=n8_; clear n0_ n1_ n2_ n3_ n4_ n5_ n6_ n7_ n8_; clear hb hbox hg; have hnb21:=NB138_130.out; have hnc21:=NB130_138.out; obtain⟨hcz22_0,hcz22_1,hcz22_2,hfz22_0,hfz22_1,hfz22_2⟩:=qz BK138.out; obtain⟨Ao23,co23,eo23⟩:=Kd.R_slice HO134.out; subst eo23; obtain⟨Ao24,co24,eo24⟩:=Kd.R_slice HO137.out; subst eo24; obtain⟨hcz25_0,hcz25_1,hcz25_2,hfz25_0,hfz25_1,hfz25_2⟩:=qz BK130.out) | (go_at_call 60; (with_reducible refine(rat_limbs.calls _ _ t132 _ _ l0_1 true _ ?side1 ?side2 ?side3 ?side4 A13.out).mono ?_); (case side1=>refine(Kd.R_reads' (e:=63) (base:=w.heap.size) (ok:=fun k_=>some k_≠(.slice Ao24 t135.length co24:Value).ownBlock) (n:=t132.length) (c:=co23) ?_).2.2; exact(by (with_reducible repeat (first | apply Kd.R_alloc | apply Kd.R_drewN | apply Kd.R_drew)); exact(Kd.R_mono (Kd.R_far (p:=⟨gb138,2,none⟩) (Kd.R_far (p:=⟨gb138,1,none⟩) (Kd.R_far (p:=⟨gb138,0,none⟩) (Kd.R_types HO134.out BK138.out (by decide)) (fun _ hk=>hk.2) (.bool t131)) (fun _ hk=>hk.2) (.slice Ao23 t132.length co23)) (fun _ hk=>hk.2) (.slice Ao24 t135.length co24)) (fun _ h_=>h_.1)))); (case side2=>exact(Kd.R_reads' HO134.out).2.1); (case side3=>exact Kd.C_below HR0_1.out (qb2 HB.out GE130.out GE138.out)); (case side4=>exact HC0_1.out); rintro e w26 ⟨rfl,hb⟩; have n0_:=Aside0.mk (Kd.R_below (by (with_reducible repeat (first | apply Kd.R_alloc | apply Kd.R_drewN | apply Kd.R_drew)); exact(Kd.R_mono (Kd.R_far (p:=⟨gb138,2,none⟩) (Kd.R_far (p:=⟨gb138,1,none⟩) (Kd.R_far (p:=⟨gb138,0,none⟩) (Kd.R_types HO134.out BK138.out (by decide)) (fun _ hk=>hk.2) (.bool t131)) (fun _ hk=>hk.2) (.slice Ao23 t132.length co23)) (fun _ hk=>hk.2) (.slice Ao24 t135.length co24)) (fun _ h_=>h_.1))) hb); have n1_:=Aside0.mk (Kd.R_below (by (with_reducible repeat (first | apply Kd.R_alloc | apply Kd.R_drewN | apply Kd.R_drew)); exact(Kd.R_mono (Kd.R_far (p:=⟨gb138,2,none⟩) (Kd.R_far (p:=⟨gb138,1,none⟩) (Kd.R_far (p:=⟨gb138,0,none⟩) (Kd.R_types HO137.out BK138.out (by decide)) (fun _ hk=>hk.2) (.bool t131)) (fun _ hk=>hk.2) (.slice Ao23 t132.length co23)) (fun _ hk=>hk.2) (.slice Ao24 t135.length co24)) (fun _ h_=>h_.1))) hb); have n2_:=Aside0.mk (zbt (g:=gb130) (o:=.cells #[.bool a0_0,.slice A0_1 l0_1.length c0_1,.slice A0_2 l0_2.length c0_2] 25 (0,0)) (by (with_reducible repeat (first | refine zby ?_ _ | refine zbx ?_ | refine zbw ?_ _)); refine zbP ?_ NB130_138.out _; (with_reducible repeat (first | refine zby ?_ _ | refine zbx ?_ | refine zbw ?_ _)); refine zbP ?_ NB130_138.out _; (with_reducible repeat (first | refine zby ?_ _ | refine zbx ?_ | refine zbw ?_ _)); refine zbP ?_ NB130_138.out _; (with_reducible repeat (first | refine zby ?_ _ | refine zbx ?_ | refine zbw ?_ _)); exact BK130.out) hb); have n3_:=Aside0.mk (zbt (g:=gb138) (o:=.cells #[.bool t131,.slice Ao23 t132.length co23,.slice Ao24 t135.length co24] 25 (0,0)) (by (with_reducible repeat (first | refine zby ?_ _ | refine zbx ?_ | refine zbw ?_ _)); refine zbK (cs:=#[.bool t131,.slice Ao23 t132.length co23,.slice none 0 0]) ?_ 2 _ rfl; (with_reducible repeat (first | refine zby ?_ _ | refine zbx ?_ | refine zbw ?_ _)); refine zbK (cs:=#[.bool t131,.slice none 0 0,.slice none 0 0]) ?_ 1 _ rfl; (with_reducible repeat (first | refine zby ?_ _ | refine zbx ?_ | refine zbw ?_ _)); refine zbK (cs:=#[.bool false,.slice none 0 0,.slice none 0 0]) ?_ 0 _ rfl; (with_reducible repeat (first | refine zby ?_ _ | refine zbx ?_ | refine zbw ?_ _)); exact BK138.out) hb); have n4_:=Aside0.mk (zbp (qb2 HB.out GE130.out GE138.out) hb); clear HO134; clear HO137; clear BK130; clear BK138; clear HB; have HO134:=n0_; have HO137:=n1_; have BK130:=n2_; have BK138:=n3_; have HB:=n4_; clear n0_ n1_ n2_ n3_ n4_; (try clear hb); (try clear hb2); (try clear hk); (try clear hi); obtain⟨hcz27_0,hcz27_1,hcz27_2,hfz27_0,hfz27_1,hfz27_2⟩:=qz BK138.out; obtain⟨hcz28_0,hcz28_1,hcz28_2,hfz28_0,hfz28_1,hfz28_2⟩:=qz BK130.out) | (go_at_call 60; (with_reducible refine(rat_limbs.calls _ _ t135 _ _ l0_2 true _ ?side1 ?side2 ?side3 ?side4 A15.out).mono ?_); (case side1=>exact qc (Kd.R_reads' HO137.out).2.2); (case side2=>exact(Kd.R_reads' HO137.out).2.1); (case side3=>exact qc (Kd.C_below HR0_2.out HB.out)); (case side4=>exact HC0_2.out); rintro e w29 ⟨rfl,hb⟩; have n0_:=Aside0.mk (Kd.R_below (qr HO134.out) hb); have n1_:=Aside0.mk (Kd.R_below (qr HO137.out) hb); have n2_:=Aside0.mk (zbt (g:=gb130) (o:=.cells #[.bool a0_0,.slice A0_1 l0_1.length c0_1,.slice A0_2 l0_2.length c0_2] 25 (0,0)) (qk BK130.out) hb); have n3_:=Aside0.mk (zbt (g:=gb138) (o:=.cells #[.bool t131,.slice Ao23 t132.length co23,.slice Ao24 t135.length co24] 25 (0,0)) (qk BK138.out) hb); have n4_:=Aside0.mk (zbp (qb2 HB.out GE130.out GE138.out) hb); clear HO134; clear HO137; clear BK130; clear BK138; clear HB; have HO134:=n0_; have HO137:=n1_; have BK130:=n2_; have BK138:=n3_; have HB:=n4_; clear n0_ n1_ n2_ n3_ n4_; (try clear hb); (try clear hb2); (try clear hk); (try clear hi)))
    go_ret
    exact⟨by first | rfl | (simp [zbz,zbA]<;>rfl) | (simp [*,zbz,zbA]<;>rfl),by repeat (first | (with_reducible first | exact HB.out | apply zbq | apply zbr | apply zbv | refine zbE ?_ GE130.out | refine zbE ?_ GE138.out) | exact HB.out)⟩
   ·
    replace c16:=Bool.eq_false_iff.mpr c16
    subst c16
    have H1:(some 6)=some r:=by rw [if_neg (show ¬ (false=true) by decide)] at H; exact H
    clear H
    have H:=H1
    clear H1
    obtain rfl:=Option.some.inj H
    go_enter Try.func18,Try.ntmps18
    go_wp2_with (first | ((with_reducible refine zbG (N:=1) rfl ?_); refine zbF ?hg (N:=1) ?hd (cs:=#[.bool a0_0,.slice A0_1 l0_1.length c0_1,.slice A0_2 l0_2.length c0_2]) (t:=25) ?hr ?_; (case hd=>rfl); (case hg=>rfl); (case hr=>first | (go_simp; done) | (go_simp; rfl)); intro gb130 hg w30 hbox hb; have n0_:=Aside0.mk (zbp (qb HB.out) hb); have n1_:=Aside0.mk (hbox); have n2_:=Aside0.mk ((by rw [hg]; exact(zbs (qb HB.out)):w.heap.size≤gb130)); have n3_:=Aside0.mk ((by rw [hg]; exact(zbs (qb HB.out)):w.heap.size≤gb130)); clear HB; have HB:=n0_; have BK130:=n1_; have GW130:=n2_; have GE130:=n3_; clear n0_ n1_ n2_ n3_; clear hb hbox hg; obtain⟨hcz31_0,hcz31_1,hcz31_2,hfz31_0,hfz31_1,hfz31_2⟩:=qz BK130.out) | ((with_reducible refine zbC (f:=16) rfl ?_); refine zbO (some 5) rfl rfl Try.func16 (by kernel_rfl) rfl #[.agg #[.bool a0_0,.slice A0_1 l0_1.length c0_1,.slice A0_2 l0_2.length c0_2]] rfl (by (try simp only [List.map_toArray,List.map_cons,List.map_nil]); first | done | rfl | (simp only [List.length_drop,List.length_take]; rfl)) ?_; (with_reducible refine(rat_Norm.calls a0_0 _ _ l0_1 _ _ l0_2 t131 t132 t135 _ ?side1 ?side2 ?side3 ?side4 A2.out).mono ?_); (case side1=>exact qc (Kd.C_below HR0_1.out HB.out)); (case side2=>exact HC0_1.out); (case side3=>exact qc (Kd.C_below HR0_2.out HB.out)); (case side4=>exact HC0_2.out); rintro e w32 ⟨v133,v136,rfl,ho0,ho1,hb⟩; refine⟨_,rfl,?_⟩; have n0_:=Aside0.mk (Kd.R_lower ho0 (zbs (qb1 HB.out GE130.out))); have n1_:=Aside0.mk (Kd.R_lower ho1 (zbs (qb1 HB.out GE130.out))); have n2_:=Aside0.mk (zbt (g:=gb130) (o:=.cells #[.bool a0_0,.slice A0_1 l0_1.length c0_1,.slice A0_2 l0_2.length c0_2] 25 (0,0)) (qk BK130.out) hb); have n3_:=Aside0.mk (zbp (qb1 HB.out GE130.out) hb); clear BK130; clear HB; have HO134:=n0_; have HO137:=n1_; have BK130:=n2_; have HB:=n3_; clear n0_ n1_ n2_ n3_; (try clear hb); (try clear hb2); (try clear hk); (try clear hi); (try clear ho0); (try clear ho1)) | ((with_reducible refine zbG (N:=3) rfl ?_); refine zbF ?hg (N:=3) ?hd (cs:=#[.bool false,.slice none 0 0,.slice none 0 0]) (t:=25) ?hr ?_; (case hd=>rfl); (case hg=>rfl); (case hr=>first | (go_simp; done) | (go_simp; rfl)); intro gb138 hg w33 hbox hb; have n0_:=Aside0.mk (Kd.R_below (qr HO134.out) hb); have n1_:=Aside0.mk (Kd.R_below (qr HO137.out) hb); have n2_:=Aside0.mk (zbt (g:=gb130) (o:=.cells #[.bool a0_0,.slice A0_1 l0_1.length c0_1,.slice A0_2 l0_2.length c0_2] 25 (0,0)) (qk BK130.out) hb); have n3_:=Aside0.mk (zbp (qb1 HB.out GE130.out) hb); have n4_:=Aside0.mk (hbox); have n5_:=Aside0.mk ((by rw [hg]; exact(zbs (qb1 HB.out GE130.out)):w.heap.size≤gb138)); have n6_:=Aside0.mk ((by rw [hg]; exact(zbs (qb1 HB.out GE130.out)):w.heap.size≤gb138)); have n7_:=Aside0.mk ((by rw [hg]; exact Nat.ne_of_lt (zbQ (g:=gb130) (o:=.cells #[.bool a0_0,.slice A0_1 l0_1.length c0_1,.slice A0_2 l0_2.length c0_2] 25 (0,0)) (qk BK130.out)):gb130≠gb138)); have n8_:=Aside0.mk ((by rw [hg]; exact Nat.ne_of_gt (zbQ (g:=gb130) (o:=.cells #[.bool a0_0,.slice A0_1 l0_1.length c0_1,.slice A0_2 l0_2.length c0_2] 25 (0,0)) (qk BK130.out)):gb138≠gb130)); clear HO134; clear HO137; clear BK130; clear HB; have HO134:=n0_; have HO137:=n1_; have BK130:=n2_; have HB:=n3_; have BK138:=n4_; have GW138:=n5_; have GE138:=n6_; have NB130_138:=n7_; have NB138_130:=n8_; clear n0_ n1_ n2_ n3_ n4_ n5_ n6_ n7_ n8_; clear hb hbox hg; have hnb34:=NB138_130.out; have hnc34:=NB130_138.out; obtain⟨hcz35_0,hcz35_1,hcz35_2,hfz35_0,hfz35_1,hfz35_2⟩:=qz BK138.out; obtain⟨Ao36,co36,eo36⟩:=Kd.R_slice HO134.out; subst eo36; obtain⟨Ao37,co37,eo37⟩:=Kd.R_slice HO137.out; subst eo37; obtain⟨hcz38_0,hcz38_1,hcz38_2,hfz38_0,hfz38_1,hfz38_2⟩:=qz BK130.out) | (go_at_call 60; (with_reducible refine(rat_limbs.calls _ _ t132 _ _ l0_1 true _ ?side1 ?side2 ?side3 ?side4 A13.out).mono ?_); (case side1=>refine(Kd.R_reads' (e:=63) (base:=w.heap.size) (ok:=fun k_=>some k_≠(.slice Ao37 t135.length co37:Value).ownBlock) (n:=t132.length) (c:=co36) ?_).2.2; exact(by (with_reducible repeat (first | apply Kd.R_alloc | apply Kd.R_drewN | apply Kd.R_drew)); exact(Kd.R_mono (Kd.R_far (p:=⟨gb138,2,none⟩) (Kd.R_far (p:=⟨gb138,1,none⟩) (Kd.R_far (p:=⟨gb138,0,none⟩) (Kd.R_types HO134.out BK138.out (by decide)) (fun _ hk=>hk.2) (.bool t131)) (fun _ hk=>hk.2) (.slice Ao36 t132.length co36)) (fun _ hk=>hk.2) (.slice Ao37 t135.length co37)) (fun _ h_=>h_.1)))); (case side2=>exact(Kd.R_reads' HO134.out).2.1); (case side3=>exact Kd.C_below HR0_1.out (qb2 HB.out GE130.out GE138.out)); (case side4=>exact HC0_1.out); rintro e w39 ⟨rfl,hb⟩; have n0_:=Aside0.mk (Kd.R_below (by (with_reducible repeat (first | apply Kd.R_alloc | apply Kd.R_drewN | apply Kd.R_drew)); exact(Kd.R_mono (Kd.R_far (p:=⟨gb138,2,none⟩) (Kd.R_far (p:=⟨gb138,1,none⟩) (Kd.R_far (p:=⟨gb138,0,none⟩) (Kd.R_types HO134.out BK138.out (by decide)) (fun _ hk=>hk.2) (.bool t131)) (fun _ hk=>hk.2) (.slice Ao36 t132.length co36)) (fun _ hk=>hk.2) (.slice Ao37 t135.length co37)) (fun _ h_=>h_.1))) hb); have n1_:=Aside0.mk (Kd.R_below (by (with_reducible repeat (first | apply Kd.R_alloc | apply Kd.R_drewN | apply Kd.R_drew)); exact(Kd.R_mono (Kd.R_far (p:=⟨gb138,2,none⟩) (Kd.R_far (p:=⟨gb138,1,none⟩) (Kd.R_far (p:=⟨gb138,0,none⟩) (Kd.R_types HO137.out BK138.out (by decide)) (fun _ hk=>hk.2) (.bool t131)) (fun _ hk=>hk.2) (.slice Ao36 t132.length co36)) (fun _ hk=>hk.2) (.slice Ao37 t135.length co37)) (fun _ h_=>h_.1))) hb); have n2_:=Aside0.mk (zbt (g:=gb130) (o:=.cells #[.bool a0_0,.slice A0_1 l0_1.length c0_1,.slice A0_2 l0_2.length c0_2] 25 (0,0)) (by (with_reducible repeat (first | refine zby ?_ _ | refine zbx ?_ | refine zbw ?_ _)); refine zbP ?_ NB130_138.out _; (with_reducible repeat (first | refine zby ?_ _ | refine zbx ?_ | refine zbw ?_ _)); refine zbP ?_ NB130_138.out _; (with_reducible repeat (first | refine zby ?_ _ | refine zbx ?_ | refine zbw ?_ _)); refine zbP ?_ NB130_138.out _; (with_reducible repeat (first | refine zby ?_ _ | refine zbx ?_ | refine zbw ?_ _)); exact BK130.out) hb); have n3_:=Aside0.mk (zbt (g:=gb138) (o:=.cells #[.bool t131,.slice Ao36 t132.length co36,.slice Ao37 t135.length co37] 25 (0,0)) (by (with_reducible repeat (first | refine zby ?_ _ | refine zbx ?_ | refine zbw ?_ _)); refine zbK (cs:=#[.bool t131,.slice Ao36 t132.length co36,.slice none 0 0]) ?_ 2 _ rfl; (with_reducible repeat (first | refine zby ?_ _ | refine zbx ?_ | refine zbw ?_ _)); refine zbK (cs:=#[.bool t131,.slice none 0 0,.slice none 0 0]) ?_ 1 _ rfl; (with_reducible repeat (first | refine zby ?_ _ | refine zbx ?_ | refine zbw ?_ _)); refine zbK (cs:=#[.bool false,.slice none 0 0,.slice none 0 0]) ?_ 0 _ rfl; (with_reducible repeat (first | refine zby ?_ _ | refine zbx ?_ | refine zbw ?_ _)); exact BK138.out) hb); have n4_:=Aside0.mk (zbp (qb2 HB.out GE130.out GE138.out) hb); clear HO134; clear HO137; clear BK130; clear BK138; clear HB; have HO134:=n0_; have HO137:=n1_; have BK130:=n2_; have BK138:=n3_; have HB:=n4_; clear n0_ n1_ n2_ n3_ n4_; (try clear hb); (try clear hb2); (try clear hk); (try clear hi); obtain⟨hcz40_0,hcz40_1,hcz40_2,hfz40_0,hfz40_1,hfz40_2⟩:=qz BK138.out; obtain⟨hcz41_0,hcz41_1,hcz41_2,hfz41_0,hfz41_1,hfz41_2⟩:=qz BK130.out) | (go_at_call 60; (with_reducible refine(rat_limbs.calls _ _ t135 _ _ l0_2 false _ ?side1 ?side2 ?side3 ?side4 A15.out).mono ?_); (case side1=>exact qc (Kd.R_reads' HO137.out).2.2); (case side2=>exact(Kd.R_reads' HO137.out).2.1); (case side3=>exact qc (Kd.C_below HR0_2.out HB.out)); (case side4=>exact HC0_2.out); rintro e w42 ⟨rfl,hb⟩; have n0_:=Aside0.mk (Kd.R_below (qr HO134.out) hb); have n1_:=Aside0.mk (Kd.R_below (qr HO137.out) hb); have n2_:=Aside0.mk (zbt (g:=gb130) (o:=.cells #[.bool a0_0,.slice A0_1 l0_1.length c0_1,.slice A0_2 l0_2.length c0_2] 25 (0,0)) (qk BK130.out) hb); have n3_:=Aside0.mk (zbt (g:=gb138) (o:=.cells #[.bool t131,.slice Ao36 t132.length co36,.slice Ao37 t135.length co37] 25 (0,0)) (qk BK138.out) hb); have n4_:=Aside0.mk (zbp (qb2 HB.out GE130.out GE138.out) hb); clear HO134; clear HO137; clear BK130; clear BK138; clear HB; have HO134:=n0_; have HO137:=n1_; have BK130:=n2_; have BK138:=n3_; have HB:=n4_; clear n0_ n1_ n2_ n3_ n4_; (try clear hb); (try clear hb2); (try clear hk); (try clear hi)))
    go_ret
    exact⟨by first | rfl | (simp [zbz,zbA]<;>rfl) | (simp [*,zbz,zbA]<;>rfl),by repeat (first | (with_reducible first | exact HB.out | apply zbq | apply zbr | apply zbv | refine zbE ?_ GE130.out | refine zbE ?_ GE138.out) | exact HB.out)⟩
  ·
   replace c14:=Bool.eq_false_iff.mpr c14
   subst c14
   have H1:(some 6)=some r:=by rw [if_neg (show ¬ (false=true) by decide)] at H; exact H
   clear H
   have H:=H1
   clear H1
   obtain rfl:=Option.some.inj H
   go_enter Try.func18,Try.ntmps18
   go_wp2_with (first | ((with_reducible refine zbG (N:=1) rfl ?_); refine zbF ?hg (N:=1) ?hd (cs:=#[.bool a0_0,.slice A0_1 l0_1.length c0_1,.slice A0_2 l0_2.length c0_2]) (t:=25) ?hr ?_; (case hd=>rfl); (case hg=>rfl); (case hr=>first | (go_simp; done) | (go_simp; rfl)); intro gb130 hg w43 hbox hb; have n0_:=Aside0.mk (zbp (qb HB.out) hb); have n1_:=Aside0.mk (hbox); have n2_:=Aside0.mk ((by rw [hg]; exact(zbs (qb HB.out)):w.heap.size≤gb130)); have n3_:=Aside0.mk ((by rw [hg]; exact(zbs (qb HB.out)):w.heap.size≤gb130)); clear HB; have HB:=n0_; have BK130:=n1_; have GW130:=n2_; have GE130:=n3_; clear n0_ n1_ n2_ n3_; clear hb hbox hg; obtain⟨hcz44_0,hcz44_1,hcz44_2,hfz44_0,hfz44_1,hfz44_2⟩:=qz BK130.out) | ((with_reducible refine zbC (f:=16) rfl ?_); refine zbO (some 5) rfl rfl Try.func16 (by kernel_rfl) rfl #[.agg #[.bool a0_0,.slice A0_1 l0_1.length c0_1,.slice A0_2 l0_2.length c0_2]] rfl (by (try simp only [List.map_toArray,List.map_cons,List.map_nil]); first | done | rfl | (simp only [List.length_drop,List.length_take]; rfl)) ?_; (with_reducible refine(rat_Norm.calls a0_0 _ _ l0_1 _ _ l0_2 t131 t132 t135 _ ?side1 ?side2 ?side3 ?side4 A2.out).mono ?_); (case side1=>exact qc (Kd.C_below HR0_1.out HB.out)); (case side2=>exact HC0_1.out); (case side3=>exact qc (Kd.C_below HR0_2.out HB.out)); (case side4=>exact HC0_2.out); rintro e w45 ⟨v133,v136,rfl,ho0,ho1,hb⟩; refine⟨_,rfl,?_⟩; have n0_:=Aside0.mk (Kd.R_lower ho0 (zbs (qb1 HB.out GE130.out))); have n1_:=Aside0.mk (Kd.R_lower ho1 (zbs (qb1 HB.out GE130.out))); have n2_:=Aside0.mk (zbt (g:=gb130) (o:=.cells #[.bool a0_0,.slice A0_1 l0_1.length c0_1,.slice A0_2 l0_2.length c0_2] 25 (0,0)) (qk BK130.out) hb); have n3_:=Aside0.mk (zbp (qb1 HB.out GE130.out) hb); clear BK130; clear HB; have HO134:=n0_; have HO137:=n1_; have BK130:=n2_; have HB:=n3_; clear n0_ n1_ n2_ n3_; (try clear hb); (try clear hb2); (try clear hk); (try clear hi); (try clear ho0); (try clear ho1)) | ((with_reducible refine zbG (N:=3) rfl ?_); refine zbF ?hg (N:=3) ?hd (cs:=#[.bool false,.slice none 0 0,.slice none 0 0]) (t:=25) ?hr ?_; (case hd=>rfl); (case hg=>rfl); (case hr=>first | (go_simp; done) | (go_simp; rfl)); intro gb138 hg w46 hbox hb; have n0_:=Aside0.mk (Kd.R_below (qr HO134.out) hb); have n1_:=Aside0.mk (Kd.R_below (qr HO137.out) hb); have n2_:=Aside0.mk (zbt (g:=gb130) (o:=.cells #[.bool a0_0,.slice A0_1 l0_1.length c0_1,.slice A0_2 l0_2.length c0_2] 25 (0,0)) (qk BK130.out) hb); have n3_:=Aside0.mk (zbp (qb1 HB.out GE130.out) hb); have n4_:=Aside0.mk (hbox); have n5_:=Aside0.mk ((by rw [hg]; exact(zbs (qb1 HB.out GE130.out)):w.heap.size≤gb138)); have n6_:=Aside0.mk ((by rw [hg]; exact(zbs (qb1 HB.out GE130.out)):w.heap.size≤gb138)); have n7_:=Aside0.mk ((by rw [hg]; exact Nat.ne_of_lt (zbQ (g:=gb130) (o:=.cells #[.bool a0_0,.slice A0_1 l0_1.length c0_1,.slice A0_2 l0_2.length c0_2] 25 (0,0)) (qk BK130.out)):gb130≠gb138)); have n8_:=Aside0.mk ((by rw [hg]; exact Nat.ne_of_gt (zbQ (g:=gb130) (o:=.cells #[.bool a0_0,.slice A0_1 l0_1.length c0_1,.slice A0_2 l0_2.length c0_2] 25 (0,0)) (qk BK130.out)):gb138≠gb130)); clear HO134; clear HO137; clear BK130; clear HB; have HO134:=n0_; have HO137:=n1_; have BK130:=n2_; have HB:=n3_; have BK138:=n4_; have GW138:=n5_; have GE138:=n6_; have NB130_138:=n7_; have NB138_130:=n8_; clear n0_ n1_ n2_ n3_ n4_ n5_ n6_ n7_ n8_; clear hb hbox hg; have hnb47:=NB138_130.out; have hnc47:=NB130_138.out; obtain⟨hcz48_0,hcz48_1,hcz48_2,hfz48_0,hfz48_1,hfz48_2⟩:=qz BK138.out; obtain⟨Ao49,co49,eo49⟩:=Kd.R_slice HO134.out; subst eo49; obtain⟨Ao50,co50,eo50⟩:=Kd.R_slice HO137.out; subst eo50; obtain⟨hcz51_0,hcz51_1,hcz51_2,hfz51_0,hfz51_1,hfz51_2⟩:=qz BK130.out) | (go_at_call 60; (with_reducible refine(rat_limbs.calls _ _ t132 _ _ l0_1 false _ ?side1 ?side2 ?side3 ?side4 A13.out).mono ?_); (case side1=>refine(Kd.R_reads' (e:=63) (base:=w.heap.size) (ok:=fun k_=>some k_≠(.slice Ao50 t135.length co50:Value).ownBlock) (n:=t132.length) (c:=co49) ?_).2.2; exact(by (with_reducible repeat (first | apply Kd.R_alloc | apply Kd.R_drewN | apply Kd.R_drew)); exact(Kd.R_mono (Kd.R_far (p:=⟨gb138,2,none⟩) (Kd.R_far (p:=⟨gb138,1,none⟩) (Kd.R_far (p:=⟨gb138,0,none⟩) (Kd.R_types HO134.out BK138.out (by decide)) (fun _ hk=>hk.2) (.bool t131)) (fun _ hk=>hk.2) (.slice Ao49 t132.length co49)) (fun _ hk=>hk.2) (.slice Ao50 t135.length co50)) (fun _ h_=>h_.1)))); (case side2=>exact(Kd.R_reads' HO134.out).2.1); (case side3=>exact Kd.C_below HR0_1.out (qb2 HB.out GE130.out GE138.out)); (case side4=>exact HC0_1.out); rintro e w52 ⟨rfl,hb⟩; have n0_:=Aside0.mk (Kd.R_below (by (with_reducible repeat (first | apply Kd.R_alloc | apply Kd.R_drewN | apply Kd.R_drew)); exact(Kd.R_mono (Kd.R_far (p:=⟨gb138,2,none⟩) (Kd.R_far (p:=⟨gb138,1,none⟩) (Kd.R_far (p:=⟨gb138,0,none⟩) (Kd.R_types HO134.out BK138.out (by decide)) (fun _ hk=>hk.2) (.bool t131)) (fun _ hk=>hk.2) (.slice Ao49 t132.length co49)) (fun _ hk=>hk.2) (.slice Ao50 t135.length co50)) (fun _ h_=>h_.1))) hb); have n1_:=Aside0.mk (Kd.R_below (by (with_reducible repeat (first | apply Kd.R_alloc | apply Kd.R_drewN | apply Kd.R_drew)); exact(Kd.R_mono (Kd.R_far (p:=⟨gb138,2,none⟩) (Kd.R_far (p:=⟨gb138,1,none⟩) (Kd.R_far (p:=⟨gb138,0,none⟩) (Kd.R_types HO137.out BK138.out (by decide)) (fun _ hk=>hk.2) (.bool t131)) (fun _ hk=>hk.2) (.slice Ao49 t132.length co49)) (fun _ hk=>hk.2) (.slice Ao50 t135.length co50)) (fun _ h_=>h_.1))) hb); have n2_:=Aside0.mk (zbt (g:=gb130) (o:=.cells #[.bool a0_0,.slice A0_1 l0_1.length c0_1,.slice A0_2 l0_2.length c0_2] 25 (0,0)) (by (with_reducible repeat (first | refine zby ?_ _ | refine zbx ?_ | refine zbw ?_ _)); refine zbP ?_ NB130_138.out _; (with_reducible repeat (first | refine zby ?_ _ | refine zbx ?_ | refine zbw ?_ _)); refine zbP ?_ NB130_138.out _; (with_reducible repeat (first | refine zby ?_ _ | refine zbx ?_ | refine zbw ?_ _)); refine zbP ?_ NB130_138.out _; (with_reducible repeat (first | refine zby ?_ _ | refine zbx ?_ | refine zbw ?_ _)); exact BK130.out) hb); have n3_:=Aside0.mk (zbt (g:=gb138) (o:=.cells #[.bool t131,.slice Ao49 t132.length co49,.slice Ao50 t135.length co50] 25 (0,0)) (by (with_reducible repeat (first | refine zby ?_ _ | refine zbx ?_ | refine zbw ?_ _)); refine zbK (cs:=#[.bool t131,.slice Ao49 t132.length co49,.slice none 0 0]) ?_ 2 _ rfl; (with_reducible repeat (first | refine zby ?_ _ | refine zbx ?_ | refine zbw ?_ _)); refine zbK (cs:=#[.bool t131,.slice none 0 0,.slice none 0 0]) ?_ 1 _ rfl; (with_reducible repeat (first | refine zby ?_ _ | refine zbx ?_ | refine zbw ?_ _)); refine zbK (cs:=#[.bool false,.slice none 0 0,.slice none 0 0]) ?_ 0 _ rfl; (with_reducible repeat (first | refine zby ?_ _ | refine zbx ?_ | refine zbw ?_ _)); exact BK138.out) hb); have n4_:=Aside0.mk (zbp (qb2 HB.out GE130.out GE138.out) hb); clear HO134; clear HO137; clear BK130; clear BK138; clear HB; have HO134:=n0_; have HO137:=n1_; have BK130:=n2_; have BK138:=n3_; have HB:=n4_; clear n0_ n1_ n2_ n3_ n4_; (try clear hb); (try clear hb2); (try clear hk); (try clear hi)))
   go_ret
   exact⟨by first | rfl | (simp [zbz,zbA]<;>rfl) | (simp [*,zbz,zbA]<;>rfl),by repeat (first | (with_reducible first | exact HB.out | apply zbq | apply zbr | apply zbv | refine zbE ?_ GE130.out | refine zbE ?_ GE138.out) | exact HB.out)⟩
end Go.Proofs.Ytehghijlchpeaaa.J
end
end
section
noncomputable section
namespace Go.Proofs.Ytehghijlchpeaaa.J
open Go.RowKit Ytehghijlchpeaaa.H Ytehghijlchpeaaa.L Ytehghijlchpeaaa.Nat1 YtehghijlchpeaaaW.PrintWords YtehghijlchpeaaaW.PrintLast YtehghijlchpeaaaW.PrintMore
attribute [local go_sem] zb6 zb4 zca zcb zbY zbX zb5 zb7   -- for this text's walks alone
def rat_product.l0:Nat→List (S25)→Int→Int→Bool→List Int→List Int→Option (Bool×List Int×List Int)
 | 0,_,_,_,_,_,_=>none
 | k+1,x7,x8,x9,x150000,x150001,x150002=>if x9 < x8 then (if 0≤x9 then (if x9 < (x7.length:Int) then ((rat_Norm.f ((rd_T25 x7 x9).f0) ((rd_T25 x7 x9).f1) ((rd_T25 x7 x9).f2)).bind fun bt152=>((nat_Mul.f k x150001 bt152.2.1).bind fun t159=>((nat_Mul.f k x150002 bt152.2.2).bind fun t162=>((rat_Make.f (x150000 != bt152.1) t159 t162).bind fun bt165=>(rat_product.l0 k x7 x8 (wrap64 (x9+1)) bt165.1 bt165.2.1 bt165.2.2.1))))) else (none)) else (none)) else (some (x150000,x150001,x150002))
def rat_product.f (k:Nat) (l0:List (S25)):Option (Bool×List Int×List Int):=(rat_Int.f 1).bind fun bt142=>(rat_product.l0 k l0 (l0.length:Int) 0 bt142.1 bt142.2.1 bt142.2.2)
def rat_product.T6:Bool×List (List Nat×List Nat):=(true,[([],[]),([0],[0]),([],[]),([2],[2]),([1,3],[1,3]),([],[]),([5],[5]),([],[]),([7],[7]),([6,8],[6,8]),([],[]),([10],[10]),([],[]),([12],[12]),([11,13,9],[11,13]),([4,9,14,14],[4,9,14]),([15],[15]),([16],[16]),([16],[16]),([17,15,0,1,2,3,4,5,6,7,8,9,10,11,12,13,14,15,16,17],[17])])
def rat_product.B6:List Nat:=[0,1,0,4,15,0,32,0,128,480,0,1024,0,4096,16352,32767,65535,131071,131071,262143]
theorem rat_product.tab6:rtab .any (opsOf Try.f78 6)=rat_product.T6:=by kernel_rfl
theorem rat_product.bits6:waitsOk rat_product.T6.2 rat_product.B6=true:=by kernel_rfl
theorem rat_product.calls (k:Nat) (A0:Option Addr) (c0:Nat) (l0:List (S25)) (r1:Bool) (r2:List Int) (r3:List Int) (w:World) (hr0:Kd.C k25 w A0 l0.length l0) (hc0:l0.length≤c0) (h:rat_product.f k l0=some (r1,r2,r3)) :
  Calls Try.prog 78 #[.slice A0 l0.length c0] w fun e w'=>∃ v1_ v2_:Value,e=.returned (.agg #[.bool r1,v1_,v2_])∧Kd.R (Kd.int .u32) 63 w' w.heap.size (fun k_=>some k_≠(v2_:Value).ownBlock) v1_ r2∧Kd.R (Kd.int .u32) 63 w' w.heap.size (fun k_=>some k_≠(v1_:Value).ownBlock) v2_ r3∧Below w.heap.size w w':=by
 have hu25:=Try.underlying25
 have HR0:=Aside0.mk hr0
 have HC0:=Aside0.mk hc0
 clear hr0 hc0
 have HB:=Aside0.mk (Below.refl w.heap.size w)
 have H:((rat_Int.f 1).bind fun bt142=>(rat_product.l0 k l0 (l0.length:Int) 0 bt142.1 bt142.2.1 bt142.2.2))=some (r1,r2,r3):=h
 clear h
 replace H:=Option.bind_eq_some_iff.mp H
 obtain⟨⟨t142,t143,t146⟩,A20,H⟩:=H
 replace H:(rat_product.l0 k l0 (l0.length:Int) 0 t142 t143 t146)=some (r1,r2,r3):=H
 have A2:=Aside0.mk A20
 clear A20
 have H':=Aside0.mk H
 clear H
 go_enter Try.func78,Try.ntmps78
 go_wp2_with (first | ((with_reducible refine zbG (N:=2) rfl ?_); refine zbF ?hg (N:=2) ?hd (cs:=#[.bool false,.slice none 0 0,.slice none 0 0]) (t:=25) ?hr ?_; (case hd=>rfl); (case hg=>rfl); (case hr=>first | (go_simp; done) | (go_simp; rfl)); intro gb141 hg w3 hbox hb; have n0_:=Aside0.mk (zbp (qb HB.out) hb); have n1_:=Aside0.mk (hbox); have n2_:=Aside0.mk ((by rw [hg]; exact(zbs (qb HB.out)):w.heap.size≤gb141)); have n3_:=Aside0.mk ((by rw [hg]; exact(zbs (qb HB.out)):w.heap.size≤gb141)); clear HB; have HB:=n0_; have BK141:=n1_; have GW141:=n2_; have GE141:=n3_; clear n0_ n1_ n2_ n3_; clear hb hbox hg) | ((with_reducible refine zbC (f:=28) rfl ?_); refine zbO (some 6) rfl rfl Try.func28 (by kernel_rfl) rfl #[.int .i64 1] rfl (by (try simp only [List.map_toArray,List.map_cons,List.map_nil]); first | done | rfl | (simp only [List.length_drop,List.length_take]; rfl)) ?_; (with_reducible refine(rat_Int.calls 1 t142 t143 t146 _ A2.out).mono ?_); rintro e w4 ⟨v144,v147,rfl,ho0,ho1,hb⟩; refine⟨_,rfl,?_⟩; have n0_:=Aside0.mk (Kd.R_lower ho0 (zbs (qb1 HB.out GE141.out))); have n1_:=Aside0.mk (Kd.R_lower ho1 (zbs (qb1 HB.out GE141.out))); have n2_:=Aside0.mk (zbt (g:=gb141) (o:=.cells #[.bool false,.slice none 0 0,.slice none 0 0] 25 (0,0)) (qk BK141.out) hb); have n3_:=Aside0.mk (zbp (qb1 HB.out GE141.out) hb); clear BK141; clear HB; have HO145:=n0_; have HO148:=n1_; have BK141:=n2_; have HB:=n3_; clear n0_ n1_ n2_ n3_; (try clear hb); (try clear hb2); (try clear hk); (try clear hi); (try clear ho0); (try clear ho1)) | ((with_reducible refine zbG (N:=3) rfl ?_); refine zbF ?hg (N:=3) ?hd (cs:=#[.bool false,.slice none 0 0,.slice none 0 0]) (t:=25) ?hr ?_; (case hd=>rfl); (case hg=>rfl); (case hr=>first | (go_simp; done) | (go_simp; rfl)); intro gb149 hg w5 hbox hb; have n0_:=Aside0.mk (Kd.R_below (qr HO145.out) hb); have n1_:=Aside0.mk (Kd.R_below (qr HO148.out) hb); have n2_:=Aside0.mk (zbt (g:=gb141) (o:=.cells #[.bool false,.slice none 0 0,.slice none 0 0] 25 (0,0)) (qk BK141.out) hb); have n3_:=Aside0.mk (zbp (qb1 HB.out GE141.out) hb); have n4_:=Aside0.mk (hbox); have n5_:=Aside0.mk ((by rw [hg]; exact(zbs (qb1 HB.out GE141.out)):w.heap.size≤gb149)); have n6_:=Aside0.mk ((by rw [hg]; exact(zbs (qb1 HB.out GE141.out)):w.heap.size≤gb149)); have n7_:=Aside0.mk ((by rw [hg]; exact Nat.ne_of_lt (zbQ (g:=gb141) (o:=.cells #[.bool false,.slice none 0 0,.slice none 0 0] 25 (0,0)) (qk BK141.out)):gb141≠gb149)); have n8_:=Aside0.mk ((by rw [hg]; exact Nat.ne_of_gt (zbQ (g:=gb141) (o:=.cells #[.bool false,.slice none 0 0,.slice none 0 0] 25 (0,0)) (qk BK141.out)):gb149≠gb141)); clear HO145; clear HO148; clear BK141; clear HB; have HO145:=n0_; have HO148:=n1_; have BK141:=n2_; have HB:=n3_; have BK149:=n4_; have GW149:=n5_; have GE149:=n6_; have NB141_149:=n7_; have NB149_141:=n8_; clear n0_ n1_ n2_ n3_ n4_ n5_ n6_ n7_ n8_; clear hb hbox hg; have hnb6:=NB149_141.out; have hnc6:=NB141_149.out; obtain⟨hcz7_0,hcz7_1,hcz7_2,hfz7_0,hfz7_1,hfz7_2⟩:=qz BK149.out; obtain⟨Ao8,co8,eo8⟩:=Kd.R_slice HO145.out; subst eo8; obtain⟨Ao9,co9,eo9⟩:=Kd.R_slice HO148.out; subst eo9))
 go_loopg [9] k (fun kq v9 w'=>∃ (x9_1:Int) (x150000_1:Bool) (x150001_1:List Int) (x150002_1:List Int) (u150001:Value) (u150002:Value),v9=.int .i64 x9_1∧Aside0 (rat_product.l0 kq l0 (l0.length:Int) x9_1 x150000_1 x150001_1 x150002_1=some (r1,r2,r3))∧Aside0 (kq≤k)∧Aside0 (Kd.R (Kd.int .u32) 63 w' w.heap.size (fun k_=>some k_≠(u150002:Value).ownBlock) u150001 x150001_1)∧Aside0 (Kd.R (Kd.int .u32) 63 w' w.heap.size (fun k_=>some k_≠(u150001:Value).ownBlock) u150002 x150002_1)∧Aside0 (w'.heap[gb141]? = some (.cells #[.bool false,(.slice none 0 0),(.slice none 0 0)] 25 (0,0)))∧Aside0 (w'.heap[gb149]? = some (.cells #[.bool x150000_1,u150001,u150002] 25 (0,0)))∧Aside0 (Below w.heap.size w w'))
 case atStart=>exact⟨(0),(t142),(t143),(t146),(.slice Ao8 t143.length co8),(.slice Ao9 t146.length co9),(by first | rfl | (simp; done) | (simp [*]; done)),H',⟨Nat.le_refl _⟩,⟨by (with_reducible repeat (first | apply Kd.R_alloc | apply Kd.R_drewN | apply Kd.R_drew)); exact Kd.R_mono (Kd.R_far (p:=⟨gb149,2,none⟩) (Kd.R_far (p:=⟨gb149,1,none⟩) (Kd.R_far (p:=⟨gb149,0,none⟩) (Kd.R_types HO145.out BK149.out (by decide)) (fun _ hk=>hk.2) (.bool t142)) (fun _ hk=>hk.2) (.slice Ao8 t143.length co8)) (fun _ hk=>hk.2) (.slice Ao9 t146.length co9)) (fun _ hk=>hk.1)⟩,⟨by (with_reducible repeat (first | apply Kd.R_alloc | apply Kd.R_drewN | apply Kd.R_drew)); exact Kd.R_mono (Kd.R_far (p:=⟨gb149,2,none⟩) (Kd.R_far (p:=⟨gb149,1,none⟩) (Kd.R_far (p:=⟨gb149,0,none⟩) (Kd.R_types HO148.out BK149.out (by decide)) (fun _ hk=>hk.2) (.bool t142)) (fun _ hk=>hk.2) (.slice Ao8 t143.length co8)) (fun _ hk=>hk.2) (.slice Ao9 t146.length co9)) (fun _ hk=>hk.1)⟩,⟨by (with_reducible repeat (first | refine zby ?_ _ | refine zbx ?_ | refine zbw ?_ _)); refine zbP ?_ NB141_149.out _; (with_reducible repeat (first | refine zby ?_ _ | refine zbx ?_ | refine zbw ?_ _)); refine zbP ?_ NB141_149.out _; (with_reducible repeat (first | refine zby ?_ _ | refine zbx ?_ | refine zbw ?_ _)); refine zbP ?_ NB141_149.out _; (with_reducible repeat (first | refine zby ?_ _ | refine zbx ?_ | refine zbw ?_ _)); exact BK141.out⟩,⟨by (with_reducible repeat (first | refine zby ?_ _ | refine zbx ?_ | refine zbw ?_ _)); refine zbK (cs:=#[.bool t142,.slice Ao8 t143.length co8,.slice none 0 0]) ?_ 2 _ rfl; (with_reducible repeat (first | refine zby ?_ _ | refine zbx ?_ | refine zbw ?_ _)); refine zbK (cs:=#[.bool t142,.slice none 0 0,.slice none 0 0]) ?_ 1 _ rfl; (with_reducible repeat (first | refine zby ?_ _ | refine zbx ?_ | refine zbw ?_ _)); refine zbK (cs:=#[.bool false,.slice none 0 0,.slice none 0 0]) ?_ 0 _ rfl; (with_reducible repeat (first | refine zby ?_ _ | refine zbx ?_ | refine zbw ?_ _)); exact BK149.out⟩,⟨by repeat (first | (with_reducible first | exact HB.out | apply zbq | apply zbr | apply zbv | refine zbE ?_ GE141.out | refine zbE ?_ GE149.out) | exact HB.out)⟩⟩
 case round =>
  clear H'
  try clear c2
  try clear p2
  try clear c6
  try clear c7
  try clear hcz7_0
  try clear hcz7_1
  try clear hcz7_2
  try clear hfz7_0
  try clear hfz7_1
  try clear hfz7_2
  obtain⟨x9_1,x150000_1,x150001_1,x150002_1,u150001,u150002,rfl,HA,HK1,HO_150001,HO_150002,BK141,BK149,HB⟩:=hrel
  cases gk with
  | zero=>exact absurd HA.out (by simp [rat_product.l0])
  | succ k1 =>
   have H:=HA.out
   clear HA
   simp only [rat_product.l0] at H
   by_cases c10:x9_1 < (l0.length:Int)
   ·
    rw [if_pos c10] at H
    have c10b0:decide (x9_1 < (l0.length:Int))=true:=decide_eq_true c10
    clear c10
    by_cases c11:0≤x9_1
    ·
     rw [if_pos c11] at H
     have c11b0:decide (0≤x9_1)=true:=decide_eq_true c11
     clear c11
     by_cases c12:x9_1 < (l0.length:Int)
     ·
      rw [if_pos c12] at H
      have c12b0:decide (x9_1 < (l0.length:Int))=true:=decide_eq_true c12
      clear c12
      replace H:=Option.bind_eq_some_iff.mp H
      obtain⟨⟨t152,t153,t156⟩,A130,H⟩:=H
      replace H:((nat_Mul.f k1 x150001_1 t153).bind fun t159=>((nat_Mul.f k1 x150002_1 t156).bind fun t162=>((rat_Make.f (x150000_1 != t152) t159 t162).bind fun bt165=>(rat_product.l0 k1 l0 (l0.length:Int) (wrap64 (x9_1+1)) bt165.1 bt165.2.1 bt165.2.2.1))))=some (r1,r2,r3):=H
      have A13:=Aside0.mk A130
      clear A130
      replace H:=Option.bind_eq_some_iff.mp H
      obtain⟨t159,A140,H⟩:=H
      replace H:((nat_Mul.f k1 x150002_1 t156).bind fun t162=>((rat_Make.f (x150000_1 != t152) t159 t162).bind fun bt165=>(rat_product.l0 k1 l0 (l0.length:Int) (wrap64 (x9_1+1)) bt165.1 bt165.2.1 bt165.2.2.1)))=some (r1,r2,r3):=H
      have A14:=Aside0.mk A140
      clear A140
      replace H:=Option.bind_eq_some_iff.mp H
      obtain⟨t162,A150,H⟩:=H
      replace H:((rat_Make.f (x150000_1 != t152) t159 t162).bind fun bt165=>(rat_product.l0 k1 l0 (l0.length:Int) (wrap64 (x9_1+1)) bt165.1 bt165.2.1 bt165.2.2.1))=some (r1,r2,r3):=H
      have A15:=Aside0.mk A150
      clear A150
      replace H:=Option.bind_eq_some_iff.mp H
      obtain⟨⟨t165,t166,t169,t172⟩,A160,H⟩:=H
      replace H:(rat_product.l0 k1 l0 (l0.length:Int) (wrap64 (x9_1+1)) t165 t166 t169)=some (r1,r2,r3):=H
      have A16:=Aside0.mk A160
      clear A160
      have H':=Aside0.mk H
      clear H
      have p150:0≤(x9_1:Int):=of_decide_eq_true qs
      have q150:x9_1 < (l0.length:Int):=of_decide_eq_true qs
      obtain⟨ad150,A150_1,c150_1,A150_2,c150_2,e150,hx150_0,hx150_1,hx150_2,hl150_1,hi150_1,hl150_2,hi150_2⟩:=at_T25 HR0.out x9_1 p150 q150
      cases e150
      replace hx150_0:=(HB.out.cell (World.block_lt_of_cell? w _ hx150_0)).trans hx150_0
      replace hx150_1:=(HB.out.cell (World.block_lt_of_cell? w _ hx150_1)).trans hx150_1
      replace hx150_2:=(HB.out.cell (World.block_lt_of_cell? w _ hx150_2)).trans hx150_2
      have HR150_1:=Aside0.mk hi150_1
      have HC150_1:=Aside0.mk hl150_1
      clear hi150_1 hl150_1
      have HR150_2:=Aside0.mk hi150_2
      have HC150_2:=Aside0.mk hl150_2
      clear hi150_2 hl150_2
      replace p150:=eq_true p150
      replace q150:=eq_true q150
      try go_wp2_with (first | ((with_reducible refine zbG (N:=5) rfl ?_); refine zbF ?hg (N:=5) ?hd (cs:=#[.bool false,.slice none 0 0,.slice none 0 0]) (t:=25) ?hr ?_; (case hd=>rfl); (case hg=>rfl); (case hr=>first | (go_simp; done) | (go_simp; rfl)); intro gb151 hg w17 hbox hb; have n0_:=Aside0.mk (Kd.R_below (qr HO_150001.out) hb); have n1_:=Aside0.mk (Kd.R_below (qr HO_150002.out) hb); have n2_:=Aside0.mk (zbt (g:=gb141) (o:=.cells #[.bool false,.slice none 0 0,.slice none 0 0] 25 (0,0)) (qk BK141.out) hb); have n3_:=Aside0.mk (zbt (g:=gb149) (o:=.cells #[.bool x150000_1,u150001,u150002] 25 (0,0)) (qk BK149.out) hb); have n4_:=Aside0.mk (zbp (qb2 HB.out GE141.out GE149.out) hb); have n5_:=Aside0.mk (hbox); have n6_:=Aside0.mk ((by rw [hg]; exact(zbs (qb2 HB.out GE141.out GE149.out)):w.heap.size≤gb151)); have n7_:=Aside0.mk ((by rw [hg]; exact(zbs (qb2 HB.out GE141.out GE149.out)):w.heap.size≤gb151)); have n8_:=Aside0.mk ((by rw [hg]; exact Nat.ne_of_lt (zbQ (g:=gb141) (o:=.cells #[.bool false,.slice none 0 0,.slice none 0 0] 25 (0,0)) (qk BK141.out)):gb141≠gb151)); have n9_:=Aside0.mk ((by rw [hg]; exact Nat.ne_of_gt (zbQ (g:=gb141) (o:=.cells #[.bool false,.slice none 0 0,.slice none 0 0] 25 (0,0)) (qk BK141.out)):gb151≠gb141)); have n10_:=Aside0.mk ((by rw [hg]; exact Nat.ne_of_lt (zbQ (g:=gb149) (o:=.cells #[.bool x150000_1,u150001,u150002] 25 (0,0)) (qk BK149.out)):gb149≠gb151)); have n11_:=Aside0.mk ((by rw [hg]; exact Nat.ne_of_gt (zbQ (g:=gb149) (o:=.cells #[.bool x150000_1,u150001,u150002] 25 (0,0)) (qk BK149.out)):gb151≠gb149)); clear HO_150001; clear HO_150002; clear BK141; clear BK149; clear HB; have HO_150001:=n0_; have HO_150002:=n1_; have BK141:=n2_; have BK149:=n3_; have HB:=n4_; have BK151:=n5_; have GW151:=n6_; have GE151:=n7_; have NB141_151:=n8_; have NB151_141:=n9_; have NB149_151:=n10_; have NB151_149:=n11_; clear n0_ n1_ n2_ n3_ n4_ n5_ n6_ n7_ n8_ n9_ n10_ n11_; clear hb hbox hg; have hnb18:=NB151_141.out; have hnc18:=NB141_151.out; have hnb19:=NB151_149.out; have hnc19:=NB149_151.out; obtain⟨hcz20_0,hcz20_1,hcz20_2,hfz20_0,hfz20_1,hfz20_2⟩:=qz BK151.out) | ((with_reducible refine zbC (f:=16) rfl ?_); refine zbO (some 14) rfl rfl Try.func16 (by kernel_rfl) rfl #[.agg #[.bool ((rd_T25 l0 x9_1).f0),.slice A150_1 ((rd_T25 l0 x9_1).f1).length c150_1,.slice A150_2 ((rd_T25 l0 x9_1).f2).length c150_2]] rfl (by (try simp only [List.map_toArray,List.map_cons,List.map_nil]); first | done | rfl | (simp only [List.length_drop,List.length_take]; rfl)) ?_; (with_reducible refine(rat_Norm.calls ((rd_T25 l0 x9_1).f0) _ _ ((rd_T25 l0 x9_1).f1) _ _ ((rd_T25 l0 x9_1).f2) t152 t153 t156 _ ?side1 ?side2 ?side3 ?side4 A13.out).mono ?_); (case side1=>exact Kd.C_below HR150_1.out (qb3 HB.out GE141.out GE149.out GE151.out)); (case side2=>exact HC150_1.out); (case side3=>exact Kd.C_below HR150_2.out (qb3 HB.out GE141.out GE149.out GE151.out)); (case side4=>exact HC150_2.out); rintro e w21 ⟨v154,v157,rfl,ho0,ho1,hb⟩; refine⟨_,rfl,?_⟩; have n0_:=Aside0.mk (Kd.R_mono (Kd.R_told (Kd.R_told (Kd.R_old (by (with_reducible repeat (first | apply Kd.R_alloc | apply Kd.R_drewN | apply Kd.R_drew)); exact(Kd.R_mono (Kd.R_far (p:=⟨gb151,2,none⟩) (Kd.R_far (p:=⟨gb151,1,none⟩) (Kd.R_far (p:=⟨gb151,0,none⟩) (Kd.R_types HO_150001.out BK151.out (by decide)) (fun _ hk=>hk.2) (.bool ((rd_T25 l0 x9_1).f0))) (fun _ hk=>hk.2) (.slice A150_1 ((rd_T25 l0 x9_1).f1).length c150_1)) (fun _ hk=>hk.2) (.slice A150_2 ((rd_T25 l0 x9_1).f2).length c150_2)) (fun _ h_=>h_.1))) hb) (Kd.R_base ho0)) (Kd.R_base ho1)) (fun _ h_=>h_.1)); have n1_:=Aside0.mk (Kd.R_mono (Kd.R_told (Kd.R_told (Kd.R_old (by (with_reducible repeat (first | apply Kd.R_alloc | apply Kd.R_drewN | apply Kd.R_drew)); exact(Kd.R_mono (Kd.R_far (p:=⟨gb151,2,none⟩) (Kd.R_far (p:=⟨gb151,1,none⟩) (Kd.R_far (p:=⟨gb151,0,none⟩) (Kd.R_types HO_150002.out BK151.out (by decide)) (fun _ hk=>hk.2) (.bool ((rd_T25 l0 x9_1).f0))) (fun _ hk=>hk.2) (.slice A150_1 ((rd_T25 l0 x9_1).f1).length c150_1)) (fun _ hk=>hk.2) (.slice A150_2 ((rd_T25 l0 x9_1).f2).length c150_2)) (fun _ h_=>h_.1))) hb) (Kd.R_base ho0)) (Kd.R_base ho1)) (fun _ h_=>h_.1)); have n2_:=Aside0.mk (Kd.R_lower (Kd.R_new' (Kd.R_new' ho0 (Kd.R_lt (by (with_reducible repeat (first | apply Kd.R_alloc | apply Kd.R_drewN | apply Kd.R_drew)); exact(Kd.R_mono (Kd.R_far (p:=⟨gb151,2,none⟩) (Kd.R_far (p:=⟨gb151,1,none⟩) (Kd.R_far (p:=⟨gb151,0,none⟩) (Kd.R_types HO_150001.out BK151.out (by decide)) (fun _ hk=>hk.2) (.bool ((rd_T25 l0 x9_1).f0))) (fun _ hk=>hk.2) (.slice A150_1 ((rd_T25 l0 x9_1).f1).length c150_1)) (fun _ hk=>hk.2) (.slice A150_2 ((rd_T25 l0 x9_1).f2).length c150_2)) (fun _ h_=>h_.1))))) (Kd.R_lt (by (with_reducible repeat (first | apply Kd.R_alloc | apply Kd.R_drewN | apply Kd.R_drew)); exact(Kd.R_mono (Kd.R_far (p:=⟨gb151,2,none⟩) (Kd.R_far (p:=⟨gb151,1,none⟩) (Kd.R_far (p:=⟨gb151,0,none⟩) (Kd.R_types HO_150002.out BK151.out (by decide)) (fun _ hk=>hk.2) (.bool ((rd_T25 l0 x9_1).f0))) (fun _ hk=>hk.2) (.slice A150_1 ((rd_T25 l0 x9_1).f1).length c150_1)) (fun _ hk=>hk.2) (.slice A150_2 ((rd_T25 l0 x9_1).f2).length c150_2)) (fun _ h_=>h_.1))))) (zbs (qb3 HB.out GE141.out GE149.out GE151.out))); have n3_:=Aside0.mk (Kd.R_lower (Kd.R_new' (Kd.R_new' ho1 (Kd.R_lt (by (with_reducible repeat (first | apply Kd.R_alloc | apply Kd.R_drewN | apply Kd.R_drew)); exact(Kd.R_mono (Kd.R_far (p:=⟨gb151,2,none⟩) (Kd.R_far (p:=⟨gb151,1,none⟩) (Kd.R_far (p:=⟨gb151,0,none⟩) (Kd.R_types HO_150001.out BK151.out (by decide)) (fun _ hk=>hk.2) (.bool ((rd_T25 l0 x9_1).f0))) (fun _ hk=>hk.2) (.slice A150_1 ((rd_T25 l0 x9_1).f1).length c150_1)) (fun _ hk=>hk.2) (.slice A150_2 ((rd_T25 l0 x9_1).f2).length c150_2)) (fun _ h_=>h_.1))))) (Kd.R_lt (by (with_reducible repeat (first | apply Kd.R_alloc | apply Kd.R_drewN | apply Kd.R_drew)); exact(Kd.R_mono (Kd.R_far (p:=⟨gb151,2,none⟩) (Kd.R_far (p:=⟨gb151,1,none⟩) (Kd.R_far (p:=⟨gb151,0,none⟩) (Kd.R_types HO_150002.out BK151.out (by decide)) (fun _ hk=>hk.2) (.bool ((rd_T25 l0 x9_1).f0))) (fun _ hk=>hk.2) (.slice A150_1 ((rd_T25 l0 x9_1).f1).length c150_1)) (fun _ hk=>hk.2) (.slice A150_2 ((rd_T25 l0 x9_1).f2).length c150_2)) (fun _ h_=>h_.1))))) (zbs (qb3 HB.out GE141.out GE149.out GE151.out))); have n4_:=Aside0.mk (zbt (g:=gb141) (o:=.cells #[.bool false,.slice none 0 0,.slice none 0 0] 25 (0,0)) (by (with_reducible repeat (first | refine zby ?_ _ | refine zbx ?_ | refine zbw ?_ _)); refine zbP ?_ NB141_151.out _; (with_reducible repeat (first | refine zby ?_ _ | refine zbx ?_ | refine zbw ?_ _)); refine zbP ?_ NB141_151.out _; (with_reducible repeat (first | refine zby ?_ _ | refine zbx ?_ | refine zbw ?_ _)); refine zbP ?_ NB141_151.out _; (with_reducible repeat (first | refine zby ?_ _ | refine zbx ?_ | refine zbw ?_ _)); exact BK141.out) hb); have n5_:=Aside0.mk (zbt (g:=gb149) (o:=.cells #[.bool x150000_1,u150001,u150002] 25 (0,0)) (by (with_reducible repeat (first | refine zby ?_ _ | refine zbx ?_ | refine zbw ?_ _)); refine zbP ?_ NB149_151.out _; (with_reducible repeat (first | refine zby ?_ _ | refine zbx ?_ | refine zbw ?_ _)); refine zbP ?_ NB149_151.out _; (with_reducible repeat (first | refine zby ?_ _ | refine zbx ?_ | refine zbw ?_ _)); refine zbP ?_ NB149_151.out _; (with_reducible repeat (first | refine zby ?_ _ | refine zbx ?_ | refine zbw ?_ _)); exact BK149.out) hb); have n6_:=Aside0.mk (zbt (g:=gb151) (o:=.cells #[.bool ((rd_T25 l0 x9_1).f0),.slice A150_1 ((rd_T25 l0 x9_1).f1).length c150_1,.slice A150_2 ((rd_T25 l0 x9_1).f2).length c150_2] 25 (0,0)) (by (with_reducible repeat (first | refine zby ?_ _ | refine zbx ?_ | refine zbw ?_ _)); refine zbK (cs:=#[.bool ((rd_T25 l0 x9_1).f0),.slice A150_1 ((rd_T25 l0 x9_1).f1).length c150_1,.slice none 0 0]) ?_ 2 _ rfl; (with_reducible repeat (first | refine zby ?_ _ | refine zbx ?_ | refine zbw ?_ _)); refine zbK (cs:=#[.bool ((rd_T25 l0 x9_1).f0),.slice none 0 0,.slice none 0 0]) ?_ 1 _ rfl; (with_reducible repeat (first | refine zby ?_ _ | refine zbx ?_ | refine zbw ?_ _)); refine zbK (cs:=#[.bool false,.slice none 0 0,.slice none 0 0]) ?_ 0 _ rfl; (with_reducible repeat (first | refine zby ?_ _ | refine zbx ?_ | refine zbw ?_ _)); exact BK151.out) hb); have n7_:=Aside0.mk (zbp (qb3 HB.out GE141.out GE149.out GE151.out) hb); clear HO_150001; clear HO_150002; clear BK141; clear BK149; clear BK151; clear HB; have HO_150001:=n0_; have HO_150002:=n1_; have HO155:=n2_; have HO158:=n3_; have BK141:=n4_; have BK149:=n5_; have BK151:=n6_; have HB:=n7_; clear n0_ n1_ n2_ n3_ n4_ n5_ n6_ n7_; (try clear hb); (try clear hb2); (try clear hk); (try clear hi); (try clear ho0); (try clear ho1); obtain⟨hcz22_0,hcz22_1,hcz22_2,hfz22_0,hfz22_1,hfz22_2⟩:=qz BK151.out; obtain⟨Ao23,co23,eo23⟩:=Kd.R_slice HO155.out; subst eo23; obtain⟨Ao24,co24,eo24⟩:=Kd.R_slice HO158.out; subst eo24))
      have n0_:Aside0 (Kd.R (Kd.int .u32) 63 (((w21.setCell ⟨gb151,0,none⟩ (.bool t152)).setCell ⟨gb151,1,none⟩ (.slice Ao23 t153.length co23)).setCell ⟨gb151,2,none⟩ (.slice Ao24 t156.length co24)) w.heap.size (fun k_=>some k_≠(u150002:Value).ownBlock∧some k_≠(.slice Ao23 t153.length co23:Value).ownBlock∧some k_≠(.slice Ao24 t156.length co24:Value).ownBlock) u150001 x150001_1):=⟨by (with_reducible repeat (first | apply Kd.R_alloc | apply Kd.R_drewN | apply Kd.R_drew)); exact Kd.R_mono (Kd.R_far (p:=⟨gb151,2,none⟩) (Kd.R_far (p:=⟨gb151,1,none⟩) (Kd.R_far (p:=⟨gb151,0,none⟩) (Kd.R_types HO_150001.out BK151.out (by decide)) (fun _ hk=>hk.2) (.bool t152)) (fun _ hk=>hk.2) (.slice Ao23 t153.length co23)) (fun _ hk=>hk.2) (.slice Ao24 t156.length co24)) (fun _ hk=>⟨hk.1.1.1,⟨hk.1.1.2,hk.1.2⟩⟩)⟩
      have n1_:Aside0 (Kd.R (Kd.int .u32) 63 (((w21.setCell ⟨gb151,0,none⟩ (.bool t152)).setCell ⟨gb151,1,none⟩ (.slice Ao23 t153.length co23)).setCell ⟨gb151,2,none⟩ (.slice Ao24 t156.length co24)) w.heap.size (fun k_=>some k_≠(u150001:Value).ownBlock∧some k_≠(.slice Ao23 t153.length co23:Value).ownBlock∧some k_≠(.slice Ao24 t156.length co24:Value).ownBlock) u150002 x150002_1):=⟨by (with_reducible repeat (first | apply Kd.R_alloc | apply Kd.R_drewN | apply Kd.R_drew)); exact Kd.R_mono (Kd.R_far (p:=⟨gb151,2,none⟩) (Kd.R_far (p:=⟨gb151,1,none⟩) (Kd.R_far (p:=⟨gb151,0,none⟩) (Kd.R_types HO_150002.out BK151.out (by decide)) (fun _ hk=>hk.2) (.bool t152)) (fun _ hk=>hk.2) (.slice Ao23 t153.length co23)) (fun _ hk=>hk.2) (.slice Ao24 t156.length co24)) (fun _ hk=>⟨hk.1.1.1,⟨hk.1.1.2,hk.1.2⟩⟩)⟩
      have n2_:Aside0 (Kd.R (Kd.int .u32) 63 (((w21.setCell ⟨gb151,0,none⟩ (.bool t152)).setCell ⟨gb151,1,none⟩ (.slice Ao23 t153.length co23)).setCell ⟨gb151,2,none⟩ (.slice Ao24 t156.length co24)) w.heap.size (fun k_=>some k_≠(u150001:Value).ownBlock∧some k_≠(u150002:Value).ownBlock∧some k_≠(.slice Ao24 t156.length co24:Value).ownBlock) (.slice Ao23 t153.length co23) t153):=⟨by (with_reducible repeat (first | apply Kd.R_alloc | apply Kd.R_drewN | apply Kd.R_drew)); exact Kd.R_mono (Kd.R_far (p:=⟨gb151,2,none⟩) (Kd.R_far (p:=⟨gb151,1,none⟩) (Kd.R_far (p:=⟨gb151,0,none⟩) (Kd.R_types HO155.out BK151.out (by decide)) (fun _ hk=>hk.2) (.bool t152)) (fun _ hk=>hk.2) (.slice Ao23 t153.length co23)) (fun _ hk=>hk.2) (.slice Ao24 t156.length co24)) (fun _ hk=>⟨hk.1.1.2,⟨hk.1.2,hk.1.1.1⟩⟩)⟩
      have n3_:Aside0 (Kd.R (Kd.int .u32) 63 (((w21.setCell ⟨gb151,0,none⟩ (.bool t152)).setCell ⟨gb151,1,none⟩ (.slice Ao23 t153.length co23)).setCell ⟨gb151,2,none⟩ (.slice Ao24 t156.length co24)) w.heap.size (fun k_=>some k_≠(u150001:Value).ownBlock∧some k_≠(u150002:Value).ownBlock∧some k_≠(.slice Ao23 t153.length co23:Value).ownBlock) (.slice Ao24 t156.length co24) t156):=⟨by (with_reducible repeat (first | apply Kd.R_alloc | apply Kd.R_drewN | apply Kd.R_drew)); exact Kd.R_mono (Kd.R_far (p:=⟨gb151,2,none⟩) (Kd.R_far (p:=⟨gb151,1,none⟩) (Kd.R_far (p:=⟨gb151,0,none⟩) (Kd.R_types HO158.out BK151.out (by decide)) (fun _ hk=>hk.2) (.bool t152)) (fun _ hk=>hk.2) (.slice Ao23 t153.length co23)) (fun _ hk=>hk.2) (.slice Ao24 t156.length co24)) (fun _ hk=>⟨hk.1.1.2,⟨hk.1.2,hk.1.1.1⟩⟩)⟩
      have n4_:Aside0 ((((w21.setCell ⟨gb151,0,none⟩ (.bool t152)).setCell ⟨gb151,1,none⟩ (.slice Ao23 t153.length co23)).setCell ⟨gb151,2,none⟩ (.slice Ao24 t156.length co24)).heap[gb141]? = some (.cells #[.bool false,.slice none 0 0,.slice none 0 0] 25 (0,0))):=⟨by (with_reducible repeat (first | refine zby ?_ _ | refine zbx ?_ | refine zbw ?_ _)); refine zbP ?_ NB141_151.out _; (with_reducible repeat (first | refine zby ?_ _ | refine zbx ?_ | refine zbw ?_ _)); refine zbP ?_ NB141_151.out _; (with_reducible repeat (first | refine zby ?_ _ | refine zbx ?_ | refine zbw ?_ _)); refine zbP ?_ NB141_151.out _; (with_reducible repeat (first | refine zby ?_ _ | refine zbx ?_ | refine zbw ?_ _)); exact BK141.out⟩
      have n5_:Aside0 ((((w21.setCell ⟨gb151,0,none⟩ (.bool t152)).setCell ⟨gb151,1,none⟩ (.slice Ao23 t153.length co23)).setCell ⟨gb151,2,none⟩ (.slice Ao24 t156.length co24)).heap[gb149]? = some (.cells #[.bool x150000_1,u150001,u150002] 25 (0,0))):=⟨by (with_reducible repeat (first | refine zby ?_ _ | refine zbx ?_ | refine zbw ?_ _)); refine zbP ?_ NB149_151.out _; (with_reducible repeat (first | refine zby ?_ _ | refine zbx ?_ | refine zbw ?_ _)); refine zbP ?_ NB149_151.out _; (with_reducible repeat (first | refine zby ?_ _ | refine zbx ?_ | refine zbw ?_ _)); refine zbP ?_ NB149_151.out _; (with_reducible repeat (first | refine zby ?_ _ | refine zbx ?_ | refine zbw ?_ _)); exact BK149.out⟩
      have n6_:Aside0 ((((w21.setCell ⟨gb151,0,none⟩ (.bool t152)).setCell ⟨gb151,1,none⟩ (.slice Ao23 t153.length co23)).setCell ⟨gb151,2,none⟩ (.slice Ao24 t156.length co24)).heap[gb151]? = some (.cells #[.bool t152,.slice Ao23 t153.length co23,.slice Ao24 t156.length co24] 25 (0,0))):=⟨by (with_reducible repeat (first | refine zby ?_ _ | refine zbx ?_ | refine zbw ?_ _)); refine zbK (cs:=#[.bool t152,.slice Ao23 t153.length co23,.slice A150_2 ((rd_T25 l0 x9_1).f2).length c150_2]) ?_ 2 _ rfl; (with_reducible repeat (first | refine zby ?_ _ | refine zbx ?_ | refine zbw ?_ _)); refine zbK (cs:=#[.bool t152,.slice A150_1 ((rd_T25 l0 x9_1).f1).length c150_1,.slice A150_2 ((rd_T25 l0 x9_1).f2).length c150_2]) ?_ 1 _ rfl; (with_reducible repeat (first | refine zby ?_ _ | refine zbx ?_ | refine zbw ?_ _)); refine zbK (cs:=#[.bool ((rd_T25 l0 x9_1).f0),.slice A150_1 ((rd_T25 l0 x9_1).f1).length c150_1,.slice A150_2 ((rd_T25 l0 x9_1).f2).length c150_2]) ?_ 0 _ rfl; (with_reducible repeat (first | refine zby ?_ _ | refine zbx ?_ | refine zbw ?_ _)); exact BK151.out⟩
      have n7_:Aside0 (Below w.heap.size w (((w21.setCell ⟨gb151,0,none⟩ (.bool t152)).setCell ⟨gb151,1,none⟩ (.slice Ao23 t153.length co23)).setCell ⟨gb151,2,none⟩ (.slice Ao24 t156.length co24))):=⟨by repeat (first | (with_reducible first | exact HB.out | apply zbq | apply zbr | apply zbv | refine zbE ?_ GE141.out | refine zbE ?_ GE149.out | refine zbE ?_ GE151.out) | exact HB.out)⟩
      (try clear HO_150001)
      (try clear HO_150002)
      (try clear HO155)
      (try clear HO158)
      (try clear BK141)
      (try clear BK149)
      (try clear BK151)
      (try clear HB)
      generalize (((w21.setCell ⟨gb151,0,none⟩ (.bool t152)).setCell ⟨gb151,1,none⟩ (.slice Ao23 t153.length co23)).setCell ⟨gb151,2,none⟩ (.slice Ao24 t156.length co24))=w25 at n0_ n1_ n2_ n3_ n4_ n5_ n6_ n7_ ⊢
      have HO_150001:=n0_
      have HO_150002:=n1_
      have HO155:=n2_
      have HO158:=n3_
      have BK141:=n4_
      have BK149:=n5_
      have BK151:=n6_
      have HB:=n7_
      clear n0_ n1_ n2_ n3_ n4_ n5_ n6_ n7_
      have n0_:=Aside0.mk (Kd.R_drew HO_150001.out)
      have n1_:=Aside0.mk (Kd.R_drew HO_150002.out)
      have n2_:=Aside0.mk (Kd.R_drew HO155.out)
      have n3_:=Aside0.mk (Kd.R_drew HO158.out)
      have n4_:=Aside0.mk (zbx BK141.out)
      have n5_:=Aside0.mk (zbx BK149.out)
      have n6_:=Aside0.mk (zbx BK151.out)
      have n7_:=Aside0.mk (zbv HB.out)
      clear HO_150001
      clear HO_150002
      clear HO155
      clear HO158
      clear BK141
      clear BK149
      clear BK151
      clear HB
      have HO_150001:=n0_
      have HO_150002:=n1_
      have HO155:=n2_
      have HO158:=n3_
      have BK141:=n4_
      have BK149:=n5_
      have BK151:=n6_
      have HB:=n7_
      clear n0_ n1_ n2_ n3_ n4_ n5_ n6_ n7_
      obtain⟨Ao27,co27,eo27⟩:=Kd.R_slice HO_150001.out
      (first | subst eo27 | (injection eo27 with f1_ f2_ f3_; have f4_:=f1_.symm; have f5_:=f3_.symm; clear f1_ f2_ f3_; subst f4_; subst f5_))
      refine start_ (n:=20) (S:=fun w'=>w'.cell? ⟨gb149,0,none⟩=some (.bool x150000_1)∧w'.cell? ⟨gb149,1,none⟩=some (.slice Ao27 x150001_1.length co27)∧w'.cell? ⟨gb149,2,none⟩=some (u150002)∧w'.cell? ⟨gb151,0,none⟩=some (.bool t152)∧w'.cell? ⟨gb151,1,none⟩=some (.slice Ao23 t153.length co23)∧w'.cell? ⟨gb151,2,none⟩=some (.slice Ao24 t156.length co24)) (ds:=[19]) #[zf,zf,zf,zf,zf,zf,zf,zf,zf,zf,zf,zf,zf,zf,zf,zf,zf,zf,zf,zf] (by kernel_rfl) rfl rfl ⟨(zbu BK149.out 0).trans rfl,(zbu BK149.out 1).trans rfl,(zbu BK149.out 2).trans rfl,(zbu BK151.out 0).trans rfl,(zbu BK151.out 1).trans rfl,(zbu BK151.out 2).trans rfl⟩ (fun hHeld=>?_); refine with_tabW rat_product.tab6 rat_product.bits6 (fun HT_ HW_=>?_)
      generalize w25.drew=w26 at HO_150001 HO_150002 HO155 HO158 BK141 BK149 BK151 HB hHeld ⊢
      refine qpT 0 (some 16) ?_
      refine qpT 2 (some 18) ?_
      refine qpT 5 (some 21) ?_
      refine qpT 7 (some 23) ?_
      refine qpT 10 (some 26) ?_
      refine qpT 12 (some 28) ?_
      refine take_ (i:=1) (N:=some 17) (v:=?_) (a':=?_) #[zt,zt,zt,zf,zf,zt,zf,zt,zf,zf,zt,zf,zt,zf,zf,zf,zf,zf,zf,zf] rfl rfl (zci HT_.out HW_.out (by kernel_rfl)) (fun _ _ _ h=>h) (Or.inl ⟨by rfl,?_⟩) hHeld ?_ ?_
      rotate_left
      ·
       rintro w' ⟨s0,s1,s2,s3,s4,s5⟩
       go_simp
       with_reducible rfl
      rotate_left
      ·
       simp only [Act.put,zA1,zA2,zA3,zcj,zcz]
       rfl
      refine take_ (i:=3) (N:=some 19) (v:=?_) (a':=?_) #[zt,zt,zt,zt,zf,zt,zf,zt,zf,zf,zt,zf,zt,zf,zf,zf,zf,zf,zf,zf] rfl rfl (zci HT_.out HW_.out (by kernel_rfl)) (fun _ _ _ h=>h) (Or.inl ⟨by rfl,?_⟩) hHeld ?_ ?_
      rotate_left
      ·
       rintro w' ⟨s0,s1,s2,s3,s4,s5⟩
       go_simp
       with_reducible rfl
      rotate_left
      ·
       simp only [Act.put,zA1,zA2,zA3,zcj,zcz]
       rfl
      refine qpT 4 (some 20) ?_
      refine take_ (i:=6) (N:=some 22) (v:=?_) (a':=?_) #[zt,zt,zt,zt,zt,zt,zt,zt,zf,zf,zt,zf,zt,zf,zf,zf,zf,zf,zf,zf] rfl rfl (zci HT_.out HW_.out (by kernel_rfl)) (fun _ _ _ h=>h) (Or.inl ⟨by rfl,?_⟩) hHeld ?_ ?_
      rotate_left
      ·
       rintro w' ⟨s0,s1,s2,s3,s4,s5⟩
       go_simp
       with_reducible rfl
      rotate_left
      ·
       simp only [Act.put,zA1,zA2,zA3,zcj,zcz]
       rfl
      refine take_ (i:=8) (N:=some 24) (v:=?_) (a':=?_) #[zt,zt,zt,zt,zt,zt,zt,zt,zt,zf,zt,zf,zt,zf,zf,zf,zf,zf,zf,zf] rfl rfl (zci HT_.out HW_.out (by kernel_rfl)) (fun _ _ _ h=>h) (Or.inl ⟨by rfl,?_⟩) hHeld ?_ ?_
      rotate_left
      ·
       rintro w' ⟨s0,s1,s2,s3,s4,s5⟩
       go_simp
       with_reducible rfl
      rotate_left
      ·
       simp only [Act.put,zA1,zA2,zA3,zcj,zcz]
       rfl
      refine take_ (i:=11) (N:=some 27) (v:=?_) (a':=?_) #[zt,zt,zt,zt,zt,zt,zt,zt,zt,zf,zt,zt,zt,zf,zf,zf,zf,zf,zf,zf] rfl rfl (zci HT_.out HW_.out (by kernel_rfl)) (fun _ _ _ h=>h) (Or.inl ⟨by rfl,?_⟩) hHeld ?_ ?_
      rotate_left
      ·
       rintro w' ⟨s0,s1,s2,s3,s4,s5⟩
       go_simp
       with_reducible rfl
      rotate_left
      ·
       simp only [Act.put,zA1,zA2,zA3,zcj,zcz]
       rfl
      refine take_ (i:=13) (N:=some 29) (v:=?_) (a':=?_) #[zt,zt,zt,zt,zt,zt,zt,zt,zt,zf,zt,zt,zt,zt,zf,zf,zf,zf,zf,zf] rfl rfl (zci HT_.out HW_.out (by kernel_rfl)) (fun _ _ _ h=>h) (Or.inl ⟨by rfl,?_⟩) hHeld ?_ ?_
      rotate_left
      ·
       rintro w' ⟨s0,s1,s2,s3,s4,s5⟩
       go_simp
       with_reducible rfl
      rotate_left
      ·
       simp only [Act.put,zA1,zA2,zA3,zcj,zcz]
       rfl
      refine qoT 9 (some 25) (fun K hK=>?_)
      refine goes_ Try.func103 (by kernel_rfl) rfl #[.slice Ao27 x150001_1.length co27,.slice Ao23 t153.length co23] (by rfl) rfl rfl (by (try simp only [List.map_toArray,List.map_cons,List.map_nil]); first | done | rfl | (simp only [List.length_drop,List.length_take]; rfl)) ?_
      with_reducible refine(nat_Mul.calls k1 _ _ x150001_1 _ _ t153 t159 _ ?side1 ?side2 ?side3 ?side4 A14.out).mono ?_
      (case side1=>exact qc (Kd.R_reads' HO_150001.out).2.2)
      (case side2=>exact(Kd.R_reads' HO_150001.out).2.1)
      (case side3=>exact qc (Kd.R_reads' HO155.out).2.2)
      (case side4=>exact(Kd.R_reads' HO155.out).2.1)
      rintro e w28 ⟨v160,rfl,ho0,hb⟩
      refine⟨_,rfl,?_⟩
      have n0_:=Aside0.mk (Kd.R_elder' (qr HO_150001.out) (Kd.R_base ho0) hb)
      have n1_:=Aside0.mk (Kd.R_elder' (qr HO_150002.out) (Kd.R_base ho0) hb)
      have n2_:=Aside0.mk (Kd.R_elder' (qr HO155.out) (Kd.R_base ho0) hb)
      have n3_:=Aside0.mk (Kd.R_elder' (qr HO158.out) (Kd.R_base ho0) hb)
      have n4_:=Aside0.mk (Kd.R_lower (Kd.R_new' (Kd.R_new' (Kd.R_new' (Kd.R_new' ho0 (Kd.R_lt (qr HO_150001.out))) (Kd.R_lt (qr HO_150002.out))) (Kd.R_lt (qr HO155.out))) (Kd.R_lt (qr HO158.out))) (zbs (qb3 HB.out GE141.out GE149.out GE151.out)))
      have n5_:=Aside0.mk (zbt (g:=gb141) (o:=.cells #[.bool false,.slice none 0 0,.slice none 0 0] 25 (0,0)) (qk BK141.out) hb)
      have n6_:=Aside0.mk (zbt (g:=gb149) (o:=.cells #[.bool x150000_1,.slice Ao27 x150001_1.length co27,u150002] 25 (0,0)) (qk BK149.out) hb)
      have n7_:=Aside0.mk (zbt (g:=gb151) (o:=.cells #[.bool t152,.slice Ao23 t153.length co23,.slice Ao24 t156.length co24] 25 (0,0)) (qk BK151.out) hb)
      have n8_:=Aside0.mk (zbp (qb3 HB.out GE141.out GE149.out GE151.out) hb)
      clear HO_150001
      clear HO_150002
      clear HO155
      clear HO158
      clear BK141
      clear BK149
      clear BK151
      clear HB
      have HO_150001:=n0_
      have HO_150002:=n1_
      have HO155:=n2_
      have HO158:=n3_
      have HO161:=n4_
      have BK141:=n5_
      have BK149:=n6_
      have BK151:=n7_
      have HB:=n8_
      clear n0_ n1_ n2_ n3_ n4_ n5_ n6_ n7_ n8_
      (try clear hb)
      (try clear hb2)
      (try clear hk)
      (try clear hi)
      (try clear ho0)
      obtain⟨Ao29,co29,eo29⟩:=Kd.R_slice HO_150002.out
      (first | subst eo29 | (injection eo29 with f1_ f2_ f3_; have f4_:=f1_.symm; have f5_:=f3_.symm; clear f1_ f2_ f3_; subst f4_; subst f5_))
      refine hK.out _ _ ⟨(zbu BK149.out 0).trans rfl,(zbu BK149.out 1).trans rfl,(zbu BK149.out 2).trans rfl,(zbu BK151.out 0).trans rfl,(zbu BK151.out 1).trans rfl,(zbu BK151.out 2).trans rfl⟩ (fun hHeld=>?_)
      clear hK K
      refine qn ?_
      refine qoT 14 (some 30) (fun K hK=>?_)
      refine goes_ Try.func103 (by kernel_rfl) rfl #[.slice Ao29 x150002_1.length co29,.slice Ao24 t156.length co24] (by rfl) rfl rfl (by (try simp only [List.map_toArray,List.map_cons,List.map_nil]); first | done | rfl | (simp only [List.length_drop,List.length_take]; rfl)) ?_
      with_reducible refine(nat_Mul.calls k1 _ _ x150002_1 _ _ t156 t162 _ ?side1 ?side2 ?side3 ?side4 A15.out).mono ?_
      (case side1=>exact qc (Kd.R_reads' HO_150002.out).2.2)
      (case side2=>exact(Kd.R_reads' HO_150002.out).2.1)
      (case side3=>exact qc (Kd.R_reads' HO158.out).2.2)
      (case side4=>exact(Kd.R_reads' HO158.out).2.1)
      rintro e w30 ⟨v163,rfl,ho0,hb⟩
      refine⟨_,rfl,?_⟩
      have n0_:=Aside0.mk (Kd.R_elder' (qr HO_150001.out) (Kd.R_base ho0) hb)
      have n1_:=Aside0.mk (Kd.R_elder' (qr HO_150002.out) (Kd.R_base ho0) hb)
      have n2_:=Aside0.mk (Kd.R_elder' (qr HO155.out) (Kd.R_base ho0) hb)
      have n3_:=Aside0.mk (Kd.R_elder' (qr HO158.out) (Kd.R_base ho0) hb)
      have n4_:=Aside0.mk (Kd.R_elder' (qr HO161.out) (Kd.R_base ho0) hb)
      have n5_:=Aside0.mk (Kd.R_lower (Kd.R_new' (Kd.R_new' (Kd.R_new' (Kd.R_new' (Kd.R_new' ho0 (Kd.R_lt (qr HO_150001.out))) (Kd.R_lt (qr HO_150002.out))) (Kd.R_lt (qr HO155.out))) (Kd.R_lt (qr HO158.out))) (Kd.R_lt (qr HO161.out))) (zbs (qb3 HB.out GE141.out GE149.out GE151.out)))
      have n6_:=Aside0.mk (zbt (g:=gb141) (o:=.cells #[.bool false,.slice none 0 0,.slice none 0 0] 25 (0,0)) (qk BK141.out) hb)
      have n7_:=Aside0.mk (zbt (g:=gb149) (o:=.cells #[.bool x150000_1,.slice Ao27 x150001_1.length co27,.slice Ao29 x150002_1.length co29] 25 (0,0)) (qk BK149.out) hb)
      have n8_:=Aside0.mk (zbt (g:=gb151) (o:=.cells #[.bool t152,.slice Ao23 t153.length co23,.slice Ao24 t156.length co24] 25 (0,0)) (qk BK151.out) hb)
      have n9_:=Aside0.mk (zbp (qb3 HB.out GE141.out GE149.out GE151.out) hb)
      clear HO_150001
      clear HO_150002
      clear HO155
      clear HO158
      clear HO161
      clear BK141
      clear BK149
      clear BK151
      clear HB
      have HO_150001:=n0_
      have HO_150002:=n1_
      have HO155:=n2_
      have HO158:=n3_
      have HO161:=n4_
      have HO164:=n5_
      have BK141:=n6_
      have BK149:=n7_
      have BK151:=n8_
      have HB:=n9_
      clear n0_ n1_ n2_ n3_ n4_ n5_ n6_ n7_ n8_ n9_
      (try clear hb)
      (try clear hb2)
      (try clear hk)
      (try clear hi)
      (try clear ho0)
      obtain⟨Ao31,co31,eo31⟩:=Kd.R_slice HO161.out
      (first | subst eo31 | (injection eo31 with f1_ f2_ f3_; have f4_:=f1_.symm; have f5_:=f3_.symm; clear f1_ f2_ f3_; subst f4_; subst f5_))
      obtain⟨Ao32,co32,eo32⟩:=Kd.R_slice HO164.out
      (first | subst eo32 | (injection eo32 with f1_ f2_ f3_; have f4_:=f1_.symm; have f5_:=f3_.symm; clear f1_ f2_ f3_; subst f4_; subst f5_))
      refine hK.out _ _ ⟨(zbu BK149.out 0).trans rfl,(zbu BK149.out 1).trans rfl,(zbu BK149.out 2).trans rfl,(zbu BK151.out 0).trans rfl,(zbu BK151.out 1).trans rfl,(zbu BK151.out 2).trans rfl⟩ (fun hHeld=>?_)
      clear hK K
      refine qn ?_
      refine qoT 15 (some 31) (fun K hK=>?_)
      refine goes_ Try.func22 (by kernel_rfl) rfl #[.bool (x150000_1 != t152),.slice Ao31 t159.length co31,.slice Ao32 t162.length co32] (by rfl) rfl rfl (by (try simp only [List.map_toArray,List.map_cons,List.map_nil]); first | done | rfl | (simp only [List.length_drop,List.length_take]; rfl)) ?_
      with_reducible refine(rat_Make.calls (x150000_1 != t152) _ _ t159 _ _ t162 t165 t166 t169 t172 _ ?side1 ?side2 ?side3 ?side4 A16.out).mono ?_
      (case side1=>exact qc (Kd.R_reads' HO161.out).2.2)
      (case side2=>exact(Kd.R_reads' HO161.out).2.1)
      (case side3=>exact qc (Kd.R_reads' HO164.out).2.2)
      (case side4=>exact(Kd.R_reads' HO164.out).2.1)
      rintro e w33 ⟨v167,v170,rfl,ho0,ho1,hb⟩
      refine⟨_,rfl,?_⟩
      have n0_:=Aside0.mk (Kd.R_mono (Kd.R_told (Kd.R_told (Kd.R_old (qr HO_150001.out) hb) (Kd.R_base ho0)) (Kd.R_base ho1)) (fun _ h_=>h_.1))
      have n1_:=Aside0.mk (Kd.R_mono (Kd.R_told (Kd.R_told (Kd.R_old (qr HO_150002.out) hb) (Kd.R_base ho0)) (Kd.R_base ho1)) (fun _ h_=>h_.1))
      have n2_:=Aside0.mk (Kd.R_mono (Kd.R_told (Kd.R_told (Kd.R_old (qr HO155.out) hb) (Kd.R_base ho0)) (Kd.R_base ho1)) (fun _ h_=>h_.1))
      have n3_:=Aside0.mk (Kd.R_mono (Kd.R_told (Kd.R_told (Kd.R_old (qr HO158.out) hb) (Kd.R_base ho0)) (Kd.R_base ho1)) (fun _ h_=>h_.1))
      have n4_:=Aside0.mk (Kd.R_mono (Kd.R_told (Kd.R_told (Kd.R_old (qr HO161.out) hb) (Kd.R_base ho0)) (Kd.R_base ho1)) (fun _ h_=>h_.1))
      have n5_:=Aside0.mk (Kd.R_mono (Kd.R_told (Kd.R_told (Kd.R_old (qr HO164.out) hb) (Kd.R_base ho0)) (Kd.R_base ho1)) (fun _ h_=>h_.1))
      have n6_:=Aside0.mk (Kd.R_lower (Kd.R_new' (Kd.R_new' (Kd.R_new' (Kd.R_new' (Kd.R_new' (Kd.R_new' ho0 (Kd.R_lt (qr HO_150001.out))) (Kd.R_lt (qr HO_150002.out))) (Kd.R_lt (qr HO155.out))) (Kd.R_lt (qr HO158.out))) (Kd.R_lt (qr HO161.out))) (Kd.R_lt (qr HO164.out))) (zbs (qb3 HB.out GE141.out GE149.out GE151.out)))
      have n7_:=Aside0.mk (Kd.R_lower (Kd.R_new' (Kd.R_new' (Kd.R_new' (Kd.R_new' (Kd.R_new' (Kd.R_new' ho1 (Kd.R_lt (qr HO_150001.out))) (Kd.R_lt (qr HO_150002.out))) (Kd.R_lt (qr HO155.out))) (Kd.R_lt (qr HO158.out))) (Kd.R_lt (qr HO161.out))) (Kd.R_lt (qr HO164.out))) (zbs (qb3 HB.out GE141.out GE149.out GE151.out)))
      have n8_:=Aside0.mk (zbt (g:=gb141) (o:=.cells #[.bool false,.slice none 0 0,.slice none 0 0] 25 (0,0)) (qk BK141.out) hb)
      have n9_:=Aside0.mk (zbt (g:=gb149) (o:=.cells #[.bool x150000_1,.slice Ao27 x150001_1.length co27,.slice Ao29 x150002_1.length co29] 25 (0,0)) (qk BK149.out) hb)
      have n10_:=Aside0.mk (zbt (g:=gb151) (o:=.cells #[.bool t152,.slice Ao23 t153.length co23,.slice Ao24 t156.length co24] 25 (0,0)) (qk BK151.out) hb)
      have n11_:=Aside0.mk (zbp (qb3 HB.out GE141.out GE149.out GE151.out) hb)
      clear HO_150001
      clear HO_150002
      clear HO155
      clear HO158
      clear HO161
      clear HO164
      clear BK141
      clear BK149
      clear BK151
      clear HB
      have HO_150001:=n0_
      have HO_150002:=n1_
      have HO155:=n2_
      have HO158:=n3_
      have HO161:=n4_
      have HO164:=n5_
      have HO168:=n6_
      have HO171:=n7_
      have BK141:=n8_
      have BK149:=n9_
      have BK151:=n10_
      have HB:=n11_
      clear n0_ n1_ n2_ n3_ n4_ n5_ n6_ n7_ n8_ n9_ n10_ n11_
      (try clear hb)
      (try clear hb2)
      (try clear hk)
      (try clear hi)
      (try clear ho0)
      (try clear ho1)
      obtain⟨Ao35,co35,eo35⟩:=Kd.R_slice HO168.out
      (first | subst eo35 | (injection eo35 with f1_ f2_ f3_; have f4_:=f1_.symm; have f5_:=f3_.symm; clear f1_ f2_ f3_; subst f4_; subst f5_))
      obtain⟨Ao37,co37,eo37⟩:=Kd.R_slice HO171.out
      (first | subst eo37 | (injection eo37 with f1_ f2_ f3_; have f4_:=f1_.symm; have f5_:=f3_.symm; clear f1_ f2_ f3_; subst f4_; subst f5_))
      refine hK.out _ _ ⟨(zbu BK149.out 0).trans rfl,(zbu BK149.out 1).trans rfl,(zbu BK149.out 2).trans rfl,(zbu BK151.out 0).trans rfl,(zbu BK151.out 1).trans rfl,(zbu BK151.out 2).trans rfl⟩ (fun hHeld=>?_)
      clear hK K
      refine qn ?_
      refine qpT 16 (some 15) ?_
      refine qpT 17 (some 32) ?_
      refine qpT 18 (some 33) ?_
      refine qlT 19 none (fun K hK=>?_)
      have hs34:w33.cell? ⟨gb149,0,none⟩=some (.bool x150000_1):=(zbu BK149.out 0).trans rfl
      have hfs34:=zbD BK149.out 0
      have hns34_0:=NB141_149.out
      have hns34_2:=NB151_149.out
      have hms34_0:=NB149_141.out
      have hms34_2:=NB149_151.out
      have hs36:w33.cell? ⟨gb149,1,none⟩=some (.slice Ao27 x150001_1.length co27):=(zbu BK149.out 1).trans rfl
      have hfs36:=zbD BK149.out 1
      have hns36_0:=NB141_149.out
      have hns36_2:=NB151_149.out
      have hms36_0:=NB149_141.out
      have hms36_2:=NB149_151.out
      have hs38:w33.cell? ⟨gb149,2,none⟩=some (.slice Ao29 x150002_1.length co29):=(zbu BK149.out 2).trans rfl
      have hfs38:=zbD BK149.out 2
      have hns38_0:=NB141_149.out
      have hns38_2:=NB151_149.out
      have hms38_0:=NB149_141.out
      have hms38_2:=NB149_151.out
      refine qx ?_
      refine hK.out _ _ ?_
      clear hK K
      refine done_ (done_of HT_.out (by kernel_rfl)) ?_
      try go_wp2
      go_roundg k1
      case measure=>have:=HK1.out; omega
      case rel=>exact⟨(wrap64 (x9_1+1)),(t165),(t166),(t169),(.slice Ao35 t166.length co35),(.slice Ao37 t169.length co37),(by first | rfl | (simp; done) | (simp [*]; done)),H',⟨by have:=HK1.out; omega⟩,⟨by (with_reducible repeat (first | apply Kd.R_alloc | apply Kd.R_drewN | apply Kd.R_drew)); exact Kd.R_mono (Kd.R_far (p:=⟨gb149,2,none⟩) (Kd.R_far (p:=⟨gb149,1,none⟩) (Kd.R_far (p:=⟨gb149,0,none⟩) (Kd.R_types HO168.out BK149.out (by decide)) (fun _ hk=>hk.2) (.bool t165)) (fun _ hk=>hk.2) (.slice Ao35 t166.length co35)) (fun _ hk=>hk.2) (.slice Ao37 t169.length co37)) (fun _ hk=>hk.1.1.1.1.1.1.1)⟩,⟨by (with_reducible repeat (first | apply Kd.R_alloc | apply Kd.R_drewN | apply Kd.R_drew)); exact Kd.R_mono (Kd.R_far (p:=⟨gb149,2,none⟩) (Kd.R_far (p:=⟨gb149,1,none⟩) (Kd.R_far (p:=⟨gb149,0,none⟩) (Kd.R_types HO171.out BK149.out (by decide)) (fun _ hk=>hk.2) (.bool t165)) (fun _ hk=>hk.2) (.slice Ao35 t166.length co35)) (fun _ hk=>hk.2) (.slice Ao37 t169.length co37)) (fun _ hk=>hk.1.1.1.1.1.1.1)⟩,⟨by (with_reducible repeat (first | refine zby ?_ _ | refine zbx ?_ | refine zbw ?_ _)); refine zbP ?_ NB141_149.out _; (with_reducible repeat (first | refine zby ?_ _ | refine zbx ?_ | refine zbw ?_ _)); refine zbP ?_ NB141_149.out _; (with_reducible repeat (first | refine zby ?_ _ | refine zbx ?_ | refine zbw ?_ _)); refine zbP ?_ NB141_149.out _; (with_reducible repeat (first | refine zby ?_ _ | refine zbx ?_ | refine zbw ?_ _)); exact BK141.out⟩,⟨by (with_reducible repeat (first | refine zby ?_ _ | refine zbx ?_ | refine zbw ?_ _)); refine zbK (cs:=#[.bool t165,.slice Ao35 t166.length co35,.slice Ao29 x150002_1.length co29]) ?_ 2 _ rfl; (with_reducible repeat (first | refine zby ?_ _ | refine zbx ?_ | refine zbw ?_ _)); refine zbK (cs:=#[.bool t165,.slice Ao27 x150001_1.length co27,.slice Ao29 x150002_1.length co29]) ?_ 1 _ rfl; (with_reducible repeat (first | refine zby ?_ _ | refine zbx ?_ | refine zbw ?_ _)); refine zbK (cs:=#[.bool x150000_1,.slice Ao27 x150001_1.length co27,.slice Ao29 x150002_1.length co29]) ?_ 0 _ rfl; (with_reducible repeat (first | refine zby ?_ _ | refine zbx ?_ | refine zbw ?_ _)); exact BK149.out⟩,⟨by repeat (first | (with_reducible first | exact HB.out | apply zbq | apply zbr | apply zbv | refine zbE ?_ GE141.out | refine zbE ?_ GE149.out | refine zbE ?_ GE151.out) | exact HB.out)⟩⟩
     ·
      rw [if_neg c12] at H
      exact absurd H (by simp)
    ·
     rw [if_neg c11] at H
     exact absurd H (by simp)
   ·
    rw [if_neg c10] at H
    have c10b0:decide (x9_1 < (l0.length:Int))=false:=decide_eq_false c10
    clear c10
    simp only [Option.some.injEq,Prod.mk.injEq] at H
    obtain⟨rfl,rfl,rfl⟩:=H
    have hnb39:=NB149_141.out
    have hnc39:=NB141_149.out
    have hcz40_0:wr.cell? ⟨gb149,0,none⟩=some (.bool x150000_1):=(zbu BK149.out 0).trans rfl
    have hcz40_1:wr.cell? ⟨gb149,1,none⟩=some (u150001):=(zbu BK149.out 1).trans rfl
    have hcz40_2:wr.cell? ⟨gb149,2,none⟩=some (u150002):=(zbu BK149.out 2).trans rfl
    have hfz40_0:=zbD BK149.out 0
    have hfz40_1:=zbD BK149.out 1
    have hfz40_2:=zbD BK149.out 2
    have hcz41_0:wr.cell? ⟨gb141,0,none⟩=some (.bool false):=(zbu BK141.out 0).trans rfl
    have hcz41_1:wr.cell? ⟨gb141,1,none⟩=some (.slice none 0 0):=(zbu BK141.out 1).trans rfl
    have hcz41_2:wr.cell? ⟨gb141,2,none⟩=some (.slice none 0 0):=(zbu BK141.out 2).trans rfl
    have hfz41_0:=zbD BK141.out 0
    have hfz41_1:=zbD BK141.out 1
    have hfz41_2:=zbD BK141.out 2
    obtain⟨Ao42,co42,eo42⟩:=Kd.R_slice HO_150001.out
    subst eo42
    obtain⟨Ao43,co43,eo43⟩:=Kd.R_slice HO_150002.out
    subst eo43
    go_wp2
    refine bodyPost_ret (results_cell_row rfl _ _ gb141 25 #[.bool x150000_1,.slice Ao42 x150001_1.length co42,.slice Ao43 x150002_1.length co43] (0,0) _ rfl (by (with_reducible repeat (first | refine zby ?_ _ | refine zbx ?_ | refine zbw ?_ _)); refine zbK (cs:=#[.bool x150000_1,.slice Ao42 x150001_1.length co42,.slice none 0 0]) ?_ 2 _ rfl; (with_reducible repeat (first | refine zby ?_ _ | refine zbx ?_ | refine zbw ?_ _)); refine zbK (cs:=#[.bool x150000_1,.slice none 0 0,.slice none 0 0]) ?_ 1 _ rfl; (with_reducible repeat (first | refine zby ?_ _ | refine zbx ?_ | refine zbw ?_ _)); refine zbK (cs:=#[.bool false,.slice none 0 0,.slice none 0 0]) ?_ 0 _ rfl; (with_reducible repeat (first | refine zby ?_ _ | refine zbx ?_ | refine zbw ?_ _)); exact BK141.out) Try.underlying25 rfl (by kernel_rfl)) rfl ?_
    exact⟨_,_,by first | rfl | (simp [zbz,zbA]<;>rfl) | (simp [*,zbz,zbA]<;>rfl),by (with_reducible repeat (first | apply Kd.R_alloc | apply Kd.R_drewN | apply Kd.R_drew)); exact Kd.R_mono (Kd.R_far (p:=⟨gb141,2,none⟩) (Kd.R_far (p:=⟨gb141,1,none⟩) (Kd.R_far (p:=⟨gb141,0,none⟩) (Kd.R_types HO_150001.out BK141.out (by decide)) (fun _ hk=>hk.2) (.bool x150000_1)) (fun _ hk=>hk.2) (.slice Ao42 x150001_1.length co42)) (fun _ hk=>hk.2) (.slice Ao43 x150002_1.length co43)) (fun _ hk=>hk.1),by (with_reducible repeat (first | apply Kd.R_alloc | apply Kd.R_drewN | apply Kd.R_drew)); exact Kd.R_mono (Kd.R_far (p:=⟨gb141,2,none⟩) (Kd.R_far (p:=⟨gb141,1,none⟩) (Kd.R_far (p:=⟨gb141,0,none⟩) (Kd.R_types HO_150002.out BK141.out (by decide)) (fun _ hk=>hk.2) (.bool x150000_1)) (fun _ hk=>hk.2) (.slice Ao42 x150001_1.length co42)) (fun _ hk=>hk.2) (.slice Ao43 x150002_1.length co43)) (fun _ hk=>hk.1),by repeat (first | (with_reducible first | exact HB.out | apply zbq | apply zbr | apply zbv | refine zbE ?_ GE141.out | refine zbE ?_ GE149.out) | exact HB.out)⟩
def rat_Neg.f (a0_0:Bool) (l0_1:List Int) (l0_2:List Int):Option (Bool×List Int×List Int):=(rat_Norm.f a0_0 l0_1 l0_2).bind fun bt188=>(if (bt188.2.1.length:Int) > 0 then (some (!bt188.1,bt188.2.1,bt188.2.2)) else (some (false,bt188.2.1,bt188.2.2)))
theorem rat_Neg.calls (a0_0:Bool) (A0_1:Option Addr) (c0_1:Nat) (l0_1:List Int) (A0_2:Option Addr) (c0_2:Nat) (l0_2:List Int) (r1:Bool) (r2:List Int) (r3:List Int) (w:World) (hr0_1:Kd.C (Kd.int .u32) w A0_1 l0_1.length l0_1) (hc0_1:l0_1.length≤c0_1) (hr0_2:Kd.C (Kd.int .u32) w A0_2 l0_2.length l0_2) (hc0_2:l0_2.length≤c0_2) (h:rat_Neg.f a0_0 l0_1 l0_2=some (r1,r2,r3)) :
  Calls Try.prog 37 #[.agg #[.bool a0_0,.slice A0_1 l0_1.length c0_1,.slice A0_2 l0_2.length c0_2]] w fun e w'=>∃ v1_ v2_:Value,e=.returned (.agg #[.bool r1,v1_,v2_])∧Kd.R (Kd.int .u32) 63 w' w.heap.size (fun k_=>some k_≠(v2_:Value).ownBlock) v1_ r2∧Kd.R (Kd.int .u32) 63 w' w.heap.size (fun k_=>some k_≠(v1_:Value).ownBlock) v2_ r3∧Below w.heap.size w w':=by
 have hu25:=Try.underlying25
 have HR0_1:=Aside0.mk hr0_1
 have HC0_1:=Aside0.mk hc0_1
 clear hr0_1 hc0_1
 have HR0_2:=Aside0.mk hr0_2
 have HC0_2:=Aside0.mk hc0_2
 clear hr0_2 hc0_2
 have HB:=Aside0.mk (Below.refl w.heap.size w)
 have H:((rat_Norm.f a0_0 l0_1 l0_2).bind fun bt188=>(if (bt188.2.1.length:Int) > 0 then (some (!bt188.1,bt188.2.1,bt188.2.2)) else (some (false,bt188.2.1,bt188.2.2))))=some (r1,r2,r3):=h
 clear h
 replace H:=Option.bind_eq_some_iff.mp H
 obtain⟨⟨t188,t189,t192⟩,A20,H⟩:=H
 replace H:(if (t189.length:Int) > 0 then (some (!t188,t189,t192)) else (some (false,t189,t192)))=some (r1,r2,r3):=H
 have A2:=Aside0.mk A20
 clear A20
 by_cases c3:(t189.length:Int) > 0
 ·
  rw [if_pos c3] at H
  have c3b0:decide (0 < (t189.length:Int))=true:=decide_eq_true c3
  have c3b1:decide (0 < t189.length)=true:=decide_eq_true (by omega)
  clear c3
  simp only [Option.some.injEq,Prod.mk.injEq] at H
  obtain⟨rfl,rfl,rfl⟩:=H
  go_enter Try.func37,Try.ntmps37
  go_wp2_with (first | ((with_reducible refine zbG (N:=1) rfl ?_); refine zbF ?hg (N:=1) ?hd (cs:=#[.bool a0_0,.slice A0_1 l0_1.length c0_1,.slice A0_2 l0_2.length c0_2]) (t:=25) ?hr ?_; (case hd=>rfl); (case hg=>rfl); (case hr=>first | (go_simp; done) | (go_simp; rfl)); intro gb186 hg w4 hbox hb; have n0_:=Aside0.mk (zbp (qb HB.out) hb); have n1_:=Aside0.mk (hbox); have n2_:=Aside0.mk ((by rw [hg]; exact(zbs (qb HB.out)):w.heap.size≤gb186)); have n3_:=Aside0.mk ((by rw [hg]; exact(zbs (qb HB.out)):w.heap.size≤gb186)); clear HB; have HB:=n0_; have BK186:=n1_; have GW186:=n2_; have GE186:=n3_; clear n0_ n1_ n2_ n3_; clear hb hbox hg) | ((with_reducible refine zbG (N:=2) rfl ?_); refine zbF ?hg (N:=2) ?hd (cs:=#[.bool false,.slice none 0 0,.slice none 0 0]) (t:=25) ?hr ?_; (case hd=>rfl); (case hg=>rfl); (case hr=>first | (go_simp; done) | (go_simp; rfl)); intro gb187 hg w5 hbox hb; have n0_:=Aside0.mk (zbt (g:=gb186) (o:=.cells #[.bool a0_0,.slice A0_1 l0_1.length c0_1,.slice A0_2 l0_2.length c0_2] 25 (0,0)) (qk BK186.out) hb); have n1_:=Aside0.mk (zbp (qb1 HB.out GE186.out) hb); have n2_:=Aside0.mk (hbox); have n3_:=Aside0.mk ((by rw [hg]; exact(zbs (qb1 HB.out GE186.out)):w.heap.size≤gb187)); have n4_:=Aside0.mk ((by rw [hg]; exact(zbs (qb1 HB.out GE186.out)):w.heap.size≤gb187)); have n5_:=Aside0.mk ((by rw [hg]; exact Nat.ne_of_lt (zbQ (g:=gb186) (o:=.cells #[.bool a0_0,.slice A0_1 l0_1.length c0_1,.slice A0_2 l0_2.length c0_2] 25 (0,0)) (qk BK186.out)):gb186≠gb187)); have n6_:=Aside0.mk ((by rw [hg]; exact Nat.ne_of_gt (zbQ (g:=gb186) (o:=.cells #[.bool a0_0,.slice A0_1 l0_1.length c0_1,.slice A0_2 l0_2.length c0_2] 25 (0,0)) (qk BK186.out)):gb187≠gb186)); clear BK186; clear HB; have BK186:=n0_; have HB:=n1_; have BK187:=n2_; have GW187:=n3_; have GE187:=n4_; have NB186_187:=n5_; have NB187_186:=n6_; clear n0_ n1_ n2_ n3_ n4_ n5_ n6_; clear hb hbox hg; have hnb6:=NB186_187.out; have hnc6:=NB187_186.out; obtain⟨hcz7_0,hcz7_1,hcz7_2,hfz7_0,hfz7_1,hfz7_2⟩:=qz BK186.out) | ((with_reducible refine zbC (f:=16) rfl ?_); refine zbO (some 4) rfl rfl Try.func16 (by kernel_rfl) rfl #[.agg #[.bool a0_0,.slice A0_1 l0_1.length c0_1,.slice A0_2 l0_2.length c0_2]] rfl (by (try simp only [List.map_toArray,List.map_cons,List.map_nil]); first | done | rfl | (simp only [List.length_drop,List.length_take]; rfl)) ?_; (with_reducible refine(rat_Norm.calls a0_0 _ _ l0_1 _ _ l0_2 t188 t189 t192 _ ?side1 ?side2 ?side3 ?side4 A2.out).mono ?_); (case side1=>exact qc (Kd.C_below HR0_1.out HB.out)); (case side2=>exact HC0_1.out); (case side3=>exact qc (Kd.C_below HR0_2.out HB.out)); (case side4=>exact HC0_2.out); rintro e w8 ⟨v190,v193,rfl,ho0,ho1,hb⟩; refine⟨_,rfl,?_⟩; have n0_:=Aside0.mk (Kd.R_lower ho0 (zbs (qb2 HB.out GE186.out GE187.out))); have n1_:=Aside0.mk (Kd.R_lower ho1 (zbs (qb2 HB.out GE186.out GE187.out))); have n2_:=Aside0.mk (zbt (g:=gb186) (o:=.cells #[.bool a0_0,.slice A0_1 l0_1.length c0_1,.slice A0_2 l0_2.length c0_2] 25 (0,0)) (qk BK186.out) hb); have n3_:=Aside0.mk (zbt (g:=gb187) (o:=.cells #[.bool false,.slice none 0 0,.slice none 0 0] 25 (0,0)) (qk BK187.out) hb); have n4_:=Aside0.mk (zbp (qb2 HB.out GE186.out GE187.out) hb); clear BK186; clear BK187; clear HB; have HO191:=n0_; have HO194:=n1_; have BK186:=n2_; have BK187:=n3_; have HB:=n4_; clear n0_ n1_ n2_ n3_ n4_; (try clear hb); (try clear hb2); (try clear hk); (try clear hi); (try clear ho0); (try clear ho1); obtain⟨hcz9_0,hcz9_1,hcz9_2,hfz9_0,hfz9_1,hfz9_2⟩:=qz BK186.out; obtain⟨Ao10,co10,eo10⟩:=Kd.R_slice HO191.out; subst eo10; obtain⟨Ao11,co11,eo11⟩:=Kd.R_slice HO194.out; subst eo11; obtain⟨hcz12_0,hcz12_1,hcz12_2,hfz12_0,hfz12_1,hfz12_2⟩:=qz BK187.out))
  refine bodyPost_ret (results_cell_row rfl _ _ gb187 25 #[.bool (!t188),.slice Ao10 t189.length co10,.slice Ao11 t192.length co11] (0,0) _ rfl (by (with_reducible repeat (first | refine zby ?_ _ | refine zbx ?_ | refine zbw ?_ _)); refine zbK (cs:=#[.bool (!t188),.slice Ao10 t189.length co10,.slice none 0 0]) ?_ 2 _ rfl; (with_reducible repeat (first | refine zby ?_ _ | refine zbx ?_ | refine zbw ?_ _)); refine zbK (cs:=#[.bool (!t188),.slice none 0 0,.slice none 0 0]) ?_ 1 _ rfl; (with_reducible repeat (first | refine zby ?_ _ | refine zbx ?_ | refine zbw ?_ _)); refine zbK (cs:=#[.bool false,.slice none 0 0,.slice none 0 0]) ?_ 0 _ rfl; (with_reducible repeat (first | refine zby ?_ _ | refine zbx ?_ | refine zbw ?_ _)); refine zbP ?_ NB187_186.out _; (with_reducible repeat (first | refine zby ?_ _ | refine zbx ?_ | refine zbw ?_ _)); refine zbP ?_ NB187_186.out _; (with_reducible repeat (first | refine zby ?_ _ | refine zbx ?_ | refine zbw ?_ _)); refine zbP ?_ NB187_186.out _; (with_reducible repeat (first | refine zby ?_ _ | refine zbx ?_ | refine zbw ?_ _)); refine zbP ?_ NB187_186.out _; (with_reducible repeat (first | refine zby ?_ _ | refine zbx ?_ | refine zbw ?_ _)); exact BK187.out) Try.underlying25 rfl (by kernel_rfl)) rfl ?_
  exact⟨_,_,by first | rfl | (simp [zbz,zbA]<;>rfl) | (simp [*,zbz,zbA]<;>rfl),by (with_reducible repeat (first | apply Kd.R_alloc | apply Kd.R_drewN | apply Kd.R_drew)); exact Kd.R_mono (Kd.R_far (p:=⟨gb187,2,none⟩) (Kd.R_far (p:=⟨gb187,1,none⟩) (Kd.R_far (p:=⟨gb187,0,none⟩) (Kd.R_far (p:=⟨gb186,0,none⟩) (Kd.R_far (p:=⟨gb186,2,none⟩) (Kd.R_far (p:=⟨gb186,1,none⟩) (Kd.R_far (p:=⟨gb186,0,none⟩) (Kd.R_types (Kd.R_types HO191.out BK186.out (by decide)) BK187.out (by decide)) (fun _ hk=>hk.1.2) (.bool t188)) (fun _ hk=>hk.1.2) (.slice Ao10 t189.length co10)) (fun _ hk=>hk.1.2) (.slice Ao11 t192.length co11)) (fun _ hk=>hk.1.2) (.bool (!t188))) (fun _ hk=>hk.2) (.bool (!t188))) (fun _ hk=>hk.2) (.slice Ao10 t189.length co10)) (fun _ hk=>hk.2) (.slice Ao11 t192.length co11)) (fun _ hk=>hk.1.1),by (with_reducible repeat (first | apply Kd.R_alloc | apply Kd.R_drewN | apply Kd.R_drew)); exact Kd.R_mono (Kd.R_far (p:=⟨gb187,2,none⟩) (Kd.R_far (p:=⟨gb187,1,none⟩) (Kd.R_far (p:=⟨gb187,0,none⟩) (Kd.R_far (p:=⟨gb186,0,none⟩) (Kd.R_far (p:=⟨gb186,2,none⟩) (Kd.R_far (p:=⟨gb186,1,none⟩) (Kd.R_far (p:=⟨gb186,0,none⟩) (Kd.R_types (Kd.R_types HO194.out BK186.out (by decide)) BK187.out (by decide)) (fun _ hk=>hk.1.2) (.bool t188)) (fun _ hk=>hk.1.2) (.slice Ao10 t189.length co10)) (fun _ hk=>hk.1.2) (.slice Ao11 t192.length co11)) (fun _ hk=>hk.1.2) (.bool (!t188))) (fun _ hk=>hk.2) (.bool (!t188))) (fun _ hk=>hk.2) (.slice Ao10 t189.length co10)) (fun _ hk=>hk.2) (.slice Ao11 t192.length co11)) (fun _ hk=>hk.1.1),by repeat (first | (with_reducible first | exact HB.out | apply zbq | apply zbr | apply zbv | refine zbE ?_ GE186.out | refine zbE ?_ GE187.out) | exact HB.out)⟩
 ·
  rw [if_neg c3] at H
  have c3b0:decide (0 < (t189.length:Int))=false:=decide_eq_false c3
  have c3b1:decide (0 < t189.length)=false:=decide_eq_false (by omega)
  clear c3
  simp only [Option.some.injEq,Prod.mk.injEq] at H
  obtain⟨rfl,rfl,rfl⟩:=H
  go_enter Try.func37,Try.ntmps37
  go_wp2_with (first | ((with_reducible refine zbG (N:=1) rfl ?_); refine zbF ?hg (N:=1) ?hd (cs:=#[.bool a0_0,.slice A0_1 l0_1.length c0_1,.slice A0_2 l0_2.length c0_2]) (t:=25) ?hr ?_; (case hd=>rfl); (case hg=>rfl); (case hr=>first | (go_simp; done) | (go_simp; rfl)); intro gb186 hg w13 hbox hb; have n0_:=Aside0.mk (zbp (qb HB.out) hb); have n1_:=Aside0.mk (hbox); have n2_:=Aside0.mk ((by rw [hg]; exact(zbs (qb HB.out)):w.heap.size≤gb186)); have n3_:=Aside0.mk ((by rw [hg]; exact(zbs (qb HB.out)):w.heap.size≤gb186)); clear HB; have HB:=n0_; have BK186:=n1_; have GW186:=n2_; have GE186:=n3_; clear n0_ n1_ n2_ n3_; clear hb hbox hg) | ((with_reducible refine zbG (N:=2) rfl ?_); refine zbF ?hg (N:=2) ?hd (cs:=#[.bool false,.slice none 0 0,.slice none 0 0]) (t:=25) ?hr ?_; (case hd=>rfl); (case hg=>rfl); (case hr=>first | (go_simp; done) | (go_simp; rfl)); intro gb187 hg w14 hbox hb; have n0_:=Aside0.mk (zbt (g:=gb186) (o:=.cells #[.bool a0_0,.slice A0_1 l0_1.length c0_1,.slice A0_2 l0_2.length c0_2] 25 (0,0)) (qk BK186.out) hb); have n1_:=Aside0.mk (zbp (qb1 HB.out GE186.out) hb); have n2_:=Aside0.mk (hbox); have n3_:=Aside0.mk ((by rw [hg]; exact(zbs (qb1 HB.out GE186.out)):w.heap.size≤gb187)); have n4_:=Aside0.mk ((by rw [hg]; exact(zbs (qb1 HB.out GE186.out)):w.heap.size≤gb187)); have n5_:=Aside0.mk ((by rw [hg]; exact Nat.ne_of_lt (zbQ (g:=gb186) (o:=.cells #[.bool a0_0,.slice A0_1 l0_1.length c0_1,.slice A0_2 l0_2.length c0_2] 25 (0,0)) (qk BK186.out)):gb186≠gb187)); have n6_:=Aside0.mk ((by rw [hg]; exact Nat.ne_of_gt (zbQ (g:=gb186) (o:=.cells #[.bool a0_0,.slice A0_1 l0_1.length c0_1,.slice A0_2 l0_2.length c0_2] 25 (0,0)) (qk BK186.out)):gb187≠gb186)); clear BK186; clear HB; have BK186:=n0_; have HB:=n1_; have BK187:=n2_; have GW187:=n3_; have GE187:=n4_; have NB186_187:=n5_; have NB187_186:=n6_; clear n0_ n1_ n2_ n3_ n4_ n5_ n6_; clear hb hbox hg; have hnb15:=NB186_187.out; have hnc15:=NB187_186.out; obtain⟨hcz16_0,hcz16_1,hcz16_2,hfz16_0,hfz16_1,hfz16_2⟩:=qz BK186.out) | ((with_reducible refine zbC (f:=16) rfl ?_); refine zbO (some 4) rfl rfl Try.func16 (by kernel_rfl) rfl #[.agg #[.bool a0_0,.slice A0_1 l0_1.length c0_1,.slice A0_2 l0_2.length c0_2]] rfl (by (try simp only [List.map_toArray,List.map_cons,List.map_nil]); first | done | rfl | (simp only [List.length_drop,List.length_take]; rfl)) ?_; (with_reducible refine(rat_Norm.calls a0_0 _ _ l0_1 _ _ l0_2 t188 t189 t192 _ ?side1 ?side2 ?side3 ?side4 A2.out).mono ?_); (case side1=>exact qc (Kd.C_below HR0_1.out HB.out)); (case side2=>exact HC0_1.out); (case side3=>exact qc (Kd.C_below HR0_2.out HB.out)); (case side4=>exact HC0_2.out); rintro e w17 ⟨v190,v193,rfl,ho0,ho1,hb⟩; refine⟨_,rfl,?_⟩; have n0_:=Aside0.mk (Kd.R_lower ho0 (zbs (qb2 HB.out GE186.out GE187.out))); have n1_:=Aside0.mk (Kd.R_lower ho1 (zbs (qb2 HB.out GE186.out GE187.out))); have n2_:=Aside0.mk (zbt (g:=gb186) (o:=.cells #[.bool a0_0,.slice A0_1 l0_1.length c0_1,.slice A0_2 l0_2.length c0_2] 25 (0,0)) (qk BK186.out) hb); have n3_:=Aside0.mk (zbt (g:=gb187) (o:=.cells #[.bool false,.slice none 0 0,.slice none 0 0] 25 (0,0)) (qk BK187.out) hb); have n4_:=Aside0.mk (zbp (qb2 HB.out GE186.out GE187.out) hb); clear BK186; clear BK187; clear HB; have HO191:=n0_; have HO194:=n1_; have BK186:=n2_; have BK187:=n3_; have HB:=n4_; clear n0_ n1_ n2_ n3_ n4_; (try clear hb); (try clear hb2); (try clear hk); (try clear hi); (try clear ho0); (try clear ho1); obtain⟨hcz18_0,hcz18_1,hcz18_2,hfz18_0,hfz18_1,hfz18_2⟩:=qz BK186.out; obtain⟨Ao19,co19,eo19⟩:=Kd.R_slice HO191.out; subst eo19; obtain⟨Ao20,co20,eo20⟩:=Kd.R_slice HO194.out; subst eo20; obtain⟨hcz21_0,hcz21_1,hcz21_2,hfz21_0,hfz21_1,hfz21_2⟩:=qz BK187.out))
  refine bodyPost_ret (results_cell_row rfl _ _ gb187 25 #[.bool false,.slice Ao19 t189.length co19,.slice Ao20 t192.length co20] (0,0) _ rfl (by (with_reducible repeat (first | refine zby ?_ _ | refine zbx ?_ | refine zbw ?_ _)); refine zbK (cs:=#[.bool false,.slice Ao19 t189.length co19,.slice none 0 0]) ?_ 2 _ rfl; (with_reducible repeat (first | refine zby ?_ _ | refine zbx ?_ | refine zbw ?_ _)); refine zbK (cs:=#[.bool false,.slice none 0 0,.slice none 0 0]) ?_ 1 _ rfl; (with_reducible repeat (first | refine zby ?_ _ | refine zbx ?_ | refine zbw ?_ _)); refine zbK (cs:=#[.bool false,.slice none 0 0,.slice none 0 0]) ?_ 0 _ rfl; (with_reducible repeat (first | refine zby ?_ _ | refine zbx ?_ | refine zbw ?_ _)); refine zbP ?_ NB187_186.out _; (with_reducible repeat (first | refine zby ?_ _ | refine zbx ?_ | refine zbw ?_ _)); refine zbP ?_ NB187_186.out _; (with_reducible repeat (first | refine zby ?_ _ | refine zbx ?_ | refine zbw ?_ _)); refine zbP ?_ NB187_186.out _; (with_reducible repeat (first | refine zby ?_ _ | refine zbx ?_ | refine zbw ?_ _)); refine zbP ?_ NB187_186.out _; (with_reducible repeat (first | refine zby ?_ _ | refine zbx ?_ | refine zbw ?_ _)); exact BK187.out) Try.underlying25 rfl (by kernel_rfl)) rfl ?_
  exact⟨_,_,by first | rfl | (simp [zbz,zbA]<;>rfl) | (simp [*,zbz,zbA]<;>rfl),by (with_reducible repeat (first | apply Kd.R_alloc | apply Kd.R_drewN | apply Kd.R_drew)); exact Kd.R_mono (Kd.R_far (p:=⟨gb187,2,none⟩) (Kd.R_far (p:=⟨gb187,1,none⟩) (Kd.R_far (p:=⟨gb187,0,none⟩) (Kd.R_far (p:=⟨gb186,0,none⟩) (Kd.R_far (p:=⟨gb186,2,none⟩) (Kd.R_far (p:=⟨gb186,1,none⟩) (Kd.R_far (p:=⟨gb186,0,none⟩) (Kd.R_types (Kd.R_types HO191.out BK186.out (by decide)) BK187.out (by decide)) (fun _ hk=>hk.1.2) (.bool t188)) (fun _ hk=>hk.1.2) (.slice Ao19 t189.length co19)) (fun _ hk=>hk.1.2) (.slice Ao20 t192.length co20)) (fun _ hk=>hk.1.2) (.bool false)) (fun _ hk=>hk.2) (.bool false)) (fun _ hk=>hk.2) (.slice Ao19 t189.length co19)) (fun _ hk=>hk.2) (.slice Ao20 t192.length co20)) (fun _ hk=>hk.1.1),by (with_reducible repeat (first | apply Kd.R_alloc | apply Kd.R_drewN | apply Kd.R_drew)); exact Kd.R_mono (Kd.R_far (p:=⟨gb187,2,none⟩) (Kd.R_far (p:=⟨gb187,1,none⟩) (Kd.R_far (p:=⟨gb187,0,none⟩) (Kd.R_far (p:=⟨gb186,0,none⟩) (Kd.R_far (p:=⟨gb186,2,none⟩) (Kd.R_far (p:=⟨gb186,1,none⟩) (Kd.R_far (p:=⟨gb186,0,none⟩) (Kd.R_types (Kd.R_types HO194.out BK186.out (by decide)) BK187.out (by decide)) (fun _ hk=>hk.1.2) (.bool t188)) (fun _ hk=>hk.1.2) (.slice Ao19 t189.length co19)) (fun _ hk=>hk.1.2) (.slice Ao20 t192.length co20)) (fun _ hk=>hk.1.2) (.bool false)) (fun _ hk=>hk.2) (.bool false)) (fun _ hk=>hk.2) (.slice Ao19 t189.length co19)) (fun _ hk=>hk.2) (.slice Ao20 t192.length co20)) (fun _ hk=>hk.1.1),by repeat (first | (with_reducible first | exact HB.out | apply zbq | apply zbr | apply zbv | refine zbE ?_ GE186.out | refine zbE ?_ GE187.out) | exact HB.out)⟩
end Go.Proofs.Ytehghijlchpeaaa.J
end
end
section
namespace Go.Proofs.Ytehghijlchpeaaa.Nt
abbrev QN:=Bool×Nat×Nat
def nrm (n:Bool) (a b:Nat):QN:=if b=0∨a=0 then (false,0,1) else (n,a / Nat.gcd a b,b / Nat.gcd a b)
def ngt (r:QN):QN:=if r.2.1=0 then (false,r.2.1,r.2.2) else (!r.1,r.2.1,r.2.2)
structure red (r:QN):Prop where
 den:0 < r.2.2
 cop:Nat.gcd r.2.1 r.2.2=1
 zero:r.2.1=0→r.1=false
theorem nrm_red (n:Bool) (a b:Nat):red (nrm n a b):=by
 unfold nrm
 split
 ·
  exact⟨Nat.one_pos,by simp,fun _=>rfl⟩
 ·
  rename_i h
  have hb:0 < b:=by omega
  have hg:0 < Nat.gcd a b:=Nat.gcd_pos_of_pos_right _ hb
  refine⟨Nat.div_pos (Nat.le_of_dvd hb (Nat.gcd_dvd_right a b)) hg,by rw [Nat.gcd_div (Nat.gcd_dvd_left a b) (Nat.gcd_dvd_right a b),Nat.div_self hg],fun h0=>?_⟩
  have:=Nat.div_pos (Nat.le_of_dvd (show 0 < a by omega) (Nat.gcd_dvd_left a b)) hg
  simp only [] at h0
  omega
theorem nrm_of_red {r:QN} (h:red r):nrm r.1 r.2.1 r.2.2=r:=by
 obtain⟨n,a,b⟩:=r
 unfold nrm
 have h1:=h.den
 have h2:=h.cop
 have h3:=h.zero
 simp only [] at h1 h2 h3 ⊢
 by_cases ha:a=0
 ·
  rw [if_pos (Or.inr ha),h3 ha]
  subst ha
  rw [Nat.gcd_zero_left] at h2
  rw [h2]
 ·
  rw [if_neg (by omega),h2,Nat.div_one,Nat.div_one]
def addQ (x y:QN):QN :=
 if x.1=y.1 then nrm x.1 (x.2.1*y.2.2+y.2.1*x.2.2) (x.2.2*y.2.2)
 else if y.2.1*x.2.2≤x.2.1*y.2.2 then nrm x.1 (x.2.1*y.2.2-y.2.1*x.2.2) (x.2.2*y.2.2)
 else nrm y.1 (y.2.1*x.2.2-x.2.1*y.2.2) (x.2.2*y.2.2)
def mulQ (x y:QN):QN:=nrm (x.1 != y.1) (x.2.1*y.2.1) (x.2.2*y.2.2)
def sgnQ (x:QN):Int:=if x.2.1=0 then 0 else if x.1 then -1 else 1
end Go.Proofs.Ytehghijlchpeaaa.Nt
end
section
namespace Go.Proofs.Ytehghijlchpeaaa.Nat1
open Go.RowKit YtehghijlchpeaaaW.PrintWords YtehghijlchpeaaaW.PrintLast YtehghijlchpeaaaW.PrintMore L Nt
def RT (w:World) (base:Nat) (v:Value) (r:QN):Prop :=
 ∃ v1 v2:Value,v=.agg #[.bool r.1,v1,v2]∧Kd.R (Kd.int .u32) 63 w base (fun _=>True) v1 (dg B32 r.2.1)∧Kd.R (Kd.int .u32) 63 w base (fun _=>True) v2 (dg B32 r.2.2)
def RatPost (w:World) (r:QN) (e:Ending) (w':World):Prop :=
 ∃ v1_ v2_:Value,e=.returned (.agg #[.bool r.1,v1_,v2_])∧Kd.R (Kd.int .u32) 63 w' w.heap.size (fun k_=>some k_≠(v2_:Value).ownBlock) v1_ (dg B32 r.2.1)∧Kd.R (Kd.int .u32) 63 w' w.heap.size (fun k_=>some k_≠(v1_:Value).ownBlock) v2_ (dg B32 r.2.2)∧Below w.heap.size w w'
theorem RatPost.rt {w w':World} {r:QN} {e:Ending} (h:RatPost w r e w'):∃ v,e=.returned v∧RT w' w.heap.size v r∧Below w.heap.size w w':=by
 obtain⟨v1,v2,he,h1,h2,hb⟩:=h
 exact⟨_,he,⟨v1,v2,rfl,Kd.R_mono h1 (fun _ _=>trivial),Kd.R_mono h2 (fun _ _=>trivial)⟩,hb⟩
theorem mkR_eq (n:Bool) (a b:Nat):mkR n a b=if b=0 then (false,[],[],17) else ((nrm n a b).1,dg B32 (nrm n a b).2.1,dg B32 (nrm n a b).2.2,0):=by
 unfold mkR nrm
 by_cases hb:b=0
 ·
  rw [if_pos hb,if_pos hb]
 ·
  by_cases ha:a=0
  ·
   rw [if_neg hb,if_neg hb,if_pos ha,if_pos (Or.inr ha),zbU]
  ·
   rw [if_neg hb,if_neg hb,if_neg ha,if_neg (by omega)]
theorem norm_f {n:Bool} {p q:List Int} (hp:okD p) (hq:okD q):J.rat_Norm.f n p q=some ((nrm n (val B32 p) (val B32 q)).1,dg B32 (nrm n (val B32 p) (val B32 q)).2.1,dg B32 (nrm n (val B32 p) (val B32 q)).2.2):=by
 unfold J.rat_Norm.f
 rw [rat_Make.f,if_pos ⟨hp,hq⟩,Option.bind_some,mkR_eq]
 by_cases hb:val B32 q=0
 ·
  rw [if_pos hb,if_neg (by decide),H.rat_one.f,nat_Of.f,if_pos (by omega)]
  unfold nrm
  rw [if_pos (Or.inl hb),zbU]
  rfl
 ·
  rw [if_neg hb]
  simp only []
  rw [if_pos trivial]
section
variable (n:Bool) (A0:Option Addr) (c0:Nat) (l0:List Int) (A1:Option Addr) (c1:Nat) (l1:List Int) (w:World) (hr0:Kd.C (Kd.int .u32) w A0 l0.length l0) (hc0:l0.length≤c0) (hr1:Kd.C (Kd.int .u32) w A1 l1.length l1) (hc1:l1.length≤c1) (h0:okD l0) (h1:okD l1)
include hr0 hc0 hr1 hc1 h0 h1
theorem norm_q:Calls Try.prog 16 #[.agg #[.bool n,.slice A0 l0.length c0,.slice A1 l1.length c1]] w (RatPost w (nrm n (val B32 l0) (val B32 l1))) :=
 J.rat_Norm.calls n A0 c0 l0 A1 c1 l1 _ _ _ w hr0 hc0 hr1 hc1 (norm_f h0 h1)
omit hr0 hc0 hr1 hc1 in
theorem neg_f:J.rat_Neg.f n l0 l1=some ((ngt (nrm n (val B32 l0) (val B32 l1))).1,dg B32 (ngt (nrm n (val B32 l0) (val B32 l1))).2.1,dg B32 (ngt (nrm n (val B32 l0) (val B32 l1))).2.2):=by
 unfold J.rat_Neg.f
 rw [norm_f h0 h1,Option.bind_some]
 simp only []
 unfold ngt
 by_cases hz:(nrm n (val B32 l0) (val B32 l1)).2.1=0
 ·
  rw [if_neg (by rw [hz,zbU]; simp),if_pos hz]
 ·
  have:dg B32 (nrm n (val B32 l0) (val B32 l1)).2.1≠[]:=fun e=>hz ((zcg zbB _).1 e)
  have:=List.length_pos_iff.2 this
  rw [if_pos (by omega),if_neg hz]
end
end Go.Proofs.Ytehghijlchpeaaa.Nat1
end
section
namespace Go.Proofs.Ytehghijlchpeaaa.Nat1
open Go.RowKit YtehghijlchpeaaaW.PrintWords YtehghijlchpeaaaW.PrintLast YtehghijlchpeaaaW.PrintMore L Nt
theorem RT.below {w w':World} {base:Nat} {v:Value} {r:QN} (h:RT w base v r) (hb:Below w.heap.size w w'):RT w' base v r:=by
 obtain⟨v1,v2,he,h1,h2⟩:=h
 exact⟨v1,v2,he,Kd.R_below h1 hb,Kd.R_below h2 hb⟩
theorem RT.lower {w:World} {base base':Nat} {v:Value} {r:QN} (h:RT w base v r) (hb:base'≤base):RT w base' v r:=by
 obtain⟨v1,v2,he,h1,h2⟩:=h
 exact⟨v1,v2,he,Kd.R_lower h1 hb,Kd.R_lower h2 hb⟩
theorem RT.store3 {W:World} {base g:Nat} {v:Value} {r:QN} {cs:Array Value} (h:RT W base v r) (hg:W.heap[g]? = some (.cells cs 25 (0,0))) (a b c:Value):RT (store3 W g a b c) base v r:=by
 obtain⟨v1,v2,he,h1,h2⟩:=h
 exact⟨v1,v2,he,store3_R h1 hg a b c,store3_R h2 hg a b c⟩
theorem RT.args {w:World} {base:Nat} {v:Value} {r:QN} (h:RT w base v r):∃ A1 c1 A2 c2,v=.agg #[.bool r.1,.slice A1 (dg B32 r.2.1).length c1,.slice A2 (dg B32 r.2.2).length c2] ∧
  (Kd.R (Kd.int .u32) 63 w base (fun _=>True) (.slice A1 (dg B32 r.2.1).length c1) (dg B32 r.2.1)∧Kd.R (Kd.int .u32) 63 w base (fun _=>True) (.slice A2 (dg B32 r.2.2).length c2) (dg B32 r.2.2)):=by
 obtain⟨v1,v2,he,h1,h2⟩:=h
 obtain⟨A1,c1,rfl⟩:=Kd.R_slice h1
 obtain⟨A2,c2,rfl⟩:=Kd.R_slice h2
 exact⟨A1,c1,A2,c2,he,h1,h2⟩
theorem neg_q (n:Bool) (A0:Option Addr) (c0:Nat) (l0:List Int) (A1:Option Addr) (c1:Nat) (l1:List Int) (w:World) (hr0:Kd.C (Kd.int .u32) w A0 l0.length l0) (hc0:l0.length≤c0) (hr1:Kd.C (Kd.int .u32) w A1 l1.length l1) (hc1:l1.length≤c1) (h0:okD l0) (h1:okD l1) :
  Calls Try.prog 37 #[.agg #[.bool n,.slice A0 l0.length c0,.slice A1 l1.length c1]] w (RatPost w (ngt (nrm n (val B32 l0) (val B32 l1)))) :=
 J.rat_Neg.calls n A0 c0 l0 A1 c1 l1 _ _ _ w hr0 hc0 hr1 hc1 (neg_f n l0 l1 h0 h1)
theorem alloc3_size (W:World) (a b c:Obj):(((W.alloc a).alloc b).alloc c).heap.size=W.heap.size+1+1+1:=by simp
theorem alloc3_new (W:World) (a b c:Obj):(((W.alloc a).alloc b).alloc c).heap[W.heap.size+1+1]? = some c:=by
 have:=zbW ((W.alloc a).alloc b) c
 simpa using this
theorem alloc3_mid (W:World) (a b c:Obj):(((W.alloc a).alloc b).alloc c).heap[W.heap.size+1]? = some b:=by
 have:=zbW (W.alloc a) b
 have h2:=((Below.refl ((W.alloc a).alloc b).heap.size ((W.alloc a).alloc b)).alloc (Nat.le_refl _) c).block (W.heap.size+1) (by simp)
 rw [h2]
 simpa using this
theorem alloc3_old (W:World) (a b c:Obj):(((W.alloc a).alloc b).alloc c).heap[W.heap.size]? = some a:=by
 have:=zbW W a
 have h2:=(((Below.refl (W.alloc a).heap.size (W.alloc a)).alloc (Nat.le_refl _) b).alloc (by simp) c).block W.heap.size (by simp)
 rw [h2]
 exact this
theorem zcy (W:World) (a b c:Obj):Below W.heap.size W (((W.alloc a).alloc b).alloc c):=zbq (zbq (zbq (Below.refl _ _) _) _) _
theorem take_q (b:Bool) (W:World) (base:Nat) (v:Value) (r:QN) (h:RT W base v r) (hr:red r) (hbase:base≤W.heap.size) (h1:okD (dg B32 r.2.1)) (h2:okD (dg B32 r.2.2)) :
  Calls Try.prog 77 #[.agg #[.bool b],v] W fun e w'=>∃ v',e=.returned v'∧RT w' base v' (if b then ngt r else r)∧Below W.heap.size W w':=by
 have hu25:=Try.underlying25
 have hu92:=Try.underlying92
 obtain⟨A1,c1,A2,c2,rfl,R1,R2⟩:=h.args
 have HN:=Aside0.mk (fun (W':World) (hb:Below W.heap.size W W')=>neg_q r.1 A1 c1 (dg B32 r.2.1) A2 c2 (dg B32 r.2.2) W' (Kd.C_below (Kd.R_reads' R1).2.2 hb) (Kd.R_reads' R1).2.1 (Kd.C_below (Kd.R_reads' R2).2.2 hb) (Kd.R_reads' R2).2.1 h1 h2)
 rw [zbT zbB,zbT zbB,nrm_of_red hr] at HN
 have HR1:=Aside0.mk R1
 have HR2:=Aside0.mk R2
 clear h R1 R2 h1 h2
 go_enter Try.func77,Try.ntmps77
 cases b with
 | true =>
  go_wp2_with fail
  have hbox:=alloc3_new W (.cells #[.bool true] 92) (.cells #[.bool r.1,.slice A1 (dg B32 r.2.1).length c1,.slice A2 (dg B32 r.2.2).length c2] 25) (.cells #[.bool false,.slice none 0 0,.slice none 0 0] 25)
  have hbw:=zcy W (.cells #[.bool true] 92) (.cells #[.bool r.1,.slice A1 (dg B32 r.2.1).length c1,.slice A2 (dg B32 r.2.2).length c2] 25) (.cells #[.bool false,.slice none 0 0,.slice none 0 0] 25)
  generalize (((W.alloc (.cells #[.bool true] 92)).alloc (.cells #[.bool r.1,.slice A1 (dg B32 r.2.1).length c1,.slice A2 (dg B32 r.2.2).length c2] 25)).alloc (.cells #[.bool false,.slice none 0 0,.slice none 0 0] 25))=W3 at hbox hbw ⊢
  refine(HN.out W3 hbw).mono ?_
  rintro e w4 hp
  obtain⟨v',rfl,hRT,hB⟩:=hp.rt
  obtain⟨B1,d1,B2,d2,rfl,S1,S2⟩:=hRT.args
  have HBX:=Aside0.mk (zbt hbox hB)
  have HB:=Aside0.mk (zbp hbw hB)
  have HRT:=Aside0.mk (hRT.lower (base':=base) (Nat.le_trans hbase hbw.size))
  obtain⟨⟨x0,x1,x2⟩,y0,y1,y2⟩:=zbM HBX.out
  clear hbox hbw hRT hB S1 S2 hp
  go_wp2
  refine bodyPost_ret (results_cell_row rfl _ _ (W.heap.size+1+1) 25 _ (0,0) _ rfl (zb0 HBX.out _ _ _) Try.underlying25 rfl (by kernel_rfl)) rfl ?_
  exact⟨_,rfl,HRT.out.store3 HBX.out _ _ _,zbZ HB.out (by omega) _ _ _⟩
 | false =>
  go_wp2
  refine bodyPost_ret (results_cell_row rfl _ _ (W.heap.size+1+1) 25 _ (0,0) _ rfl (alloc3_new W _ _ _) Try.underlying25 rfl (by kernel_rfl)) rfl ?_
  exact⟨_,rfl,RT.below ⟨_,_,rfl,HR1.out,HR2.out⟩ (zcy W _ _ _),zcy W _ _ _⟩
end Go.Proofs.Ytehghijlchpeaaa.Nat1
end
section
namespace Go.Proofs.Ytehghijlchpeaaa.Nat1
open Go.RowKit YtehghijlchpeaaaW.PrintWords YtehghijlchpeaaaW.PrintLast YtehghijlchpeaaaW.PrintMore L Nt
theorem made_q (n:Bool) (A0:Option Addr) (c0:Nat) (l0:List Int) (A1:Option Addr) (c1:Nat) (l1:List Int) (g:Nat) (W:World) (hg:W.heap[g]? = some (.cells #[.slice A1 l1.length c1] 23 (0,0))) (hr0:Kd.C (Kd.int .u32) W A0 l0.length l0) (hc0:l0.length≤c0) (hr1:Kd.C (Kd.int .u32) W A1 l1.length l1) (hc1:l1.length≤c1) (h0:okD l0) (h1:okD l1) (hz:val B32 l1≠0) :
  Calls Try.prog 104 #[.bool n,.slice A0 l0.length c0,.pointer (some ⟨g,0,none⟩)] W (RatPost W (nrm n (val B32 l0) (val B32 l1))):=by
 have hu25:=Try.underlying25
 have HM:=Aside0.mk (fun (W':World) (hb:Below W.heap.size W W')=>make_q n A0 c0 l0 A1 c1 l1 W' (Kd.C_below hr0 hb) hc0 (Kd.C_below hr1 hb) hc1 h0 h1)
 rw [mkR_eq,if_neg hz] at HM
 have HG:=Aside0.mk hg
 have k0:=cell_of_one (zbt hg ((Below.refl _ W).alloc (Nat.le_refl _) (.cells #[.bool false,.slice none 0 0,.slice none 0 0] 25)))
 generalize nrm n (val B32 l0) (val B32 l1)=r at *
 clear hg hr0 hr1 h0 h1 hz
 go_enter Try.func104,Try.ntmps104
 go_wp2_with fail
 have hbox:=zbW W (.cells #[.bool false,.slice none 0 0,.slice none 0 0] 25)
 have hbw:Below W.heap.size W (W.alloc (.cells #[.bool false,.slice none 0 0,.slice none 0 0] 25)):=zbq (Below.refl _ _) _
 generalize W.alloc (.cells #[.bool false,.slice none 0 0,.slice none 0 0] 25)=W1 at hbox hbw k0 ⊢
 refine(HM.out W1 hbw).mono ?_
 rintro e w2 ⟨v1,v2,rfl,R1,R2,hB⟩
 have HR2:=Aside0.mk (And.intro R1 R2)
 have HBX:=Aside0.mk (zbt hbox hB)
 have HB:=Aside0.mk (zbp hbw hB)
 have HS1:=Aside0.mk hbw.size
 obtain⟨B1,d1,rfl⟩:=Kd.R_slice R1
 obtain⟨B2,d2,rfl⟩:=Kd.R_slice R2
 have hlt:W.heap.size < w2.heap.size:=zbQ HBX.out
 obtain⟨⟨x0,x1,x2⟩,y0,y1,y2⟩:=zbM HBX.out
 clear hbox hbw R1 R2 hB k0
 go_wp2
 refine bodyPost_ret (results_cell_row rfl _ _ W.heap.size 25 _ (0,0) _ rfl (zbw (zb0 HBX.out _ _ _) _) Try.underlying25 rfl (by kernel_rfl)) rfl ?_
 exact⟨_,_,rfl,Kd.R_alloc (store3_R (Kd.R_lower HR2.out.1 HS1.out) HBX.out _ _ _) _,Kd.R_alloc (store3_R (Kd.R_lower HR2.out.2 HS1.out) HBX.out _ _ _) _,zbq (zbZ HB.out (Nat.le_refl _) _ _ _) _⟩
end Go.Proofs.Ytehghijlchpeaaa.Nat1
end
