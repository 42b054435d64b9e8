/- Part 15 of the proof of tensorDotsUpto_holds: what it uses, in build order. -/
import Derived.Test.YtehghijlchpeaaaGreatV013
import Derived.ArgAppend
import Derived.Below
import Derived.BigQuiet
import Derived.Deep.AppendLies
import Derived.Deep.CutBlock
import Derived.Deep.DeepCutAuto
import Derived.Deep.Draws
import Derived.Deep.LoopGhost
import Derived.Deep.OwnRows
import Derived.Deep.QuietTactic
import Derived.Deep.RegionHeld3
import Derived.KernelRfl
import Derived.Laws.BitsLemmas
import Derived.Laws.BytesArg
import Derived.Laws.IdiomCopy
import Derived.Laws.MakeOwn
import Derived.Laws.OwnMore
import Derived.Laws.Rows
import Derived.Laws.Slices
import Derived.Lib.AppendStr
import Derived.Lib.ConvBytes
import Derived.Lib.ItoaNum
import Derived.Maps.AppendAt
import Derived.OrdersHeld
import Derived.OwnWalk
import Derived.RowKit
import Derived.RowKit3
import Derived.Tactics
import Derived.Test.YtehghijlchpeaaaGreatProg
import Derived.WalkKit
import Derived.WideLaws
set_option maxHeartbeats 8000000
set_option maxRecDepth 100000
set_option linter.unusedVariables false
set_option linter.unusedSimpArgs false
set_option linter.unusedSectionVars false
section
namespace Go.Proofs.YtehghijlchpeaaaGreat.Nat1
open Go.RowKit YtehghijlchpeaaaGreatW.PrintWords YtehghijlchpeaaaGreatW.PrintLast YtehghijlchpeaaaGreatW.PrintMore L Nt
theorem val_top {l:List Int} {n:Nat} (hl:l.length=n+1):val B32 l=zb0 B32 (lmb l) n+(lmb l n).toNat*B32 ^ n:=by
 rw [← zcg (l:=l) (m:=n+1) (by omega),zb0]
theorem val_top2 {l:List Int} {m:Nat} (hl:l.length=m+2):val B32 l=zb0 B32 (lmb l) m+B32 ^ m*((lmb l (m+1)).toNat*B32+(lmb l m).toNat):=by
 rw [← zcg (l:=l) (m:=m+2) (by omega),zb0,zb0,Nat.pow_succ,Nat.mul_add]
 have:(lmb l (m+1)).toNat*(B32 ^ m*B32)=B32 ^ m*((lmb l (m+1)).toNat*B32):=by simp only [Nat.mul_comm,Nat.mul_left_comm,Nat.mul_assoc]
 rw [this,Nat.mul_comm (B32 ^ m) (lmb l m).toNat]
 omega
theorem part_top3 (us:List Int) (j m:Nat):part us j (m+3)=part us j m+B32 ^ m*(((lmb us (j+(m+2))).toNat*B32+(lmb us (j+(m+1))).toNat)*B32+(lmb us (j+m)).toNat):=by
 unfold part
 rw [zb0,zb0,zb0]
 simp only [Nat.pow_succ,Nat.mul_add,Nat.add_mul]
 simp only [Nat.mul_comm,Nat.mul_left_comm,Nat.mul_assoc]
 omega
theorem zcs {l:List Int} (h:ok B32 l) (k:Nat):zb0 B32 (lmb l) k < B32 ^ k:=sumB_lt_pow (fun i=>by have:=zbG h i; unfold B32; omega) k
theorem div_norm {b n:Nat} (hb:0 < b) (hn:(dg B32 b).length=n+1):∃ s:Nat,s < 32∧(32-(Lib.bitLen (lmb (dg B32 b) n).toNat:Int))=(s:Int)∧2147483648*B32 ^ n≤b*2 ^ s∧b*2 ^ s < B32 ^ (n+1):=by
 have hok:=dg_ok zby b
 have e:=val_top hn
 rw [zbV zby] at e
 have h1:=zcs hok n
 have h2:=pow_le_of_dg zby hb
 rw [hn,Nat.add_sub_cancel] at h2
 have h3:=zbG hok n
 generalize zb0 B32 (lmb (dg B32 b)) n=lo at *
 generalize hx:(lmb (dg B32 b) n).toNat=x at *
 have hx1:x < 4294967296:=by omega
 have hx0:x≠0:=by
  rintro rfl
  omega
 obtain⟨h7,h5,h4⟩:1≤Lib.bitLen x∧2 ^ (Lib.bitLen x-1)≤x∧x < 2 ^ Lib.bitLen x:=Lib.bitLenAux_bounds _ x (by omega) hx0
 have h6:Lib.bitLen x≤32:=by
  rcases Nat.lt_or_ge 32 (Lib.bitLen x) with h | h
  ·
   exfalso
   have:2 ^ 32≤2 ^ (Lib.bitLen x-1):=Nat.pow_le_pow_right (by omega) (by omega)
   omega
  ·
   exact h
 generalize Lib.bitLen x=t at *
 have hp1:2 ^ (t-1)*2 ^ (32-t)=2147483648:=by rw [← Nat.pow_add,show t-1+(32-t)=31 by omega]
 have hp2:2 ^ t*2 ^ (32-t)=B32:=by rw [← Nat.pow_add,show t+(32-t)=32 by omega]; rfl
 refine⟨32-t,by omega,by omega,?_,?_⟩
 ·
  have h8:2 ^ (t-1)*2 ^ (32-t)≤x*2 ^ (32-t):=Nat.mul_le_mul_right _ h5
  rw [hp1] at h8
  have h9:=Nat.mul_le_mul_right (B32 ^ n) h8
  have h10:b*2 ^ (32-t)=lo*2 ^ (32-t)+x*2 ^ (32-t)*B32 ^ n:=by
   rw [e,Nat.add_mul]; simp only [Nat.mul_comm,Nat.mul_left_comm,Nat.mul_assoc]
  omega
 ·
  have h8:(x+1)*2 ^ (32-t)≤2 ^ t*2 ^ (32-t):=Nat.mul_le_mul_right _ h4
  rw [hp2] at h8
  have h9:b < (x+1)*B32 ^ n:=by rw [Nat.add_mul,Nat.one_mul]; omega
  have h10:b*2 ^ (32-t) < (x+1)*B32 ^ n*2 ^ (32-t):=Nat.mul_lt_mul_of_pos_right h9 (Nat.pow_pos (by omega))
  have h11:(x+1)*B32 ^ n*2 ^ (32-t)=(x+1)*2 ^ (32-t)*B32 ^ n:=by simp only [Nat.mul_comm,Nat.mul_left_comm,Nat.mul_assoc]
  have h12:=Nat.mul_le_mul_right (B32 ^ n) h8
  rw [Nat.pow_succ,Nat.mul_comm (B32 ^ n)]
  omega
theorem norm_top {V n:Nat} (h1:2147483648*B32 ^ n≤V) (h2:V < B32 ^ (n+1)):(dg B32 V).length=n+1∧2147483648≤lmb (dg B32 V) n:=by
 have hl:(dg B32 V).length=n+1:=by
  have h3:=zbS zby h2
  have h4:=lt_dg zby (n:=V)
  rcases Nat.lt_or_ge n (dg B32 V).length with h | h
  ·
   omega
  ·
   exfalso
   have h5:B32 ^ (dg B32 V).length≤B32 ^ n:=Nat.pow_le_pow_right B32_pos h
   have:=pow_pos_ n
   omega
 refine⟨hl,?_⟩
 have e:=val_top hl
 rw [zbV zby] at e
 have h3:=zcs (dg_ok zby V) n
 have h4:=zbG (dg_ok zby V) n
 rcases Int.lt_or_le (lmb (dg B32 V) n) 2147483648 with h | h
 ·
  exfalso
  have h5:((lmb (dg B32 V) n).toNat+1)*B32 ^ n≤2147483648*B32 ^ n:=Nat.mul_le_mul_right _ (by omega)
  rw [Nat.add_mul,Nat.one_mul] at h5
  omega
 ·
  exact h
theorem val_zeros (n:Nat):val B32 (List.replicate n 0)=0:=by
 induction n with
 | zero=>rfl
 | succ n ih=>rw [List.replicate_succ,zcB,ih]; rfl
theorem ok_zeros (n:Nat):ok B32 (List.replicate n 0):=fun x hx=>by rw [List.eq_of_mem_replicate hx]; decide
theorem lmb_zeros (n i:Nat):lmb (List.replicate n 0) i=0:=by
 unfold lmb
 rw [List.getD_eq_getElem?_getD]
 rcases Nat.lt_or_ge i n with h | h
 ·
  rw [List.getElem?_replicate,if_pos h]; rfl
 ·
  rw [List.getElem?_eq_none (by rw [List.length_replicate]; exact h)]; rfl
theorem pad {l:List Int} {L:Nat} (h:ok B32 l) (hl:l.length≤L):(l.take (min l.length L)++(List.replicate L 0).drop (min l.length L)).length=L∧ok B32 (l.take (min l.length L)++(List.replicate L 0).drop (min l.length L))∧val B32 (l.take (min l.length L)++(List.replicate L 0).drop (min l.length L))=val B32 l:=by
 rw [Nat.min_eq_left hl,List.take_length,List.drop_replicate]
 refine⟨by rw [List.length_append,List.length_replicate]; omega,ok_append.2 ⟨h,ok_zeros _⟩,by rw [val_append,val_zeros,Nat.mul_zero,Nat.add_zero]⟩
end Go.Proofs.YtehghijlchpeaaaGreat.Nat1
end
section
namespace Go.Proofs.YtehghijlchpeaaaGreat.Nat1
open Go.RowKit YtehghijlchpeaaaGreatW.PrintWords YtehghijlchpeaaaGreatW.PrintLast YtehghijlchpeaaaGreatW.PrintMore L Nt
theorem UR_of_R {W:World} {base:Nat} {ok':Nat→Prop} {g cap n:Nat} {us:List Int} (h:Kd.R (Kd.int .u32) 81 W base ok' (.slice (some ⟨g,0,none⟩) n cap) us):UR W g cap us:=by
 obtain⟨rfl,_⟩:=Kd.R_reads' h
 exact own_weaken (Kd.own_of_R h) (Nat.zero_le _)
theorem UR.R {W:World} {g cap:Nat} {us:List Int} (h:UR W g cap us):Kd.R (Kd.int .u32) 81 W 0 (fun _=>True) (.slice (some ⟨g,0,none⟩) us.length cap) us:=Kd.R_of_own h (fun _ _=>trivial)
theorem UR.c {W:World} {g cap:Nat} {us:List Int} (h:UR W g cap us):us.length≤cap∧Kd.C (Kd.int .u32) W (some ⟨g,0,none⟩) us.length us:=(Kd.R_reads' h.R).2
theorem UR.grown {W W':World} {g g2 cap:Nat} {us:List Int} (h:UR W g cap us) (hg:W.grownBy W' (some g2)) (hne:g≠g2):UR W' g cap us:=h.keep (hg.block g h.lt (by simpa using hne))
theorem UR.below {W W':World} {g cap:Nat} {us:List Int} (h:UR W g cap us) (hb:Below W.heap.size W W'):UR W' g cap us:=h.keep (hb.block g h.lt)
def VR2 (W:World) (g g2:Nat) (A:Option Addr) (l:List Int):Prop:=∀ W':World,(∀ k,k < W.heap.size→k≠g→k≠g2→W'.heap[k]? = W.heap[k]?)→Kd.C (Kd.int .u32) W' A l.length l
theorem VR2.v {W:World} {g g2:Nat} {A:Option Addr} {l:List Int} (h:VR2 W g g2 A l):VR W g A l:=fun W' hk=>h W' (fun k h1 h2 _=>hk k h1 h2)
theorem VR2.grown {W W':World} {g g2 g3:Nat} {A:Option Addr} {l:List Int} (h:VR2 W g g2 A l) (hg:W.grownBy W' (some g3)) (h3:g3=g∨g3=g2):VR2 W' g g2 A l :=
 fun W2 hk=>h W2 (fun k h1 h2 h4=>(hk k (Nat.lt_of_lt_of_le h1 hg.size) h2 h4).trans (hg.block k h1 (by rcases h3 with rfl | rfl<;>simpa)))
theorem VR2_of_R {W W2:World} {base g g2 n c:Nat} {ok':Nat→Prop} {A:Option Addr} {l:List Int} (h:Kd.R (Kd.int .u32) 81 W base ok' (.slice A n c) l) (hk:∀ k,k < W.heap.size→W2.heap[k]? = W.heap[k]?) (hs:W.heap.size≤W2.heap.size) (hg:W.heap.size≤g) (hg2:W.heap.size≤g2):VR2 W2 g g2 A l:=by
 intro W' hk'
 exact(Kd.R_reads' (Kd.R_step h (w1:=W') (fun k _ hlt=>(hk' k (by omega) (by omega) (by omega)).trans (hk k hlt)))).2.2
theorem R_slice_n {W:World} {base n:Nat} {ok':Nat→Prop} {v:Value} {l:List Int} (h:Kd.R (Kd.int .u32) 81 W base ok' v l) (hn:l.length=n):∃ A c,v=.slice A n c:=by
 subst hn
 exact Kd.R_slice h
theorem R_slice1_n {W:World} {base n:Nat} {ok':Nat→Prop} {v:Value} {l:List Int} (h:Kd.R (Kd.int .u32) 81 W base ok' v l) (hn:l.length=n) (hp:0 < n):∃ (A:Addr) (c:Nat),v=.slice (some A) n c:=by
 subst hn
 exact Kd.R_slice1 h hp
theorem R_form_n {W:World} {base n:Nat} {ok':Nat→Prop} {v:Value} {l:List Int} (h:Kd.R (Kd.int .u32) 81 W base ok' v l) (hn:l.length=n) (hp:0 < n):∃ g cap,v=.slice (some ⟨g,0,none⟩) n cap∧base≤g∧g < W.heap.size∧n≤cap:=by
 subst hn
 obtain⟨g,cap,rfl,h1,h2,_⟩:=Kd.R_form h hp
 exact⟨g,cap,rfl,h1,h2,(Kd.R_reads' h).2.1⟩
theorem zcq {W:World} {base n c:Nat} {ok':Nat→Prop} {A:Option Addr} {l:List Int} (h:Kd.R (Kd.int .u32) 81 W base ok' (.slice A n c) l):Kd.C (Kd.int .u32) W A n l∧n≤c:=by
 obtain⟨rfl,h1,h2⟩:=Kd.R_reads' h
 exact⟨h2,h1⟩
structure DI (w:World) (gu cu gq cq:Nat) (Av:Option Addr) (xv:List Int) (L Q V X J:Nat) (wr:World):Prop where
 le:J≤Q
 b:Below w.heap.size w wr
 v:VR2 wr gu gq Av xv
 r:∃ us qs,us.length=L∧ok B32 us∧UR wr gu cu us∧qs.length=Q∧ok B32 qs∧UR wr gq cq qs∧val B32 us < V*B32 ^ J∧X=val B32 qs*V+val B32 us∧∀ i,i < J→lmb qs i=0
theorem part_bound {us:List Int} {j V:Nat} (k:Nat) (hlt:val B32 us < V*B32 ^ (j+1)):part us j k < B32*V:=by
 have e1:=val_part us j k
 have h1:B32 ^ j*part us j k≤B32 ^ j*(part us j k+B32 ^ k*val B32 (us.drop (j+k))):=Nat.mul_le_mul_left _ (Nat.le_add_right _ _)
 have h2:V*B32 ^ (j+1)=B32 ^ j*(B32*V):=by rw [Nat.pow_succ]; simp only [Nat.mul_comm,Nat.mul_left_comm,Nat.mul_assoc]
 have h3:B32 ^ j*part us j k < B32 ^ j*(B32*V):=by omega
 exact Nat.lt_of_mul_lt_mul_left h3
theorem top_le {us xv:List Int} {j m V:Nat} (hu:ok B32 us) (hv:ok B32 xv) (hl:xv.length=m+2) (hV:val B32 xv=V) (hP:part us j (m+3) < B32*V):lmb us (j+(m+2))≤lmb xv (m+1):=by
 have e:=val_top (n:=m+1) hl
 have h1:=zcs hv (m+1)
 have h2:=zbG hu (j+(m+2))
 have h3:=zbG hv (m+1)
 have e2:part us j (m+3)=part us j (m+2)+(lmb us (j+(m+2))).toNat*B32 ^ (m+2):=rfl
 rw [hV] at e
 have h4:B32*V < B32*(((lmb xv (m+1)).toNat+1)*B32 ^ (m+1)):=by
  refine Nat.mul_lt_mul_of_pos_left ?_ B32_pos
  rw [Nat.add_mul,Nat.one_mul]
  omega
 have h5:B32*(((lmb xv (m+1)).toNat+1)*B32 ^ (m+1))=((lmb xv (m+1)).toNat+1)*B32 ^ (m+2):=by
  rw [Nat.pow_succ B32 (m+1)]; simp only [Nat.mul_comm,Nat.mul_left_comm,Nat.mul_assoc]
 have h6:(lmb us (j+(m+2))).toNat*B32 ^ (m+2) < ((lmb xv (m+1)).toNat+1)*B32 ^ (m+2):=by omega
 have h7:=Nat.lt_of_mul_lt_mul_right h6
 omega
theorem guess_spec {us xv:List Int} {j m V:Nat} {g:Int} (hu:ok B32 us) (hv:ok B32 xv) (hl:xv.length=m+2) (hV:val B32 xv=V) (hvt:2147483648≤lmb xv (m+1)) (hP:part us j (m+3) < B32*V)
  (h:QR (lmb us (j+(m+2))) (lmb us (j+(m+1))) (lmb us (j+m)) (lmb xv (m+1)) (lmb xv m) g):g.toNat=part us j (m+3) / V∨g.toNat=part us j (m+3) / V+1:=by
 have hV0:0 < V:=by
  rcases Nat.eq_zero_or_pos V with h0 | h0
  ·
   subst h0; omega
  ·
   exact h0
 exact guess_two (zbG hu _).1 (zbG hu _).1 (zbG hu _).1 (by omega) (zbG hv _).1 h (part_top3 us j m) (part_lt hu j m) (hV ▸ val_top2 hl) (zcs hv m) ((Nat.div_lt_iff_lt_mul hV0).mpr hP)
theorem round_end {us us' qs:List Int} {j n V X:Nat} {x:Int} (hou:ok B32 us) (hl:us'.length=us.length) (hsame:∀ i,¬ (j≤i∧i < j+(n+1))→lmb us' i=lmb us i) (hV:0 < V) (hVn:V < B32 ^ n)
  (hlt:val B32 us < V*B32 ^ (j+1)) (hP:part us' j (n+1)=part us j (n+1) % V) (hx:x.toNat=part us j (n+1) / V) (hX:X=val B32 qs*V+val B32 us) (hj:j < qs.length) (hz:∀ i,i < j+1→lmb qs i=0) :
  val B32 us' < V*B32 ^ j∧X=val B32 (qs.set j x)*V+val B32 us'∧∀ i,i < j→lmb (qs.set j x) i=0:=by
 obtain⟨h1,h2,h3⟩:=div_step hou hl hsame hV hVn hlt hP
 refine⟨h1,?_,fun i hi=>by rw [zcd _ _ _ _ hj,if_neg (by omega)]; exact hz i (by omega)⟩
 rw [val_set qs j x hj (hz j (by omega)),hx,hX,h2,Nat.add_mul]
 omega
theorem div_long (A0:Option Addr) (c0:Nat) (l0:List Int) (A1:Option Addr) (c1:Nat) (l1:List Int) (w:World) (hr0:Kd.C (Kd.int .u32) w A0 l0.length l0) (hc0:l0.length≤c0) (hr1:Kd.C (Kd.int .u32) w A1 l1.length l1) (hc1:l1.length≤c1) (h0:okD l0) (h1:okD l1)
  (hz:val B32 l1≠0) (hle:val B32 l1≤val B32 l0) (m:Nat) (hm:(dg B32 (val B32 l1)).length=m+2):Calls Tryz.prog 172 #[.slice A0 l0.length c0,.slice A1 l1.length c1] w (DivPost w (dg B32 (val B32 l0 / val B32 l1)) (dg B32 (val B32 l0 % val B32 l1)) 0):=by
 have HT0:=Aside0.mk (nat_Trim.calls A0 c0 l0 (dg B32 (val B32 l0)) w hr0 hc0 (if_pos h0.okL))
 have HT1:=Aside0.mk (fun (W:World) (hb:Below w.heap.size w W)=>nat_Trim.calls A1 c1 l1 (dg B32 (val B32 l1)) W (Kd.C_below hr1 hb) hc1 (if_pos h1.okL))
 have hb1:=(dg_okD h1 rfl).1
 have ha1:=(dg_okD h0 rfl).1
 have va:val B32 (dg B32 (val B32 l0))=val B32 l0:=zbV zby _
 have vb:val B32 (dg B32 (val B32 l1))=val B32 l1:=zbV zby _
 obtain⟨s,hs,hsx,hV1,hV2⟩:=div_norm (Nat.pos_of_ne_zero hz) hm
 obtain⟨hvl,hvt⟩:=norm_top hV1 hV2
 have hbB:=pow_le_of_dg zby (Nat.pos_of_ne_zero hz)
 rw [hm] at hbB
 have haB:=lt_dg zby (n:=val B32 l0)
 have hlen:=zbP zby hle
 rw [hm] at hlen
 generalize val B32 l1=b at *
 generalize val B32 l0=a at *
 generalize dg B32 b=xb at *
 generalize dg B32 a=xa at *
 obtain⟨L,hL⟩:∃ L,L=xa.length+1:=⟨_,rfl⟩
 obtain⟨Q,hQ⟩:∃ Q,xa.length=Q+m+1:=⟨xa.length-(m+1),by omega⟩
 have hp:0 < 2 ^ s:=Nat.pow_pos (by omega)
 have hX:a*2 ^ s < b*2 ^ s*B32 ^ Q:=by
  have h1:B32 ^ (m+1)*B32 ^ Q≤b*B32 ^ Q:=Nat.mul_le_mul_right _ hbB
  rw [← Nat.pow_add,show m+1+Q=xa.length by omega] at h1
  have h2:a*2 ^ s < b*B32 ^ Q*2 ^ s:=Nat.mul_lt_mul_of_pos_right (by omega) hp
  have h3:b*B32 ^ Q*2 ^ s=b*2 ^ s*B32 ^ Q:=by simp only [Nat.mul_comm,Nat.mul_left_comm,Nat.mul_assoc]
  omega
 have hXl:(dg B32 (a*2 ^ s)).length≤L:=by
  refine zbS zby ?_
  have h2:a*2 ^ s < B32 ^ xa.length*2 ^ s:=Nat.mul_lt_mul_of_pos_right haB hp
  have h3:2 ^ s≤2 ^ 32:=Nat.pow_le_pow_right (by omega) (by omega)
  have h4:B32 ^ xa.length*2 ^ s≤B32 ^ xa.length*B32:=Nat.mul_le_mul_left _ h3
  rw [hL,Nat.pow_succ]
  omega
 have hdiv:a*2 ^ s / (b*2 ^ s)=a / b:=Nat.mul_div_mul_right a b hp
 have hmod:a*2 ^ s % (b*2 ^ s)=a % b*2 ^ s:=Nat.mul_mod_mul_right (2 ^ s) a b
 obtain⟨c,hcc,hc0'⟩:∃ c,cmpN a b=c∧0≤c:=⟨_,rfl,by unfold cmpN; split; omega; split<;>omega⟩
 have HC:=Aside0.mk (fun (A0:Option Addr) (c0:Nat) (A1:Option Addr) (c1:Nat) (W:World) x y z u=>nat_Cmp.calls A0 c0 xa A1 c1 xb c W x y z u (by rw [nat_Cmp.f,if_pos ⟨ha1.okL,hb1.okL⟩,va,vb,hcc]))
 have HSb:=Aside0.mk (fun (A0:Option Addr) (c0:Nat) (W:World) x y=>nat_Shl.calls A0 c0 xb (s:Int) (dg B32 (b*2 ^ s)) W x y (by rw [nat_Shl.f,if_pos ⟨hb1.okL,by omega,by omega⟩,vb,Int.toNat_natCast]))
 have HSa:=Aside0.mk (fun (A0:Option Addr) (c0:Nat) (W:World) x y=>nat_Shl.calls A0 c0 xa (s:Int) (dg B32 (a*2 ^ s)) W x y (by rw [nat_Shl.f,if_pos ⟨ha1.okL,by omega,by omega⟩,va,Int.toNat_natCast]))
 have hxt:=zbG hb1.1 (m+1)
 have hsx:=Aside0.mk hsx
 have HV:=Aside0.mk (And.intro hV2 (And.intro hvt (And.intro hX (And.intro hdiv hmod))))
 have HOv:=Aside0.mk (dg_ok zby (b*2 ^ s))
 have HVv:=Aside0.mk (zbV zby (b*2 ^ s))
 have HOu:=Aside0.mk (pad (dg_ok zby (a*2 ^ s)) hXl)
 rw [zbV zby] at HOu
 generalize dg B32 (b*2 ^ s)=xv at *
 generalize dg B32 (a*2 ^ s)=lu at *
 obtain⟨n,hn⟩:∃ n,n=m+2:=⟨_,rfl⟩
 obtain⟨la,hla⟩:∃ la,la=Q+m+1:=⟨_,rfl⟩
 have hl0:(la:Int)≤549755813888:=by have:=ha1.2; omega
 have hln:(n:Int)≤(la:Int):=by omega
 have hn2:2≤(n:Int):=by omega
 have hQl:(Q:Int)≤549755813888:=by omega
 rw [← hn] at hm
 rw [← hla] at hQ
 obtain⟨x,hx⟩:∃ x,x=lmb xb (m+1):=⟨_,rfl⟩
 have Hx:=Aside0.mk hx
 rw [← hx] at hxt hsx
 rw [hm] at HC HSb
 rw [hQ] at HC HSa
 have Hm:=Aside0.mk hm
 have HQ:=Aside0.mk hQ
 have HL:=Aside0.mk hL
 have HXl:=Aside0.mk hXl
 have Hvl:=Aside0.mk hvl
 have Hn:=Aside0.mk hn
 have Hla:=Aside0.mk hla
 have hsI:0≤(s:Int)∧(s:Int) < 32:=by omega
 clear hx h0 h1 hr0 hr1 hz hle va vb ha1 hb1 hcc hV1 hV2 hbB haB hX hdiv hmod hp hvt hm hQ hL hlen hXl hvl hn hla
 go_enter Tryz.func172,Tryz.ntmps172
 go_wp2_with fail
 refine HT0.out.mono ?_
 rintro e w1 ⟨va,rfl,hR,hB⟩
 obtain⟨Aa,ca,rfl⟩:=R_slice_n hR HQ.out
 have HB:=Aside0.mk hB
 have HRa:=Aside0.mk hR
 clear hR hB
 go_wp2_with fail
 refine(HT1.out w1 HB.out).mono ?_
 rintro e w2 ⟨vb,rfl,hR,hB⟩
 obtain⟨Ab,cb,rfl⟩:=R_slice1_n hR Hm.out (by omega)
 have HB2:=Aside0.mk (zbm HB.out hB)
 have HRa2:=Aside0.mk (Kd.R_below HRa.out hB)
 have HRb:=Aside0.mk hR
 clear hR hB HB HRa
 go_wp2_with fail
 refine(HC.out Aa ca (some Ab) cb w2 (zcq HRa2.out).1 (zcq HRa2.out).2 (zcq HRb.out).1 (zcq HRb.out).2).mono ?_
 rintro e w3 ⟨rfl,hB⟩
 have HB3:=Aside0.mk (zbm HB2.out hB)
 have HRa3:=Aside0.mk (Kd.R_below HRa2.out hB)
 have HRb3:=Aside0.mk (Kd.R_below HRb.out hB)
 obtain⟨adb,e,hx⟩:=Kd.at_int (zcq HRb3.out).1 ((n-1:Nat):Int) (by omega) (by omega)
 cases e
 rw [rd_lmb,Int.toNat_natCast,show n-1=m+1 by have:=Hn.out; omega,← Hx.out,show m+1=n-1 by have:=Hn.out; omega] at hx
 clear hB HRa2 HRb HB2
 go_wp2_with fail
 refine(Tryz.bits_LeadingZeros32 x w3 hxt.1 (by omega)).mono ?_
 rintro e w4 ⟨rfl,rfl⟩
 rw [hsx.out]
 go_wp2_with fail
 refine(HSb.out (some Ab) cb _ (zcq HRb3.out).1 (zcq HRb3.out).2).mono ?_
 rintro e w4 ⟨vv,rfl,hR,hB⟩
 obtain⟨Av,cv,rfl⟩:=R_slice1_n hR (Hvl.out.trans Hn.out.symm) (by omega)
 have HCV:=Aside0.mk (zcq hR).2
 have HB4:=Aside0.mk (zbm HB3.out hB)
 have HRa4:=Aside0.mk (Kd.R_below HRa3.out hB)
 have HB4s:=Aside0.mk HB4.out.size
 have HRv:=Aside0.mk hR
 clear hR hB hx HRa3 HRb3
 go_wp2_with ((with_reducible refine zbD (N:=62) rfl ?_); refine Kd.R_make (Kd.int .u32) _ 81 rfl (N:=62) rfl 24 _ _ rfl ((la:Int)+1) rfl rfl Tryz.underlying24 (.int .u32 0) 4 infoU32 rfl (by decide) (by omega) 0 (ok:=fun _=>True) (okp:=fun _=>True) rfl (fun _ hk=>hk) trivial (by omega) (by omega) (Below.refl _ _) (Nat.le_refl _) ?_; intro vu w5 hR hB hG hN; clear hG hN)
 rw [show ((la:Int)+1).toNat=L by have:=HL.out; have:=HQ.out; omega] at hR
 obtain⟨gu,cu,rfl,hgu,hgu2,hcu⟩:=R_form_n hR (List.length_replicate ..) (by have:=HL.out; omega)
 have HGU:=Aside0.mk (And.intro hgu hgu2)
 have HB5:=Aside0.mk (zbm HB4.out hB)
 have HBv5:=Aside0.mk hB
 have HRa5:=Aside0.mk (Kd.R_below HRa4.out hB)
 have HRu:=Aside0.mk hR
 have hcu2:(la:Int)+1≤cu:=by have:=HL.out; have:=HQ.out; omega
 clear hR hB HRa4 hgu hgu2 hcu
 go_wp2_with fail
 refine(HSa.out Aa ca w5 (zcq HRa5.out).1 (zcq HRa5.out).2).mono ?_
 rintro e w6 ⟨vl,rfl,hR,hB⟩
 obtain⟨Al,cl,rfl⟩:=Kd.R_slice hR
 have HB6:=Aside0.mk (zbm HB5.out hB)
 have HBv6:=Aside0.mk (zbm HBv5.out hB)
 have HRu6:=Aside0.mk (Kd.R_below HRu.out hB)
 have HCl:=Aside0.mk (Kd.R_reads' hR).2.2
 clear hR hB HRa5 HRu HB5 HBv5
 go_wp2_with (first | ((with_reducible refine zbO (b:=.copy) rfl ?_); go_must (refine Kd.R_copy (0:Int) w4.heap.size rfl (.tmp 63) (.tmp 66) 24 25 81 rfl Tryz.underlying24 (by kernel_rfl) _ (List.replicate L 0) lu Al lu.length cl (fun _=>True) rfl rfl HRu6.out HCl.out HBv6.out HBv6.out.size ?_); intro w7 hR hB hG; rw [List.length_replicate] at hR; have HRu7:=Aside0.mk (show Kd.R (Kd.int .u32) 81 w7 w4.heap.size (fun _=>True) (.slice (some ⟨gu,0,none⟩) L cu) _ from hR); have HBv7:=Aside0.mk hB; have HG7:=Aside0.mk (show w6.grownBy w7 (some gu) from hG); clear hR hB hG) | ((with_reducible refine zbD (N:=74) rfl ?_); go_must (refine Kd.R_make (Kd.int .u32) _ 81 rfl (N:=74) rfl 25 _ _ rfl ((la:Int)-(n:Int)+1) rfl rfl Tryz.underlying25 (.int .u32 0) 4 infoU32 rfl (by decide) (by omega) 0 (ok:=fun _=>True) (okp:=fun _=>True) rfl (fun _ hk=>hk) trivial (by omega) (by omega) (Below.refl _ _) (Nat.le_refl _) ?_); intro vq w8 hR hB hG hN; clear hG hN; rw [show ((la:Int)-(n:Int)+1).toNat=Q by have:=Hla.out; have:=Hn.out; omega] at hR; obtain⟨gq,cq,rfl,hgq,hgq2,hcq⟩:=R_form_n hR (List.length_replicate ..) (by have:=Hla.out; have:=Hn.out; omega); have HRq8:=Aside0.mk hR; have HB8:=Aside0.mk hB; have HGQ:=Aside0.mk (And.intro hgq (And.intro hgq2 hcq)); clear hR hB hgq hgq2 hcq))
 have HB7:=Aside0.mk (show Below w.heap.size w w7 from HB4.out.trans ⟨HBv7.out.os,HBv7.out.tape,HBv7.out.output,HBv7.out.size,fun k hk=>HBv7.out.block k (by have:=HB4.out.size; omega)⟩)
 have HB7s:=Aside0.mk HBv7.out.size
 clear HB6 HBv6 HRu6 HCl
 have hne:gu≠gq:=by
  have h1:=HGU.out.2
  have h2:=HG7.out.size
  have h3:=HBv7.out.size
  have h4:=own_lt (Kd.own_of_R HRu7.out) gu (by simp [Value.ownBlock])
  have hgq:=HGQ.out.1
  omega
 have HNE:=Aside0.mk hne
 have hcq2:(Q:Int)≤cq:=by have:=HGQ.out.2.2; omega
 have HI0:Aside0 (DI w gu cu gq cq (some Av) xv L Q (b*2 ^ s) (a*2 ^ s) Q w8):=by
  refine⟨⟨Nat.le_refl _,zbm HB7.out HB8.out,?_,_,List.replicate Q 0,HOu.out.1,HOu.out.2.1,(UR_of_R HRu7.out).below HB8.out,List.length_replicate ..,ok_zeros _,UR_of_R HRq8.out,?_,?_,fun i _=>lmb_zeros _ _⟩⟩
  ·
   refine VR2_of_R HRv.out (fun k hk=>(HB8.out.block k (by have:=HBv7.out.size; omega)).trans (HBv7.out.block k hk)) (Nat.le_trans HBv7.out.size HB8.out.size) HGU.out.1 (Nat.le_trans HBv7.out.size HGQ.out.1)
  ·
   rw [HOu.out.2.2]; exact HV.out.2.2.1
  ·
   rw [val_zeros,Nat.zero_mul,Nat.zero_add,HOu.out.2.2]
 clear HRq8 HB8 HRu7 HBv7 HB7 HRv HG7 hne HB4
 have hgu0:gu≠gq:=HNE.out
 clear hgu0
 go_loopw [14] (fun iv wr=>∃ J:Nat,iv=.int .i64 ((J:Int)-1)∧Aside0 (DI w gu cu gq cq (some Av) xv L Q (b*2 ^ s) (a*2 ^ s) J wr)) (fun iv _=>(intOf iv+1).toNat)
 case atStart=>exact⟨Q,rfl,HI0⟩
 case round =>
  obtain⟨J,rfl,HI⟩:=hrel
  rcases Nat.eq_zero_or_pos J with hJ | hJ
  ·
   subst hJ
   obtain⟨us,qs,hul,huo,hU,hql,hqo,hQr,hlt,hX,hz⟩:=HI.out.r
   rw [Nat.pow_zero,Nat.mul_one] at hlt
   have hL2:L=la+1:=by have:=HL.out; have:=HQ.out; omega
   have hq:val B32 qs=a / b:=by
    rw [← HV.out.2.2.2.1,hX,Nat.add_comm,Nat.add_mul_div_right _ _ (by omega),Nat.div_eq_of_lt hlt,Nat.zero_add]
   have hr:val B32 us=a % b*2 ^ s:=by
    rw [← HV.out.2.2.2.2,hX,Nat.add_comm,Nat.add_mul_mod_self_right,Nat.mod_eq_of_lt hlt]
   have hr2:a % b*2 ^ s / 2 ^ s=a % b:=Nat.mul_div_cancel _ (Nat.pow_pos (by omega))
   have huk:okL us:=⟨huo,by omega⟩
   have HTq:=nat_Trim.calls (some ⟨gq,0,none⟩) cq qs (dg B32 (a / b)) wr hQr.c.2 hQr.c.1 (by rw [nat_Trim.f,if_pos ⟨hqo,by omega⟩,hq])
   rw [hql] at HTq
   have HTq:=Aside0.mk HTq
   have HTu:=fun (W:World) (h:Below wr.heap.size wr W)=>nat_Trim.calls (some ⟨gu,0,none⟩) cu us (dg B32 (a % b*2 ^ s)) W (hU.below h).c.2 (hU.below h).c.1 (by rw [nat_Trim.f,if_pos huk,hr])
   rw [hul] at HTu
   have HTu:=Aside0.mk HTu
   have hok2:okL (dg B32 (a % b*2 ^ s)):=by
    refine⟨dg_ok zby _,?_⟩
    rw [← hr]
    exact Nat.le_trans (zbS zby (val_lt huo)) huk.2
   have HSr:=Aside0.mk (fun (A:Option Addr) (c:Nat) (W:World) x y=>nat_Shr.calls A c (dg B32 (a % b*2 ^ s)) (s:Int) (dg B32 (a % b)) W x y (by rw [nat_Shr.f,if_pos ⟨hok2,by omega,by omega⟩,zbV zby,Int.toNat_natCast,hr2]))
   have HBr:=Aside0.mk HI.out.b
   clear hul huo hU hql hqo hQr hlt hX hz hL2 hq hr hr2 huk hok2 HI
   go_wp2_with fail
   refine HTq.out.mono ?_
   rintro e w9 ⟨v1,rfl,hR,hB⟩
   obtain⟨Aq,ccq,rfl⟩:=Kd.R_slice hR
   have HB9:=Aside0.mk hB
   have HR9:=Aside0.mk hR
   clear hR hB
   go_wp2_with fail
   refine(HTu.out w9 HB9.out).mono ?_
   rintro e w10 ⟨v2,rfl,hR,hB⟩
   obtain⟨Ar,cr,rfl⟩:=Kd.R_slice hR
   have HB10:=Aside0.mk (zbm HB9.out hB)
   have HR10:=Aside0.mk (Kd.R_below HR9.out hB)
   have HRr:=Aside0.mk hR
   clear hR hB
   go_wp2_with fail
   refine(HSr.out Ar cr w10 (Kd.R_reads' HRr.out).2.2 (Kd.R_reads' HRr.out).2.1).mono ?_
   rintro e w11 ⟨v3,rfl,hR,hB⟩
   obtain⟨Af,cf,rfl⟩:=Kd.R_slice hR
   have HB11:=Aside0.mk (zbm HBr.out (zbm HB10.out hB))
   have HRR:=Aside0.mk (two_apart (Kd.R_lower HR10.out HBr.out.size) hR hB (zbm HBr.out HB10.out).size)
   clear hR hB
   go_wp2
   go_ret3
   exact⟨_,_,rfl,HRR.out.1,HRR.out.2,HB11.out⟩
  ·
   obtain⟨j,rfl⟩:∃ j,J=j+1:=⟨J-1,by omega⟩
   rw [show ((j+1:Nat):Int)-1=(j:Int) by omega]
   have hjn:(j:Int)+(n:Int)≤(la:Int):=by have:=HI.out.le; have:=Hla.out; have:=Hn.out; omega
   have hjq:(j:Int) < (Q:Int):=by have:=HI.out.le; omega
   clear hJ
   obtain⟨us,qs,hul,huo,hU,hql,hqo,hQr,hlt,hX,hz⟩:=HI.out.r
   have hxl:xv.length=m+2:=by have:=Hvl.out; omega
   have hPb:=part_bound (m+3) hlt
   have hVr:=HI.out.v
   have HVR:=Aside0.mk hVr
   have HUR:=Aside0.mk hU
   have HQR:=Aside0.mk hQr
   have HUO:=Aside0.mk huo
   have HS:=Aside0.mk (And.intro hlt (And.intro hX (And.intro hz (And.intro hPb (And.intro hul (And.intro hql hqo))))))
   have hCv:Kd.C (Kd.int .u32) wr (some Av) n xv:=by
    have:=hVr.v.c
    rwa [hxl,← Hn.out] at this
   have hnm:=Hn.out
   have hlL:L=la+1:=by have:=HL.out; have:=HQ.out; omega
   have HG:=Aside0.mk (guess_calls gu j n (cu-j) (some Av) cv (lmb us (j+n)) (lmb us (j+(n-1))) (lmb us (j+(n-2))) (lmb xv (n-1)) (lmb xv (n-2)) wr (by omega) (by omega) (by omega)
    (hU.at_ _ (by omega)) (hU.at_ _ (by omega)) (hU.at_ _ (by omega)) xv (by omega) hCv rfl rfl (by omega) (by have:=hCv; exact(Nat.le_trans (Nat.le_of_eq (by rw [hnm])) (by have:=HCV.out; omega)))
    (zbG huo _) (zbG huo _) (zbG huo _) ⟨by have:=HV.out.2.1; rw [show n-1=m+1 by omega]; exact this,(zbG HOv.out _).2⟩ (zbG HOv.out _)
    (by rw [show j+n=j+(m+2) by omega,show n-1=m+1 by omega]; exact top_le huo HOv.out hxl HVv.out hPb))
   clear hU huo hQr hlt hX hz hPb hul hql hqo hVr hCv hnm hlL hxl
   go_wp2_with fail
   rw [show j+n+1-j=n+1 by omega]
   refine HG.out.mono ?_
   rintro e w9 ⟨g,rfl,⟨mm,rfl⟩,hQG⟩
   have hg0:=hQG.q0
   have HGT:=Aside0.mk (guess_spec (us:=us) (xv:=xv) (j:=j) (m:=m) (g:=g) HUO.out HOv.out (by have:=Hvl.out; omega) HVv.out HV.out.2.1 HS.out.2.2.2.1 (by
    have h:=hQG
    rw [show j+n=j+(m+2) by have:=Hn.out; omega,show n-1=m+1 by have:=Hn.out; omega,show n-2=m by have:=Hn.out; omega] at h
    exact h))
   clear hQG HG
   have HTK:=Aside0.mk (take_calls gu cu j (cu-j) us (some Av) cv xv g (wr.drewN mm) HUR.out HVR.out.v (by have:=HCV.out; have:=Hvl.out; have:=Hn.out; omega) (by have:=HS.out.2.2.2.2.1; have:=HL.out; have:=HQ.out; have:=Hvl.out; have:=Hn.out; omega) (by have:=HS.out.2.2.2.2.1; have:=HL.out; have:=HQ.out; omega) HUO.out HOv.out hg0 (by have:=Hvl.out; have:=Hn.out; omega))
   rw [Hvl.out,← Hn.out] at HTK
   go_wp2_with fail
   refine HTK.out.mono ?_
   rintro e w10 ⟨us1,t,rfl,hl1,ho1,hU1,hG1,hs1,he1⟩
   have hX1:xv.length+1=n+1:=by have:=Hvl.out; have:=Hn.out; omega
   rw [hX1] at he1 hs1
   have hV0:0 < val B32 xv:=by
    rcases Nat.eq_zero_or_pos (val B32 xv) with h0 | h0
    ·
     have:=HS.out.2.2.2.1
     rw [← HVv.out,h0] at this
     omega
    ·
     exact h0
   have hVn:val B32 xv < B32 ^ n:=by rw [HVv.out,Hn.out]; exact HV.out.1
   have hVX:val B32 xv < B32 ^ (n+1):=Nat.lt_of_lt_of_le hVn (Nat.pow_le_pow_right B32_pos (by omega))
   have hgt:g.toNat=part us j (n+1) / val B32 xv∨g.toNat=part us j (n+1) / val B32 xv+1:=by
    have:=HGT.out
    rwa [← HVv.out,show m+3=n+1 by have:=Hn.out; omega] at this
   have hTK:=taken rfl hV0 hVX (part_lt ho1 j (n+1)) hgt he1
   have hQ1:UR w10 gq cq qs:=UR.grown (W:=wr.drewN mm) HQR.out hG1 HNE.out.symm
   have hV1:VR2 w10 gu gq (some Av) xv:=VR2.grown (W:=wr.drewN mm) HVR.out hG1 (.inl rfl)
   have hB1:Below w.heap.size w w10:=⟨hG1.os.trans HI.out.b.os,hG1.tape.trans HI.out.b.tape,hG1.output.trans HI.out.b.output,Nat.le_trans HI.out.b.size hG1.size,fun k hk=>(hG1.block k (Nat.lt_of_lt_of_le hk HI.out.b.size) (by have:=HGU.out.1; have:=HB4s.out; intro e; injection e with e; omega)).trans (HI.out.b.block k hk)⟩
   cases t with
   | false =>
    have HEND:=Aside0.mk (round_end (x:=g) (V:=val B32 xv) HUO.out hl1 (n:=n) hs1 hV0 hVn (by rw [HVv.out]; exact HS.out.1) (hTK.1 rfl).2 (hTK.1 rfl).1 (X:=a*2 ^ s) (by rw [HVv.out]; exact HS.out.2.1) (by have:=HS.out.2.2.2.2.2.1; omega) HS.out.2.2.1)
    have hqc:=hQ1.at_ j (by have:=HS.out.2.2.2.2.2.1; omega)
    have HM:=Aside0.mk (And.intro hl1 (And.intro ho1 (And.intro hU1 (And.intro hQ1 (And.intro hV1 hB1)))))
    clear hl1 ho1 hU1 hG1 hs1 he1 hX1 hV0 hVn hVX hgt hTK hQ1 hV1 hB1 HTK
    go_wp2
    go_roundw
    case rel =>
     refine⟨j,rfl,⟨⟨by have:=HI.out.le; omega,HM.out.2.2.2.2.2.setCell (by show w.heap.size≤gq; have:=HGQ.out.1; have:=HGU.out.1; have:=HB4s.out; have:=HB7s.out; omega) _,HM.out.2.2.2.2.1.grown (grown_set _ _ _ _) (.inr rfl),us1,qs.set j g,by rw [HM.out.1]; exact HS.out.2.2.2.2.1,HM.out.2.1,HM.out.2.2.1.grown (grown_set _ _ _ _) HNE.out,by rw [List.length_set]; exact HS.out.2.2.2.2.2.1,ok_set HS.out.2.2.2.2.2.2 _ hg0,HM.out.2.2.2.1.set_ _ _,?_,?_,HEND.out.2.2⟩⟩⟩
     ·
      rw [← HVv.out]; exact HEND.out.1
     ·
      rw [← HVv.out]; exact HEND.out.2.1
    case measure=>first | (simp [intOf]; done) | (simp [intOf]; omega)
   | true =>
    have hg1:g.toNat=part us j (n+1) / val B32 xv+1:=(hTK.2 rfl).1
    have hg2:1≤g:=by
     generalize part us j (n+1) / val B32 xv=qq at hg1
     omega
    have HBK:=Aside0.mk (back_calls gu cu j (cu-j) us1 (some Av) cv xv w10 hU1 hV1.v (by have:=HCV.out; have:=Hvl.out; have:=Hn.out; omega) (by rw [hl1]; have:=HS.out.2.2.2.2.1; have:=HL.out; have:=HQ.out; have:=Hvl.out; have:=Hn.out; omega) (by rw [hl1]; have:=HS.out.2.2.2.2.1; have:=HL.out; have:=HQ.out; omega) ho1 HOv.out (by have:=Hvl.out; have:=Hn.out; omega))
    rw [Hvl.out,← Hn.out] at HBK
    have HTK2:=Aside0.mk (And.intro hl1 (And.intro hs1 (And.intro hV0 (And.intro hVn (And.intro hTK (And.intro hQ1 (And.intro hV1 hB1)))))))
    clear hl1 ho1 hU1 hG1 hs1 he1 hV0 hVn hVX hgt hTK hQ1 hV1 hB1 HTK hg1
    go_wp2_with fail
    refine HBK.out.mono ?_
    rintro e w11 ⟨us2,tt,rfl,hl2,ho2,hU2,hG2,hs2,he2⟩
    rw [hX1] at he2 hs2
    have hPP:=(HTK2.out.2.2.2.2.1.2 trivial).2 _ tt he2 (part_lt ho2 j (n+1))
    have hgm:(g-1).toNat=part us j (n+1) / val B32 xv:=by
     have:=(HTK2.out.2.2.2.2.1.2 trivial).1
     generalize part us j (n+1) / val B32 xv=qq at this ⊢
     omega
    have hg3:0≤g-1∧g-1 < 4294967296:=by omega
    have HEND:=Aside0.mk (round_end (x:=g-1) (V:=val B32 xv) HUO.out (hl2.trans HTK2.out.1) (n:=n) (fun i hi=>(hs2 i hi).trans (HTK2.out.2.1 i hi)) HTK2.out.2.2.1 HTK2.out.2.2.2.1 (by rw [HVv.out]; exact HS.out.1) hPP hgm (X:=a*2 ^ s) (by rw [HVv.out]; exact HS.out.2.1) (by have:=HS.out.2.2.2.2.2.1; omega) HS.out.2.2.1)
    have hQ2:UR w11 gq cq qs:=HTK2.out.2.2.2.2.2.1.grown hG2 HNE.out.symm
    have hV2:VR2 w11 gu gq (some Av) xv:=HTK2.out.2.2.2.2.2.2.1.grown hG2 (.inl rfl)
    have hB1:=HTK2.out.2.2.2.2.2.2.2
    have hB2:Below w.heap.size w w11:=⟨hG2.os.trans hB1.os,hG2.tape.trans hB1.tape,hG2.output.trans hB1.output,Nat.le_trans hB1.size hG2.size,fun k hk=>(hG2.block k (Nat.lt_of_lt_of_le hk hB1.size) (by have:=HGU.out.1; have:=HB4s.out; intro e; injection e with e; omega)).trans (hB1.block k hk)⟩
    have hqc:=hQ2.at_ j (by have:=HS.out.2.2.2.2.2.1; omega)
    have HM:=Aside0.mk (And.intro (hl2.trans HTK2.out.1) (And.intro ho2 (And.intro hU2 (And.intro hQ2 (And.intro hV2 hB2)))))
    clear hl2 ho2 hU2 hG2 hs2 he2 hPP hgm hQ2 hV2 hB1 hB2 HTK2 HBK hX1
    go_wp2
    go_roundw
    case rel =>
     refine⟨j,rfl,⟨⟨by have:=HI.out.le; omega,HM.out.2.2.2.2.2.setCell (by show w.heap.size≤gq; have:=HGQ.out.1; have:=HGU.out.1; have:=HB4s.out; have:=HB7s.out; omega) _,HM.out.2.2.2.2.1.grown (grown_set _ _ _ _) (.inr rfl),us2,qs.set j (g-1),by rw [HM.out.1]; exact HS.out.2.2.2.2.1,HM.out.2.1,HM.out.2.2.1.grown (grown_set _ _ _ _) HNE.out,by rw [List.length_set]; exact HS.out.2.2.2.2.2.1,ok_set HS.out.2.2.2.2.2.2 _ hg3,HM.out.2.2.2.1.set_ _ _,?_,?_,HEND.out.2.2⟩⟩⟩
     ·
      rw [← HVv.out]; exact HEND.out.1
     ·
      rw [← HVv.out]; exact HEND.out.2.1
    case measure=>first | (simp [intOf]; done) | (simp [intOf]; omega)
end Go.Proofs.YtehghijlchpeaaaGreat.Nat1
end
section
namespace Go.Proofs.YtehghijlchpeaaaGreat.Nat1
open Go.RowKit YtehghijlchpeaaaGreatW.PrintWords YtehghijlchpeaaaGreatW.PrintLast YtehghijlchpeaaaGreatW.PrintMore L Nt
theorem quo_DivMod.calls (A0:Option Addr) (c0:Nat) (l0:List Int) (A1:Option Addr) (c1:Nat) (l1:List Int) (r1 r2:List Int) (r3:Int) (w:World) (hr0:Kd.C (Kd.int .u32) w A0 l0.length l0) (hc0:l0.length≤c0) (hr1:Kd.C (Kd.int .u32) w A1 l1.length l1) (hc1:l1.length≤c1) (h:quo_DivMod.f l0 l1=some (r1,r2,r3)) :
  Calls Tryz.prog 172 #[.slice A0 l0.length c0,.slice A1 l1.length c1] w fun e w'=>∃ v0_ v1_:Value,e=.returned (.tuple #[v0_,v1_,.int .i64 r3])∧Kd.R (Kd.int .u32) 81 w' w.heap.size (fun k_=>some k_≠(v1_:Value).ownBlock) v0_ r1∧Kd.R (Kd.int .u32) 81 w' w.heap.size (fun k_=>some k_≠(v0_:Value).ownBlock) v1_ r2∧Below w.heap.size w w':=by
 show Calls Tryz.prog 172 #[.slice A0 l0.length c0,.slice A1 l1.length c1] w (DivPost w r1 r2 r3)
 unfold quo_DivMod.f at h
 split at h
 ·
  rename_i hk
  split at h
  ·
   rename_i hz
   cases h
   exact div_zero A0 c0 l0 A1 c1 l1 w hr0 hc0 hr1 hc1 hk.1 hk.2 hz
  ·
   rename_i hz
   cases h
   have hne:dg B32 (val B32 l1)≠[]:=fun e=>hz ((zcl zby _).1 e)
   have hpos:0 < (dg B32 (val B32 l1)).length:=List.length_pos_iff.2 hne
   rcases Nat.lt_or_ge (val B32 l0) (val B32 l1) with hlt | hle
   ·
    rw [Nat.div_eq_of_lt hlt,Nat.mod_eq_of_lt hlt,zbT]
    exact div_below A0 c0 l0 A1 c1 l1 w hr0 hc0 hr1 hc1 hk.1 hk.2 hz hlt
   ·
    rcases Nat.lt_or_ge 1 (dg B32 (val B32 l1)).length with h2 | h2
    ·
     obtain⟨m,hm⟩:∃ m,(dg B32 (val B32 l1)).length=m+2:=⟨_,(Nat.sub_add_cancel h2).symm⟩
     exact div_long A0 c0 l0 A1 c1 l1 w hr0 hc0 hr1 hc1 hk.1 hk.2 hz hle m hm
    ·
     exact div_one A0 c0 l0 A1 c1 l1 w hr0 hc0 hr1 hc1 hk.1 hk.2 hz hle (by omega)
 ·
  cases h
end Go.Proofs.YtehghijlchpeaaaGreat.Nat1
end
section
namespace Go.Proofs.YtehghijlchpeaaaGreat.Nat1
open Go.RowKit YtehghijlchpeaaaGreatW.PrintWords YtehghijlchpeaaaGreatW.PrintLast YtehghijlchpeaaaGreatW.PrintMore L Nt
def bits_Len32.f (a0:Int):Option Int:=if 0≤a0∧a0 < 4294967296 then some (Lib.bitLen a0.toNat:Int) else none
theorem bits_Len32.calls (a0:Int) (r:Int) (w:World) (h:bits_Len32.f a0=some r) :
  Calls Tryz.prog 171 #[.int .u32 a0] w fun e w'=>e=.returned (.int .i64 r)∧Below w.heap.size w w':=by
 unfold bits_Len32.f at h
 split at h
 ·
  rename_i hk
  cases h
  refine(Tryz.bits_Len32 a0 w hk.1 (by omega)).mono ?_
  rintro e w' ⟨rfl,rfl⟩
  exact⟨rfl,Below.refl _ _⟩
 ·
  cases h
end Go.Proofs.YtehghijlchpeaaaGreat.Nat1
end
section
noncomputable section
namespace Go.Proofs.YtehghijlchpeaaaGreat.H
open Go.RowKit YtehghijlchpeaaaGreat.L YtehghijlchpeaaaGreat.Nat1 YtehghijlchpeaaaGreatW.PrintWords YtehghijlchpeaaaGreatW.PrintLast YtehghijlchpeaaaGreatW.PrintMore
attribute [local go_sem] zbX zbZ zb2 zb1 zbQ zbR zbW zbY   -- for this text's walks alone
def errW:Option Int→Value
 | none=>.nilIface
 | some c=>.iface 0 (.int .i64 c)
theorem zbx:errW none=.nilIface:=rfl
theorem zbw (c:Int):errW (some c)=.iface 0 (.int .i64 c):=rfl
end Go.Proofs.YtehghijlchpeaaaGreat.H
end
end
section
noncomputable section
namespace Go.Proofs.YtehghijlchpeaaaGreat.H
open Go.RowKit YtehghijlchpeaaaGreat.L YtehghijlchpeaaaGreat.Nat1 YtehghijlchpeaaaGreatW.PrintWords YtehghijlchpeaaaGreatW.PrintLast YtehghijlchpeaaaGreatW.PrintMore
attribute [local go_sem] zbX zbZ zb2 zb1 zbQ zbR zbW zbY   -- for this text's walks alone
def nat_Mul.l0:Nat→List Int→List Int→List Int→Int→Int→Option (List Int)
 | 0,_,_,_,_,_=>none
 | k+1,x0,x5,x8,x9,x10=>if x10 < x9 then (if 0≤x10 then (if x10 < (x8.length:Int) then ((nat_row.f x0 (rd x8 x10) x10).bind fun t102=>((nat_Add.f x5 t102).bind fun t105=>(nat_Mul.l0 k x0 t105 x8 x9 (wrap64 (x10+1))))) else (none)) else (none)) else (some x5)
def nat_Mul.f (k:Nat) (l0:List Int) (l1:List Int):Option (List Int):=nat_Mul.l0 k l0 ([]:List Int) l1 (l1.length:Int) 0
theorem nat_Mul.calls (k:Nat) (A0:Option Addr) (c0:Nat) (l0:List Int) (A1:Option Addr) (c1:Nat) (l1:List Int) (r:List Int) (w:World) (hr0:Kd.C (Kd.int .u32) w A0 l0.length l0) (hc0:l0.length≤c0) (hr1:Kd.C (Kd.int .u32) w A1 l1.length l1) (hc1:l1.length≤c1) (h:nat_Mul.f k l0 l1=some r) :
  Calls Tryz.prog 162 #[.slice A0 l0.length c0,.slice A1 l1.length c1] w fun e w'=>∃ v0_:Value,e=.returned (v0_)∧Kd.R (Kd.int .u32) 81 w' w.heap.size (fun _=>True) v0_ r∧Below w.heap.size w w':=by
 have HR0:=Aside0.mk hr0
 have HC0:=Aside0.mk hc0
 clear hr0 hc0
 have HR1:=Aside0.mk hr1
 have HC1:=Aside0.mk hc1
 clear hr1 hc1
 have HB:=Aside0.mk (Below.refl w.heap.size w)
 have H:(nat_Mul.l0 k l0 ([]:List Int) l1 (l1.length:Int) 0)=some r:=h
 clear h
 have H':=Aside0.mk H
 clear H
 go_enter Tryz.func162,Tryz.ntmps162
 go_wp2
 go_loopg [5,10] k (fun kq v5 v10 w'=>∃ (x5_1:List Int) (x10_1:Int),v10=.int .i64 x10_1∧Aside0 (nat_Mul.l0 kq l0 x5_1 l1 (l1.length:Int) x10_1=some r)∧Aside0 (kq≤k)∧Aside0 (Kd.R (Kd.int .u32) 81 w' w.heap.size (fun _=>True) v5 x5_1)∧Aside0 (Below w.heap.size w w'))
 case atStart=>exact⟨(([]:List Int)),(0),(by first | rfl | (simp; done) | (simp [*]; done)),H',⟨Nat.le_refl _⟩,⟨by first | exact Kd.R_nil _ _ _ _ _ | exact Kd.N_nil _ _ _ _ _ | exact Kd.V_nil _ _ _ _ _ | exact Kd.Q_nil _ _ _ _ _ | exact Kd.S_nil _ _ _ _ _⟩,⟨by repeat (first | (with_reducible first | exact HB.out | apply zbn | apply zbo | apply zbs) | exact HB.out)⟩⟩
 case round =>
  clear H'
  try clear c1
  try clear p2
  obtain⟨x5_1,x10_1,rfl,HA,HK1,HO_5,HB⟩:=hrel
  cases gk with
  | zero=>exact absurd HA.out (by simp [nat_Mul.l0])
  | succ k1 =>
   have H:=HA.out
   clear HA
   simp only [nat_Mul.l0] at H
   by_cases c3:x10_1 < (l1.length:Int)
   ·
    rw [if_pos c3] at H
    have c3b0:decide (x10_1 < (l1.length:Int))=true:=decide_eq_true c3
    clear c3
    by_cases c4:0≤x10_1
    ·
     rw [if_pos c4] at H
     have c4b0:decide (0≤x10_1)=true:=decide_eq_true c4
     clear c4
     by_cases c5:x10_1 < (l1.length:Int)
     ·
      rw [if_pos c5] at H
      have c5b0:decide (x10_1 < (l1.length:Int))=true:=decide_eq_true c5
      clear c5
      replace H:=Option.bind_eq_some_iff.mp H
      obtain⟨t102,A60,H⟩:=H
      replace H:((nat_Add.f x5_1 t102).bind fun t105=>(nat_Mul.l0 k1 l0 t105 l1 (l1.length:Int) (wrap64 (x10_1+1))))=some r:=H
      have A6:=Aside0.mk A60
      clear A60
      replace H:=Option.bind_eq_some_iff.mp H
      obtain⟨t105,A70,H⟩:=H
      replace H:(nat_Mul.l0 k1 l0 t105 l1 (l1.length:Int) (wrap64 (x10_1+1)))=some r:=H
      have A7:=Aside0.mk A70
      clear A70
      have H':=Aside0.mk H
      clear H
      have p101:0≤(x10_1:Int):=of_decide_eq_true qs
      have q101:x10_1 < (l1.length:Int):=of_decide_eq_true qs
      obtain⟨ad101,e101,hx101_0⟩:=Kd.at_int HR1.out x10_1 p101 q101
      cases e101
      replace hx101_0:=(HB.out.cell (World.block_lt_of_cell? w _ hx101_0)).trans hx101_0
      replace p101:=eq_true p101
      replace q101:=eq_true q101
      go_wp2_with (first | ((with_reducible refine zbz (f:=175) rfl ?_); refine zbK (some 19) rfl rfl Tryz.func175 (by kernel_rfl) rfl #[.slice A0 l0.length c0,.int .u32 (rd l1 x10_1),.int .i64 x10_1] rfl (by (try simp only [List.map_toArray,List.map_cons,List.map_nil]); first | done | rfl | (simp only [List.length_drop,List.length_take]; rfl)) ?_; (with_reducible refine(nat_row.calls _ _ l0 (rd l1 x10_1) x10_1 t102 _ ?side1 ?side2 A6.out).mono ?_); (case side1=>exact qc (Kd.C_below HR0.out HB.out)); (case side2=>exact HC0.out); rintro e w8 ⟨v103,rfl,ho0,hb⟩; refine⟨_,rfl,?_⟩; have n0_:=Aside0.mk (Kd.R_elder' (qr HO_5.out) (Kd.R_base ho0) hb); have n1_:=Aside0.mk (Kd.R_lower (Kd.R_new' ho0 (Kd.R_lt (qr HO_5.out))) (zbp (qb HB.out))); have n2_:=Aside0.mk (zbm (qb HB.out) hb); clear HO_5; clear HB; have HO_5:=n0_; have HO104:=n1_; have HB:=n2_; clear n0_ n1_ n2_; (try clear hb); (try clear hb2); (try clear hk); (try clear hi); (try clear ho0); obtain⟨Ao9,co9,eo9⟩:=Kd.R_slice HO_5.out; subst eo9; obtain⟨Ao10,co10,eo10⟩:=Kd.R_slice HO104.out; subst eo10) | ((with_reducible refine zbz (f:=164) rfl ?_); refine zbK (some 20) rfl rfl Tryz.func164 (by kernel_rfl) rfl #[.slice Ao9 x5_1.length co9,.slice Ao10 t102.length co10] rfl (by (try simp only [List.map_toArray,List.map_cons,List.map_nil]); first | done | rfl | (simp only [List.length_drop,List.length_take]; rfl)) ?_; (with_reducible refine(nat_Add.calls _ _ x5_1 _ _ t102 t105 _ ?side1 ?side2 ?side3 ?side4 A7.out).mono ?_); (case side1=>exact qc (Kd.R_reads' HO_5.out).2.2); (case side2=>exact(Kd.R_reads' HO_5.out).2.1); (case side3=>exact qc (Kd.R_reads' HO104.out).2.2); (case side4=>exact(Kd.R_reads' HO104.out).2.1); rintro e w11 ⟨v106,rfl,ho0,hb⟩; refine⟨_,rfl,?_⟩; have n0_:=Aside0.mk (Kd.R_elder' (qr HO_5.out) (Kd.R_base ho0) hb); have n1_:=Aside0.mk (Kd.R_elder' (qr HO104.out) (Kd.R_base ho0) hb); have n2_:=Aside0.mk (Kd.R_lower (Kd.R_new' (Kd.R_new' ho0 (Kd.R_lt (qr HO_5.out))) (Kd.R_lt (qr HO104.out))) (zbp (qb HB.out))); have n3_:=Aside0.mk (zbm (qb HB.out) hb); clear HO_5; clear HO104; clear HB; have HO_5:=n0_; have HO104:=n1_; have HO107:=n2_; have HB:=n3_; clear n0_ n1_ n2_ n3_; (try clear hb); (try clear hb2); (try clear hk); (try clear hi); (try clear ho0)))
      go_roundg k1
      case measure=>have:=HK1.out; omega
      case rel=>exact⟨(t105),(wrap64 (x10_1+1)),(by first | rfl | (simp; done) | (simp [*]; done)),H',⟨by have:=HK1.out; omega⟩,⟨by (with_reducible repeat (first | apply Kd.R_alloc | apply Kd.R_drewN | apply Kd.R_drew)); exact Kd.R_mono HO107.out (fun _ hk=>trivial)⟩,⟨by repeat (first | (with_reducible first | exact HB.out | apply zbn | apply zbo | apply zbs) | exact HB.out)⟩⟩
     ·
      rw [if_neg c5] at H
      exact absurd H (by simp)
    ·
     rw [if_neg c4] at H
     exact absurd H (by simp)
   ·
    rw [if_neg c3] at H
    have c3b0:decide (x10_1 < (l1.length:Int))=false:=decide_eq_false c3
    clear c3
    obtain rfl:=Option.some.inj H
    go_wp2
    go_ret
    exact⟨_,by first | rfl | (simp [zbx,zbw]<;>rfl) | (simp [*,zbx,zbw]<;>rfl),by (with_reducible repeat (first | apply Kd.R_alloc | apply Kd.R_drewN | apply Kd.R_drew)); exact HO_5.out,by repeat (first | (with_reducible first | exact HB.out | apply zbn | apply zbo | apply zbs) | exact HB.out)⟩
def nat_Bits.f (k:Nat) (l0:List Int):Option (Int):=(nat_top.f k l0).bind fun t108=>(if t108=0 then (some 0) else (if 0≤(wrap64 (t108-1)) then (if (wrap64 (t108-1)) < (l0.length:Int) then ((bits_Len32.f (rd l0 (wrap64 (t108-1)))).bind fun t110=>(some (wrap64 ((wrap64 (32*(wrap64 (t108-1))))+t110)))) else (none)) else (none)))
theorem nat_Bits.mono:∀ a0 k,LeO (nat_Bits.f k a0) (nat_Bits.f (k+1) a0):=by
 intro a0 k
 unfold nat_Bits.f
 repeat' first
   | (with_reducible exact nat_top.mono _ _)
   | (with_reducible exact LeO.refl _)
   | (with_reducible exact LeO.none _)
   | (with_reducible refine LeO.ite ?_ ?_)
   | (with_reducible refine LeO.bind ?_ (fun _=>?_))
   | exact nat_top.mono _ _
   | exact LeO.none _
   | refine LeO.ite ?_ ?_
   | refine LeO.bind ?_ (fun _=>?_)
theorem nat_Bits.calls (k:Nat) (A0:Option Addr) (c0:Nat) (l0:List Int) (r:Int) (w:World) (hr0:Kd.C (Kd.int .u32) w A0 l0.length l0) (hc0:l0.length≤c0) (h:nat_Bits.f k l0=some r) :
  Calls Tryz.prog 157 #[.slice A0 l0.length c0] w fun e w'=>e=.returned (.int .i64 r)∧Below w.heap.size w w':=by
 have HR0:=Aside0.mk hr0
 have HC0:=Aside0.mk hc0
 clear hr0 hc0
 have HB:=Aside0.mk (Below.refl w.heap.size w)
 have H:((nat_top.f k l0).bind fun t108=>(if t108=0 then (some 0) else (if 0≤(wrap64 (t108-1)) then (if (wrap64 (t108-1)) < (l0.length:Int) then ((bits_Len32.f (rd l0 (wrap64 (t108-1)))).bind fun t110=>(some (wrap64 ((wrap64 (32*(wrap64 (t108-1))))+t110)))) else (none)) else (none))))=some r:=h
 clear h
 replace H:=Option.bind_eq_some_iff.mp H
 obtain⟨t108,A20,H⟩:=H
 replace H:(if t108=0 then (some 0) else (if 0≤(wrap64 (t108-1)) then (if (wrap64 (t108-1)) < (l0.length:Int) then ((bits_Len32.f (rd l0 (wrap64 (t108-1)))).bind fun t110=>(some (wrap64 ((wrap64 (32*(wrap64 (t108-1))))+t110)))) else (none)) else (none)))=some r:=H
 have A2:=Aside0.mk A20
 clear A20
 by_cases c3:t108=0
 ·
  rw [if_pos c3] at H
  have c3b0:(t108 == 0)=true:=beq_iff_eq.mpr c3
  have c3b1:(t108 != 0)=false:=bne_eq_false_iff_eq.mpr c3
  clear c3
  obtain rfl:=Option.some.inj H
  go_enter Tryz.func157,Tryz.ntmps157
  go_wp2_with (first | ((with_reducible refine zbz (f:=170) rfl ?_); refine zbK (some 5) rfl rfl Tryz.func170 (by kernel_rfl) rfl #[.slice A0 l0.length c0] rfl (by (try simp only [List.map_toArray,List.map_cons,List.map_nil]); first | done | rfl | (simp only [List.length_drop,List.length_take]; rfl)) ?_; (with_reducible refine(nat_top.calls k _ _ l0 t108 _ ?side1 ?side2 A2.out).mono ?_); (case side1=>exact qc HR0.out); (case side2=>exact HC0.out); rintro e w' ⟨rfl,⟨nd,rfl⟩⟩; refine⟨_,rfl,?_⟩))
  go_ret
  exact⟨by first | rfl | (simp [zbx,zbw]<;>rfl) | (simp [*,zbx,zbw]<;>rfl),by repeat (first | (with_reducible first | exact HB.out | apply zbn | apply zbo | apply zbs) | exact HB.out)⟩
 ·
  rw [if_neg c3] at H
  have c3b0:(t108 == 0)=false:=beq_eq_false_iff_ne.mpr c3
  have c3b1:(t108 != 0)=true:=bne_iff_ne.mpr c3
  obtain⟨ji4,hji4⟩:∃ j_:Int,(wrap64 (t108-1))=j_:=⟨_,rfl⟩
  replace H:(if 0≤(ji4) then (if (ji4) < (l0.length:Int) then ((bits_Len32.f (rd l0 (ji4))).bind fun t110=>(some (wrap64 ((wrap64 (32*(ji4)))+t110)))) else (none)) else (none))=some r:=by first | (rw [hji4] at H; exact H) | (simp only [hji4] at H ⊢; exact H)
  (try rw [hji4] at A2)
  have hji4w:(IntKind.i64.wrap (t108-1))=ji4:=(zcb _).trans hji4
  by_cases c5:0≤(ji4)
  ·
   rw [if_pos c5] at H
   have c5b0:decide (0≤(ji4))=true:=decide_eq_true c5
   clear c5
   by_cases c6:(ji4) < (l0.length:Int)
   ·
    rw [if_pos c6] at H
    have c6b0:decide ((ji4) < (l0.length:Int))=true:=decide_eq_true c6
    clear c6
    replace H:=Option.bind_eq_some_iff.mp H
    obtain⟨t110,A70,H⟩:=H
    replace H:(some (wrap64 ((wrap64 (32*(ji4)))+t110)))=some r:=H
    have A7:=Aside0.mk A70
    clear A70
    obtain rfl:=Option.some.inj H
    go_enter Tryz.func157,Tryz.ntmps157
    go_wp2_with (first | ((with_reducible refine zbz (f:=170) rfl ?_); refine zbK (some 5) rfl rfl Tryz.func170 (by kernel_rfl) rfl #[.slice A0 l0.length c0] rfl (by (try simp only [List.map_toArray,List.map_cons,List.map_nil]); first | done | rfl | (simp only [List.length_drop,List.length_take]; rfl)) ?_; (with_reducible refine(nat_top.calls k _ _ l0 t108 _ ?side1 ?side2 A2.out).mono ?_); (case side1=>exact qc HR0.out); (case side2=>exact HC0.out); rintro e w' ⟨rfl,⟨nd,rfl⟩⟩; refine⟨_,rfl,?_⟩; have p109:0≤((ji4):Int):=of_decide_eq_true qs; have q109:(ji4) < (l0.length:Int):=of_decide_eq_true qs; obtain⟨ad109,e109,hx109_0⟩:=Kd.at_int HR0.out (ji4) p109 q109; cases e109; replace p109:=eq_true p109; replace q109:=eq_true q109) | ((with_reducible refine zbz (f:=171) rfl ?_); refine zbK (some 16) rfl rfl Tryz.func171 (by kernel_rfl) rfl #[.int .u32 (rd l0 (ji4))] rfl (by (try simp only [List.map_toArray,List.map_cons,List.map_nil]); first | done | (simp only [hji4]; rfl) | rfl | (simp only [List.length_drop,List.length_take]; rfl)) ?_; (with_reducible refine(bits_Len32.calls (rd l0 (ji4)) t110 _ A7.out).mono ?_); rintro e w8 ⟨rfl,hb⟩; refine⟨_,rfl,?_⟩; have n0_:=Aside0.mk (zbm (qb HB.out) hb); clear HB; have HB:=n0_; clear n0_; (try clear hb); (try clear hb2); (try clear hk); (try clear hi)))
    go_ret
    exact⟨by first | rfl | (simp [zbx,zbw]<;>rfl) | (simp only [← hji4]; first | rfl | (simp [zbx,zbw]<;>rfl)) | (simp [*,zbx,zbw]<;>rfl),by repeat (first | (with_reducible first | exact HB.out | apply zbn | apply zbo | apply zbs) | exact HB.out)⟩
   ·
    rw [if_neg c6] at H
    exact absurd H (by simp)
  ·
   rw [if_neg c5] at H
   exact absurd H (by simp)
def quo_Gcd.l0:Nat→List Int→List Int→Option (List Int)
 | 0,_,_=>none
 | k+1,x0,x1=>if (x1.length:Int) > 0 then ((quo_DivMod.f x0 x1).bind fun bt117=>(quo_Gcd.l0 k x1 bt117.2.1)) else (some x0)
def quo_Gcd.f (k:Nat) (l0:List Int) (l1:List Int):Option (List Int):=(nat_Trim.f l0).bind fun t111=>((nat_Trim.f l1).bind fun t114=>(quo_Gcd.l0 k t111 t114))
theorem quo_Gcd.calls (k:Nat) (A0:Option Addr) (c0:Nat) (l0:List Int) (A1:Option Addr) (c1:Nat) (l1:List Int) (r:List Int) (w:World) (hr0:Kd.C (Kd.int .u32) w A0 l0.length l0) (hc0:l0.length≤c0) (hr1:Kd.C (Kd.int .u32) w A1 l1.length l1) (hc1:l1.length≤c1) (h:quo_Gcd.f k l0 l1=some r) :
  Calls Tryz.prog 158 #[.slice A0 l0.length c0,.slice A1 l1.length c1] w fun e w'=>∃ v0_:Value,e=.returned (v0_)∧Kd.R (Kd.int .u32) 81 w' w.heap.size (fun _=>True) v0_ r∧Below w.heap.size w w':=by
 have HR0:=Aside0.mk hr0
 have HC0:=Aside0.mk hc0
 clear hr0 hc0
 have HR1:=Aside0.mk hr1
 have HC1:=Aside0.mk hc1
 clear hr1 hc1
 have HB:=Aside0.mk (Below.refl w.heap.size w)
 have H:((nat_Trim.f l0).bind fun t111=>((nat_Trim.f l1).bind fun t114=>(quo_Gcd.l0 k t111 t114)))=some r:=h
 clear h
 replace H:=Option.bind_eq_some_iff.mp H
 obtain⟨t111,A30,H⟩:=H
 replace H:((nat_Trim.f l1).bind fun t114=>(quo_Gcd.l0 k t111 t114))=some r:=H
 have A3:=Aside0.mk A30
 clear A30
 replace H:=Option.bind_eq_some_iff.mp H
 obtain⟨t114,A40,H⟩:=H
 replace H:(quo_Gcd.l0 k t111 t114)=some r:=H
 have A4:=Aside0.mk A40
 clear A40
 have H':=Aside0.mk H
 clear H
 go_enter Tryz.func158,Tryz.ntmps158
 go_wp2_with (first | ((with_reducible refine zbz (f:=166) rfl ?_); refine zbK (some 9) rfl rfl Tryz.func166 (by kernel_rfl) rfl #[.slice A0 l0.length c0] rfl (by (try simp only [List.map_toArray,List.map_cons,List.map_nil]); first | done | rfl | (simp only [List.length_drop,List.length_take]; rfl)) ?_; (with_reducible refine(nat_Trim.calls _ _ l0 t111 _ ?side1 ?side2 A3.out).mono ?_); (case side1=>exact qc HR0.out); (case side2=>exact HC0.out); rintro e w5 ⟨v112,rfl,ho0,hb⟩; refine⟨_,rfl,?_⟩; have n0_:=Aside0.mk (Kd.R_lower ho0 (zbp (qb HB.out))); have n1_:=Aside0.mk (zbm (qb HB.out) hb); clear HB; have HO113:=n0_; have HB:=n1_; clear n0_ n1_; (try clear hb); (try clear hb2); (try clear hk); (try clear hi); (try clear ho0)) | ((with_reducible refine zbz (f:=166) rfl ?_); refine zbK (some 11) rfl rfl Tryz.func166 (by kernel_rfl) rfl #[.slice A1 l1.length c1] rfl (by (try simp only [List.map_toArray,List.map_cons,List.map_nil]); first | done | rfl | (simp only [List.length_drop,List.length_take]; rfl)) ?_; (with_reducible refine(nat_Trim.calls _ _ l1 t114 _ ?side1 ?side2 A4.out).mono ?_); (case side1=>exact qc (Kd.C_below HR1.out HB.out)); (case side2=>exact HC1.out); rintro e w6 ⟨v115,rfl,ho0,hb⟩; refine⟨_,rfl,?_⟩; have n0_:=Aside0.mk (Kd.R_elder' (qr HO113.out) (Kd.R_base ho0) hb); have n1_:=Aside0.mk (Kd.R_lower (Kd.R_new' ho0 (Kd.R_lt (qr HO113.out))) (zbp (qb HB.out))); have n2_:=Aside0.mk (zbm (qb HB.out) hb); clear HO113; clear HB; have HO113:=n0_; have HO116:=n1_; have HB:=n2_; clear n0_ n1_ n2_; (try clear hb); (try clear hb2); (try clear hk); (try clear hi); (try clear ho0)))
 go_loopg [0,1] k (fun kq v0 v1 w'=>∃ (x0_1:List Int) (x1_1:List Int),Aside0 (quo_Gcd.l0 kq x0_1 x1_1=some r)∧Aside0 (kq≤k)∧Aside0 (Kd.R (Kd.int .u32) 81 w' w.heap.size (fun k_=>some k_≠(v1:Value).ownBlock) v0 x0_1)∧Aside0 (Kd.R (Kd.int .u32) 81 w' w.heap.size (fun k_=>some k_≠(v0:Value).ownBlock) v1 x1_1)∧Aside0 (Below w.heap.size w w'))
 case atStart=>exact⟨(t111),(t114),H',⟨Nat.le_refl _⟩,⟨by (with_reducible repeat (first | apply Kd.R_alloc | apply Kd.R_drewN | apply Kd.R_drew)); exact Kd.R_mono HO113.out (fun _ hk=>hk.2)⟩,⟨by (with_reducible repeat (first | apply Kd.R_alloc | apply Kd.R_drewN | apply Kd.R_drew)); exact Kd.R_mono HO116.out (fun _ hk=>hk.2)⟩,⟨by repeat (first | (with_reducible first | exact HB.out | apply zbn | apply zbo | apply zbs) | exact HB.out)⟩⟩
 case round =>
  clear H'
  try clear c1
  try clear p2
  obtain⟨x0_1,x1_1,HA,HK1,HO_0,HO_1,HB⟩:=hrel
  cases gk with
  | zero=>exact absurd HA.out (by simp [quo_Gcd.l0])
  | succ k1 =>
   have H:=HA.out
   clear HA
   simp only [quo_Gcd.l0] at H
   by_cases c7:(x1_1.length:Int) > 0
   ·
    rw [if_pos c7] at H
    have c7b0:decide (0 < (x1_1.length:Int))=true:=decide_eq_true c7
    have c7b1:decide (0 < x1_1.length)=true:=decide_eq_true (by omega)
    clear c7
    replace H:=Option.bind_eq_some_iff.mp H
    obtain⟨⟨t117,t118,t119⟩,A80,H⟩:=H
    replace H:(quo_Gcd.l0 k1 x1_1 t118)=some r:=H
    have A8:=Aside0.mk A80
    clear A80
    have H':=Aside0.mk H
    clear H
    obtain⟨Ao9,co9,eo9⟩:=Kd.R_slice HO_1.out
    subst eo9
    obtain⟨Ao10,co10,eo10⟩:=Kd.R_slice HO_0.out
    subst eo10
    go_wp2_with (first | ((with_reducible refine zbz (f:=172) rfl ?_); refine zbK (some 18) rfl rfl Tryz.func172 (by kernel_rfl) rfl #[.slice Ao10 x0_1.length co10,.slice Ao9 x1_1.length co9] rfl (by (try simp only [List.map_toArray,List.map_cons,List.map_nil]); first | done | rfl | (simp only [List.length_drop,List.length_take]; rfl)) ?_; (with_reducible refine(quo_DivMod.calls _ _ x0_1 _ _ x1_1 t117 t118 t119 _ ?side1 ?side2 ?side3 ?side4 A8.out).mono ?_); (case side1=>exact qc (Kd.R_reads' HO_0.out).2.2); (case side2=>exact(Kd.R_reads' HO_0.out).2.1); (case side3=>exact qc (Kd.R_reads' HO_1.out).2.2); (case side4=>exact(Kd.R_reads' HO_1.out).2.1); rintro e w11 ⟨v120,v122,rfl,ho0,ho1,hb⟩; refine⟨_,rfl,?_⟩; have n0_:=Aside0.mk (Kd.R_mono (Kd.R_told (Kd.R_told (Kd.R_old (qr HO_0.out) hb) (Kd.R_base ho0)) (Kd.R_base ho1)) (fun _ h_=>h_.1)); have n1_:=Aside0.mk (Kd.R_mono (Kd.R_told (Kd.R_told (Kd.R_old (qr HO_1.out) hb) (Kd.R_base ho0)) (Kd.R_base ho1)) (fun _ h_=>h_.1)); have n2_:=Aside0.mk (Kd.R_lower (Kd.R_new' (Kd.R_new' ho0 (Kd.R_lt (qr HO_0.out))) (Kd.R_lt (qr HO_1.out))) (zbp (qb HB.out))); have n3_:=Aside0.mk (Kd.R_lower (Kd.R_new' (Kd.R_new' ho1 (Kd.R_lt (qr HO_0.out))) (Kd.R_lt (qr HO_1.out))) (zbp (qb HB.out))); have n4_:=Aside0.mk (zbm (qb HB.out) hb); clear HO_0; clear HO_1; clear HB; have HO_0:=n0_; have HO_1:=n1_; have HO121:=n2_; have HO123:=n3_; have HB:=n4_; clear n0_ n1_ n2_ n3_ n4_; (try clear hb); (try clear hb2); (try clear hk); (try clear hi); (try clear ho0); (try clear ho1)))
    go_roundg k1
    case measure=>have:=HK1.out; omega
    case rel=>exact⟨(x1_1),(t118),H',⟨by have:=HK1.out; omega⟩,⟨by (with_reducible repeat (first | apply Kd.R_alloc | apply Kd.R_drewN | apply Kd.R_drew)); exact Kd.R_mono HO_1.out (fun _ hk=>hk.2)⟩,⟨by (with_reducible repeat (first | apply Kd.R_alloc | apply Kd.R_drewN | apply Kd.R_drew)); exact Kd.R_mono HO123.out (fun _ hk=>hk.2)⟩,⟨by repeat (first | (with_reducible first | exact HB.out | apply zbn | apply zbo | apply zbs) | exact HB.out)⟩⟩
   ·
    rw [if_neg c7] at H
    have c7b0:decide (0 < (x1_1.length:Int))=false:=decide_eq_false c7
    have c7b1:decide (0 < x1_1.length)=false:=decide_eq_false (by omega)
    clear c7
    obtain rfl:=Option.some.inj H
    obtain⟨Ao12,co12,eo12⟩:=Kd.R_slice HO_1.out
    subst eo12
    go_wp2
    go_ret
    exact⟨_,by first | rfl | (simp [zbx,zbw]<;>rfl) | (simp [*,zbx,zbw]<;>rfl),by (with_reducible repeat (first | apply Kd.R_alloc | apply Kd.R_drewN | apply Kd.R_drew)); exact Kd.R_mono HO_0.out (fun _ hk=>trivial),by repeat (first | (with_reducible first | exact HB.out | apply zbn | apply zbo | apply zbs) | exact HB.out)⟩
def rat_one.f  : Option (List Int):=(nat_Of.f 1).bind fun t139=>(some t139)
theorem rat_one.calls  (r:List Int) (w:World) (h:rat_one.f  = some r) :
  Calls Tryz.prog 130 #[] w fun e w'=>∃ v0_:Value,e=.returned (v0_)∧Kd.R (Kd.int .u32) 81 w' w.heap.size (fun _=>True) v0_ r∧Below w.heap.size w w':=by
 have HB:=Aside0.mk (Below.refl w.heap.size w)
 have H:((nat_Of.f 1).bind fun t139=>(some t139))=some r:=h
 clear h
 replace H:=Option.bind_eq_some_iff.mp H
 obtain⟨t139,A10,H⟩:=H
 replace H:(some t139)=some r:=H
 have A1:=Aside0.mk A10
 clear A10
 obtain rfl:=Option.some.inj H
 go_enter Tryz.func130,Tryz.ntmps130
 go_wp2_with (first | ((with_reducible refine zbz (f:=156) rfl ?_); refine zbK (some 1) rfl rfl Tryz.func156 (by kernel_rfl) rfl #[.int .u64 1] rfl (by (try simp only [List.map_toArray,List.map_cons,List.map_nil]); first | done | rfl | (simp only [List.length_drop,List.length_take]; rfl)) ?_; (with_reducible refine(nat_Of.calls 1 t139 _ A1.out).mono ?_); rintro e w2 ⟨v140,rfl,ho0,hb⟩; refine⟨_,rfl,?_⟩; have n0_:=Aside0.mk (Kd.R_lower ho0 (zbp (qb HB.out))); have n1_:=Aside0.mk (zbm (qb HB.out) hb); clear HB; have HO141:=n0_; have HB:=n1_; clear n0_ n1_; (try clear hb); (try clear hb2); (try clear hk); (try clear hi); (try clear ho0)))
 go_ret
 exact⟨_,by first | rfl | (simp [zbx,zbw]<;>rfl) | (simp [*,zbx,zbw]<;>rfl),by (with_reducible repeat (first | apply Kd.R_alloc | apply Kd.R_drewN | apply Kd.R_drew)); exact HO141.out,by repeat (first | (with_reducible first | exact HB.out | apply zbn | apply zbo | apply zbs) | exact HB.out)⟩
def rat_by.f (l0:List Int) (l1:List Int):Option (List Int):=(quo_DivMod.f l0 l1).bind fun bt142=>(some bt142.1)
theorem rat_by.calls (A0:Option Addr) (c0:Nat) (l0:List Int) (A1:Option Addr) (c1:Nat) (l1:List Int) (r:List Int) (w:World) (hr0:Kd.C (Kd.int .u32) w A0 l0.length l0) (hc0:l0.length≤c0) (hr1:Kd.C (Kd.int .u32) w A1 l1.length l1) (hc1:l1.length≤c1) (h:rat_by.f l0 l1=some r) :
  Calls Tryz.prog 160 #[.slice A0 l0.length c0,.slice A1 l1.length c1] w fun e w'=>∃ v0_:Value,e=.returned (v0_)∧Kd.R (Kd.int .u32) 81 w' w.heap.size (fun _=>True) v0_ r∧Below w.heap.size w w':=by
 have HR0:=Aside0.mk hr0
 have HC0:=Aside0.mk hc0
 clear hr0 hc0
 have HR1:=Aside0.mk hr1
 have HC1:=Aside0.mk hc1
 clear hr1 hc1
 have HB:=Aside0.mk (Below.refl w.heap.size w)
 have H:((quo_DivMod.f l0 l1).bind fun bt142=>(some bt142.1))=some r:=h
 clear h
 replace H:=Option.bind_eq_some_iff.mp H
 obtain⟨⟨t142,t143,t144⟩,A30,H⟩:=H
 replace H:(some t142)=some r:=H
 have A3:=Aside0.mk A30
 clear A30
 obtain rfl:=Option.some.inj H
 go_enter Tryz.func160,Tryz.ntmps160
 go_wp2_with (first | ((with_reducible refine zbz (f:=172) rfl ?_); refine zbK (some 11) rfl rfl Tryz.func172 (by kernel_rfl) rfl #[.slice A0 l0.length c0,.slice A1 l1.length c1] rfl (by (try simp only [List.map_toArray,List.map_cons,List.map_nil]); first | done | rfl | (simp only [List.length_drop,List.length_take]; rfl)) ?_; (with_reducible refine(quo_DivMod.calls _ _ l0 _ _ l1 t142 t143 t144 _ ?side1 ?side2 ?side3 ?side4 A3.out).mono ?_); (case side1=>exact qc HR0.out); (case side2=>exact HC0.out); (case side3=>exact qc HR1.out); (case side4=>exact HC1.out); rintro e w4 ⟨v145,v147,rfl,ho0,ho1,hb⟩; refine⟨_,rfl,?_⟩; have n0_:=Aside0.mk (Kd.R_lower ho0 (zbp (qb HB.out))); have n1_:=Aside0.mk (Kd.R_lower ho1 (zbp (qb HB.out))); have n2_:=Aside0.mk (zbm (qb HB.out) hb); clear HB; have HO146:=n0_; have HO148:=n1_; have HB:=n2_; clear n0_ n1_ n2_; (try clear hb); (try clear hb2); (try clear hk); (try clear hi); (try clear ho0); (try clear ho1)))
 go_ret
 exact⟨_,by first | rfl | (simp [zbx,zbw]<;>rfl) | (simp [*,zbx,zbw]<;>rfl),by (with_reducible repeat (first | apply Kd.R_alloc | apply Kd.R_drewN | apply Kd.R_drew)); exact Kd.R_mono HO146.out (fun _ hk=>trivial),by repeat (first | (with_reducible first | exact HB.out | apply zbn | apply zbo | apply zbs) | exact HB.out)⟩
def rat_limbs.f (l0:List Int) (l1:List Int):Option (Bool):=if (l0.length:Int)=(l1.length:Int) then ((nat_Cmp.f l0 l1).bind fun t149=>(some (t149 == 0))) else (some false)
theorem rat_limbs.calls (A0:Option Addr) (c0:Nat) (l0:List Int) (A1:Option Addr) (c1:Nat) (l1:List Int) (r:Bool) (w:World) (hr0:Kd.C (Kd.int .u32) w A0 l0.length l0) (hc0:l0.length≤c0) (hr1:Kd.C (Kd.int .u32) w A1 l1.length l1) (hc1:l1.length≤c1) (h:rat_limbs.f l0 l1=some r) :
  Calls Tryz.prog 135 #[.slice A0 l0.length c0,.slice A1 l1.length c1] w fun e w'=>e=.returned (.bool r)∧Below w.heap.size w w':=by
 have HR0:=Aside0.mk hr0
 have HC0:=Aside0.mk hc0
 clear hr0 hc0
 have HR1:=Aside0.mk hr1
 have HC1:=Aside0.mk hc1
 clear hr1 hc1
 have HB:=Aside0.mk (Below.refl w.heap.size w)
 have H:(if (l0.length:Int)=(l1.length:Int) then ((nat_Cmp.f l0 l1).bind fun t149=>(some (t149 == 0))) else (some false))=some r:=h
 clear h
 by_cases c3:(l0.length:Int)=(l1.length:Int)
 ·
  rw [if_pos c3] at H
  have c3b0:((l0.length:Int) == (l1.length:Int))=true:=beq_iff_eq.mpr c3
  have c3b1:((l0.length:Int) != (l1.length:Int))=false:=bne_eq_false_iff_eq.mpr c3
  have c3b2:(l0.length == l1.length)=true:=by first | simpa using c3 | (simp at c3 ⊢; omega)
  clear c3
  replace H:=Option.bind_eq_some_iff.mp H
  obtain⟨t149,A40,H⟩:=H
  replace H:(some (t149 == 0))=some r:=H
  have A4:=Aside0.mk A40
  clear A40
  obtain rfl:=Option.some.inj H
  go_enter Tryz.func135,Tryz.ntmps135
  go_wp2_with (first | (go_at_call 161; (with_reducible refine(nat_Cmp.calls _ _ l0 _ _ l1 t149 _ ?side1 ?side2 ?side3 ?side4 A4.out).mono ?_); (case side1=>exact qc HR0.out); (case side2=>exact HC0.out); (case side3=>exact qc HR1.out); (case side4=>exact HC1.out); rintro e w5 ⟨rfl,hb⟩; have n0_:=Aside0.mk (zbm (qb HB.out) hb); clear HB; have HB:=n0_; clear n0_; (try clear hb); (try clear hb2); (try clear hk); (try clear hi)))
  go_ret
  exact⟨by first | rfl | (simp [zbx,zbw]<;>rfl) | (simp [*,zbx,zbw]<;>rfl),by repeat (first | (with_reducible first | exact HB.out | apply zbn | apply zbo | apply zbs) | exact HB.out)⟩
 ·
  rw [if_neg c3] at H
  have c3b0:((l0.length:Int) == (l1.length:Int))=false:=beq_eq_false_iff_ne.mpr c3
  have c3b1:((l0.length:Int) != (l1.length:Int))=true:=bne_iff_ne.mpr c3
  have c3b2:(l0.length == l1.length)=false:=by first | simpa using c3 | (simp at c3 ⊢; omega)
  obtain rfl:=Option.some.inj H
  go_enter Tryz.func135,Tryz.ntmps135
  go_wp2
  go_ret
  exact⟨by first | rfl | (simp [zbx,zbw]<;>rfl) | (simp [*,zbx,zbw]<;>rfl),by repeat (first | (with_reducible first | exact HB.out | apply zbn | apply zbo | apply zbs) | exact HB.out)⟩
def rat_size.f (a0:Int):Option (List Int):=if a0 < 0 then ((nat_Of.f (IntKind.u64.wrap ((IntKind.u64.wrap (wrap64 (-(wrap64 (a0+1)))))+1))).bind fun t150=>(some t150)) else ((nat_Of.f (IntKind.u64.wrap (a0))).bind fun t153=>(some t153))
theorem rat_size.calls (a0:Int) (r:List Int) (w:World) (h:rat_size.f a0=some r) :
  Calls Tryz.prog 129 #[.int .i64 a0] w fun e w'=>∃ v0_:Value,e=.returned (v0_)∧Kd.R (Kd.int .u32) 81 w' w.heap.size (fun _=>True) v0_ r∧Below w.heap.size w w':=by
 have HB:=Aside0.mk (Below.refl w.heap.size w)
 have H:(if a0 < 0 then ((nat_Of.f (IntKind.u64.wrap ((IntKind.u64.wrap (wrap64 (-(wrap64 (a0+1)))))+1))).bind fun t150=>(some t150)) else ((nat_Of.f (IntKind.u64.wrap (a0))).bind fun t153=>(some t153)))=some r:=h
 clear h
 by_cases c2:a0 < 0
 ·
  rw [if_pos c2] at H
  have c2b0:decide (a0 < 0)=true:=decide_eq_true c2
  clear c2
  replace H:=Option.bind_eq_some_iff.mp H
  obtain⟨t150,A30,H⟩:=H
  replace H:(some t150)=some r:=H
  have A3:=Aside0.mk A30
  clear A30
  obtain rfl:=Option.some.inj H
  go_enter Tryz.func129,Tryz.ntmps129
  go_wp2_with (first | ((with_reducible refine zbz (f:=156) rfl ?_); refine zbK (some 10) rfl rfl Tryz.func156 (by kernel_rfl) rfl #[.int .u64 (IntKind.u64.wrap ((IntKind.u64.wrap (wrap64 (-(wrap64 (a0+1)))))+1))] rfl (by (try simp only [List.map_toArray,List.map_cons,List.map_nil]); first | done | rfl | (simp only [List.length_drop,List.length_take]; rfl)) ?_; (with_reducible refine(nat_Of.calls (IntKind.u64.wrap ((IntKind.u64.wrap (wrap64 (-(wrap64 (a0+1)))))+1)) t150 _ A3.out).mono ?_); rintro e w4 ⟨v151,rfl,ho0,hb⟩; refine⟨_,rfl,?_⟩; have n0_:=Aside0.mk (Kd.R_lower ho0 (zbp (qb HB.out))); have n1_:=Aside0.mk (zbm (qb HB.out) hb); clear HB; have HO152:=n0_; have HB:=n1_; clear n0_ n1_; (try clear hb); (try clear hb2); (try clear hk); (try clear hi); (try clear ho0)))
  go_ret
  exact⟨_,by first | rfl | (simp [zbx,zbw]<;>rfl) | (simp [*,zbx,zbw]<;>rfl),by (with_reducible repeat (first | apply Kd.R_alloc | apply Kd.R_drewN | apply Kd.R_drew)); exact HO152.out,by repeat (first | (with_reducible first | exact HB.out | apply zbn | apply zbo | apply zbs) | exact HB.out)⟩
 ·
  rw [if_neg c2] at H
  have c2b0:decide (a0 < 0)=false:=decide_eq_false c2
  clear c2
  replace H:=Option.bind_eq_some_iff.mp H
  obtain⟨t153,A50,H⟩:=H
  replace H:(some t153)=some r:=H
  have A5:=Aside0.mk A50
  clear A50
  obtain rfl:=Option.some.inj H
  go_enter Tryz.func129,Tryz.ntmps129
  go_wp2_with (first | ((with_reducible refine zbz (f:=156) rfl ?_); refine zbK (some 13) rfl rfl Tryz.func156 (by kernel_rfl) rfl #[.int .u64 (IntKind.u64.wrap (a0))] rfl (by (try simp only [List.map_toArray,List.map_cons,List.map_nil]); first | done | rfl | (simp only [List.length_drop,List.length_take]; rfl)) ?_; (with_reducible refine(nat_Of.calls (IntKind.u64.wrap (a0)) t153 _ A5.out).mono ?_); rintro e w6 ⟨v154,rfl,ho0,hb⟩; refine⟨_,rfl,?_⟩; have n0_:=Aside0.mk (Kd.R_lower ho0 (zbp (qb HB.out))); have n1_:=Aside0.mk (zbm (qb HB.out) hb); clear HB; have HO155:=n0_; have HB:=n1_; clear n0_ n1_; (try clear hb); (try clear hb2); (try clear hk); (try clear hi); (try clear ho0)))
  go_ret
  exact⟨_,by first | rfl | (simp [zbx,zbw]<;>rfl) | (simp [*,zbx,zbw]<;>rfl),by (with_reducible repeat (first | apply Kd.R_alloc | apply Kd.R_drewN | apply Kd.R_drew)); exact HO155.out,by repeat (first | (with_reducible first | exact HB.out | apply zbn | apply zbo | apply zbs) | exact HB.out)⟩
def rat_Int.f (a0:Int):Option (Bool×List Int×List Int):=(rat_size.f a0).bind fun t157=>((rat_one.f).bind fun t160=>(some (decide (a0 < 0),t157,t160)))
theorem rat_Int.calls (a0:Int) (r1:Bool) (r2:List Int) (r3:List Int) (w:World) (h:rat_Int.f a0=some (r1,r2,r3)) :
  Calls Tryz.prog 80 #[.int .i64 a0] w fun e w'=>∃ v1_ v2_:Value,e=.returned (.agg #[.bool r1,v1_,v2_])∧Kd.R (Kd.int .u32) 81 w' w.heap.size (fun k_=>some k_≠(v2_:Value).ownBlock) v1_ r2∧Kd.R (Kd.int .u32) 81 w' w.heap.size (fun k_=>some k_≠(v1_:Value).ownBlock) v2_ r3∧Below w.heap.size w w':=by
 have hu27:=Tryz.underlying27
 have HB:=Aside0.mk (Below.refl w.heap.size w)
 have H:((rat_size.f a0).bind fun t157=>((rat_one.f).bind fun t160=>(some (decide (a0 < 0),t157,t160))))=some (r1,r2,r3):=h
 clear h
 replace H:=Option.bind_eq_some_iff.mp H
 obtain⟨t157,A20,H⟩:=H
 replace H:((rat_one.f).bind fun t160=>(some (decide (a0 < 0),t157,t160)))=some (r1,r2,r3):=H
 have A2:=Aside0.mk A20
 clear A20
 replace H:=Option.bind_eq_some_iff.mp H
 obtain⟨t160,A30,H⟩:=H
 replace H:(some (decide (a0 < 0),t157,t160))=some (r1,r2,r3):=H
 have A3:=Aside0.mk A30
 clear A30
 simp only [Option.some.injEq,Prod.mk.injEq] at H
 obtain⟨rfl,rfl,rfl⟩:=H
 go_enter Tryz.func80,Tryz.ntmps80
 go_wp2_with (first | ((with_reducible refine zbD (N:=2) rfl ?_); refine zbC ?hg (N:=2) ?hd (cs:=#[.bool false,.slice none 0 0,.slice none 0 0]) (t:=27) ?hr ?_; (case hd=>rfl); (case hg=>rfl); (case hr=>first | (go_simp; done) | (go_simp; rfl)); intro gb156 hg w4 hbox hb; have n0_:=Aside0.mk (zbm (qb HB.out) hb); have n1_:=Aside0.mk (hbox); have n2_:=Aside0.mk ((by rw [hg]; exact(zbp (qb HB.out)):w.heap.size≤gb156)); have n3_:=Aside0.mk ((by rw [hg]; exact(zbp (qb HB.out)):w.heap.size≤gb156)); clear HB; have HB:=n0_; have BK156:=n1_; have GW156:=n2_; have GE156:=n3_; clear n0_ n1_ n2_ n3_; clear hb hbox hg) | ((with_reducible refine zbz (f:=129) rfl ?_); refine zbK (some 6) rfl rfl Tryz.func129 (by kernel_rfl) rfl #[.int .i64 a0] rfl (by (try simp only [List.map_toArray,List.map_cons,List.map_nil]); first | done | rfl | (simp only [List.length_drop,List.length_take]; rfl)) ?_; (with_reducible refine(rat_size.calls a0 t157 _ A2.out).mono ?_); rintro e w5 ⟨v158,rfl,ho0,hb⟩; refine⟨_,rfl,?_⟩; have n0_:=Aside0.mk (Kd.R_lower ho0 (zbp (qb1 HB.out GE156.out))); have n1_:=Aside0.mk (zbr (g:=gb156) (o:=.cells #[.bool false,.slice none 0 0,.slice none 0 0] 27 (0,0)) (qk BK156.out) hb); have n2_:=Aside0.mk (zbm (qb1 HB.out GE156.out) hb); clear BK156; clear HB; have HO159:=n0_; have BK156:=n1_; have HB:=n2_; clear n0_ n1_ n2_; (try clear hb); (try clear hb2); (try clear hk); (try clear hi); (try clear ho0)) | ((with_reducible refine zbz (f:=130) rfl ?_); refine zbK (some 7) rfl rfl Tryz.func130 (by kernel_rfl) rfl #[] rfl (by (try simp only [List.map_toArray,List.map_cons,List.map_nil]); first | done | rfl | (simp only [List.length_drop,List.length_take]; rfl)) ?_; (with_reducible refine(rat_one.calls  t160 _ A3.out).mono ?_); rintro e w6 ⟨v161,rfl,ho0,hb⟩; refine⟨_,rfl,?_⟩; have n0_:=Aside0.mk (Kd.R_elder' (qr HO159.out) (Kd.R_base ho0) hb); have n1_:=Aside0.mk (Kd.R_lower (Kd.R_new' ho0 (Kd.R_lt (qr HO159.out))) (zbp (qb1 HB.out GE156.out))); have n2_:=Aside0.mk (zbr (g:=gb156) (o:=.cells #[.bool false,.slice none 0 0,.slice none 0 0] 27 (0,0)) (qk BK156.out) hb); have n3_:=Aside0.mk (zbm (qb1 HB.out GE156.out) hb); clear HO159; clear BK156; clear HB; have HO159:=n0_; have HO162:=n1_; have BK156:=n2_; have HB:=n3_; clear n0_ n1_ n2_ n3_; (try clear hb); (try clear hb2); (try clear hk); (try clear hi); (try clear ho0); obtain⟨Ao7,co7,eo7⟩:=Kd.R_slice HO162.out; subst eo7; obtain⟨Ao8,co8,eo8⟩:=Kd.R_slice HO159.out; subst eo8; obtain⟨hcz9_0,hcz9_1,hcz9_2,hfz9_0,hfz9_1,hfz9_2⟩:=qz BK156.out))
 refine bodyPost_ret (results_cell_row rfl _ _ gb156 27 #[.bool (decide (a0 < 0)),.slice Ao8 t157.length co8,.slice Ao7 t160.length co7] (0,0) _ rfl (by (with_reducible repeat (first | refine zbv ?_ _ | refine zbu ?_ | refine zbt ?_ _)); refine zbF (cs:=#[.bool (decide (a0 < 0)),.slice Ao8 t157.length co8,.slice none 0 0]) ?_ 2 _ rfl; (with_reducible repeat (first | refine zbv ?_ _ | refine zbu ?_ | refine zbt ?_ _)); refine zbF (cs:=#[.bool (decide (a0 < 0)),.slice none 0 0,.slice none 0 0]) ?_ 1 _ rfl; (with_reducible repeat (first | refine zbv ?_ _ | refine zbu ?_ | refine zbt ?_ _)); refine zbF (cs:=#[.bool false,.slice none 0 0,.slice none 0 0]) ?_ 0 _ rfl; (with_reducible repeat (first | refine zbv ?_ _ | refine zbu ?_ | refine zbt ?_ _)); exact BK156.out) Tryz.underlying27 rfl (by kernel_rfl)) rfl ?_
 exact⟨_,_,by first | rfl | (simp [zbx,zbw]<;>rfl) | (simp [*,zbx,zbw]<;>rfl),by (with_reducible repeat (first | apply Kd.R_alloc | apply Kd.R_drewN | apply Kd.R_drew)); exact Kd.R_mono (Kd.R_far (p:=⟨gb156,2,none⟩) (Kd.R_far (p:=⟨gb156,1,none⟩) (Kd.R_far (p:=⟨gb156,0,none⟩) (Kd.R_types HO159.out BK156.out (by decide)) (fun _ hk=>hk.2) (.bool (decide (a0 < 0)))) (fun _ hk=>hk.2) (.slice Ao8 t157.length co8)) (fun _ hk=>hk.2) (.slice Ao7 t160.length co7)) (fun _ hk=>hk.1.2),by (with_reducible repeat (first | apply Kd.R_alloc | apply Kd.R_drewN | apply Kd.R_drew)); exact Kd.R_mono (Kd.R_far (p:=⟨gb156,2,none⟩) (Kd.R_far (p:=⟨gb156,1,none⟩) (Kd.R_far (p:=⟨gb156,0,none⟩) (Kd.R_types HO162.out BK156.out (by decide)) (fun _ hk=>hk.2) (.bool (decide (a0 < 0)))) (fun _ hk=>hk.2) (.slice Ao8 t157.length co8)) (fun _ hk=>hk.2) (.slice Ao7 t160.length co7)) (fun _ hk=>hk.1.2),by repeat (first | (with_reducible first | exact HB.out | apply zbn | apply zbo | apply zbs | refine zbB ?_ GE156.out) | exact HB.out)⟩
end Go.Proofs.YtehghijlchpeaaaGreat.H
end
end
section
noncomputable section
namespace Go.Proofs.YtehghijlchpeaaaGreat.H
open Go.RowKit YtehghijlchpeaaaGreat.L YtehghijlchpeaaaGreat.Nat1 YtehghijlchpeaaaGreatW.PrintWords YtehghijlchpeaaaGreatW.PrintLast YtehghijlchpeaaaGreatW.PrintMore
attribute [local go_sem] zbX zbZ zb2 zb1 zbQ zbR zbW zbY   -- for this text's walks alone
end Go.Proofs.YtehghijlchpeaaaGreat.H
end
end
section
namespace Go.Proofs.YtehghijlchpeaaaGreat.Nat1
open Go.RowKit YtehghijlchpeaaaGreatW.PrintWords YtehghijlchpeaaaGreatW.PrintLast YtehghijlchpeaaaGreatW.PrintMore L Nt
def nb (n:Nat):Nat:=if n=0 then 0 else n.log2+1
theorem nb_of {n r:Nat} (h0:n≠0) (h1:2 ^ r≤n) (h2:n < 2 ^ (r+1)):nb n=r+1:=by
 unfold nb
 rw [if_neg h0,(Nat.log2_eq_iff h0).2 ⟨h1,h2⟩]
theorem pow32 (k:Nat):B32 ^ k=2 ^ (32*k):=by rw [Nat.pow_mul]; rfl
theorem can_last {l:List Int} {n:Nat} (hl:l.length=n+1) (hc:can l):lmb l n≠0:=by
 refine hc _ ?_
 rw [List.getLast?_eq_getElem?,hl,Nat.add_sub_cancel]
 unfold lmb
 rw [List.getD_eq_getElem?_getD,List.getElem?_eq_getElem (by omega)]
 rfl
theorem wrap_bits {t y:Nat} (ht:t≤1099511627776) (h1:1≤y) (h2:y≤32):wrap64 (wrap64 (32*(t:Int))+(y:Int))=((32*t+(y-1)+1:Nat):Int):=by
 unfold wrap64
 omega
theorem bits_spec {l:List Int} (h:okL l):∃ k,H.nat_Bits.f k l=some (nb (val B32 l):Int):=by
 have hll:=h.2
 obtain⟨k,t,e1,e2,e3,e4⟩:=top_spec l (by omega)
 refine⟨k,?_⟩
 have ed:=top_dg zby h.1 e3 e4
 have ht:(dg B32 (val B32 l)).length=t:=by rw [← ed,List.length_take]; omega
 unfold H.nat_Bits.f
 rw [e1,Option.bind_some]
 cases t with
 | zero =>
  rw [if_pos (by rfl)]
  have:val B32 l=0:=(zcl zby _).1 (List.eq_nil_of_length_eq_zero ht)
  rw [this]
  rfl
 | succ t =>
  have ew:wrap64 (((t+1:Nat):Int)-1)=(t:Int):=by unfold wrap64; omega
  have hx:lmb l t=lmb (dg B32 (val B32 l)) t:=by
   rw [← ed]
   unfold lmb
   rw [List.getD_eq_getElem?_getD,List.getD_eq_getElem?_getD,List.getElem?_take,if_pos (by omega)]
  have hr:=zbG h.1 t
  rw [if_neg (by omega),ew,if_pos (by omega),if_pos (by omega),rd_lmb,bits_Len32.f,if_pos hr,Option.bind_some]
  have hv:=val_top ht
  rw [zbV zby,← hx] at hv
  have hlo:=zcs (dg_ok zby (val B32 l)) t
  have hx0:lmb l t≠0:=by rw [hx]; exact can_last ht (dg_can zby _)
  obtain⟨x,hxx⟩:∃ x:Nat,(lmb l t).toNat=x:=⟨_,rfl⟩
  rw [hxx] at hv ⊢
  obtain⟨b1,b2,b3⟩:1≤Lib.bitLen x∧2 ^ (Lib.bitLen x-1)≤x∧x < 2 ^ Lib.bitLen x:=Lib.bitLenAux_bounds _ x (by omega) (by omega)
  have hb32:Lib.bitLen x≤32:=by
   rcases Nat.lt_or_ge 32 (Lib.bitLen x) with h | h
   ·
    exfalso
    have:2 ^ 32≤2 ^ (Lib.bitLen x-1):=Nat.pow_le_pow_right (by omega) (by omega)
    omega
   ·
    exact h
  generalize Lib.bitLen x=y at *
  generalize zb0 B32 (lmb (dg B32 (val B32 l))) t=lo at *
  rw [pow32] at hlo hv
  have hn:nb (val B32 l)=(32*t+(y-1))+1:=by
   refine nb_of ?_ ?_ ?_
   ·
    have:=Nat.pow_pos (n:=32*t) (show 0 < 2 by omega)
    have:1*2 ^ (32*t)≤x*2 ^ (32*t):=Nat.mul_le_mul_right _ (by omega)
    omega
   ·
    rw [Nat.pow_add,Nat.mul_comm]
    have:=Nat.mul_le_mul_right (2 ^ (32*t)) b2
    omega
   ·
    have h3:(x+1)*2 ^ (32*t)≤2 ^ y*2 ^ (32*t):=Nat.mul_le_mul_right _ b3
    rw [Nat.add_mul,Nat.one_mul] at h3
    rw [show 32*t+(y-1)+1=y+32*t by omega,Nat.pow_add]
    omega
  rw [hn,wrap_bits (by omega) b1 hb32]
theorem mul_loop {l0 l1:List Int} (h0:okD l0) (h1:okD l1) (j:Nat):∀ i,i+j=l1.length→∃ k,∀ k',k≤k'→H.nat_Mul.l0 k' l0 (dg B32 (val B32 l0*zb0 B32 (lmb l1) i)) l1 (l1.length:Int) (i:Int)=some (dg B32 (val B32 l0*val B32 l1)):=by
 induction j with
 | zero =>
  intro i hi
  refine⟨1,fun k' hk=>?_⟩
  obtain⟨k',rfl⟩:∃ q,k'=q+1:=⟨k'-1,by omega⟩
  rw [H.nat_Mul.l0,if_neg (by omega),zcg (by omega)]
 | succ j ih =>
  intro i hi
  obtain⟨k,hk⟩:=ih (i+1) (by omega)
  refine⟨k+1,fun k' hk'=>?_⟩
  obtain⟨k',rfl⟩:∃ q,k'=q+1:=⟨k'-1,by omega⟩
  have hb:=h1.2
  have ha:=h0.2
  have hr:=zbG h1.1 i
  have e1:nat_row.f l0 (rd l1 (i:Int)) (i:Int)=some (dg B32 (val B32 l0*(lmb l1 i).toNat*B32 ^ i)):=by
   rw [rd_lmb,nat_row.f,if_pos ⟨h0.okL,hr,by omega,by omega⟩,Int.toNat_natCast]
  have hlen:∀ x n:Nat,x < B32 ^ n→n≤1099511627776→okL (dg B32 x):=fun x n hx hn=>⟨dg_ok zby _,Nat.le_trans (zbS zby hx) hn⟩
  have hv0:=val_lt h0.1
  have hs:=zcs h1.1 i
  have l1':val B32 l0*zb0 B32 (lmb l1) i < B32 ^ (l0.length+i):=by
   rw [Nat.pow_add]
   exact Nat.mul_lt_mul'' hv0 hs
  have l2':val B32 l0*(lmb l1 i).toNat*B32 ^ i < B32 ^ (l0.length+1+i):=by
   rw [Nat.pow_add,Nat.pow_succ]
   refine Nat.mul_lt_mul_of_pos_right (Nat.mul_lt_mul'' hv0 ?_) (pow_pos_ i)
   unfold B32
   omega
  have e2:nat_Add.f (dg B32 (val B32 l0*zb0 B32 (lmb l1) i)) (dg B32 (val B32 l0*(lmb l1 i).toNat*B32 ^ i))=some (dg B32 (val B32 l0*zb0 B32 (lmb l1) (i+1))):=by
   rw [nat_Add.f,if_pos ⟨hlen _ _ l1' (by omega),hlen _ _ l2' (by omega)⟩,zbV zby,zbV zby,zb0,Nat.mul_add,Nat.mul_assoc]
  rw [H.nat_Mul.l0,if_pos (by omega),if_pos (by omega),if_pos (by omega),e1,Option.bind_some,e2,Option.bind_some,show wrap64 ((i:Int)+1)=((i+1:Nat):Int) by unfold wrap64; omega]
  exact hk k' (by omega)
theorem mul_spec {l0 l1:List Int} (h0:okD l0) (h1:okD l1):∃ k,∀ k',k≤k'→H.nat_Mul.f k' l0 l1=some (dg B32 (val B32 l0*val B32 l1)):=by
 obtain⟨k,hk⟩:=mul_loop h0 h1 l1.length 0 (by omega)
 refine⟨k,fun k' h=>?_⟩
 have:=hk k' h
 simp only [zb0,Nat.mul_zero,zbT] at this
 exact this
theorem dg_okD' {n m:Nat} {l:List Int} (h:okD l) (hn:n≤val B32 l):okD (dg B32 n):=⟨dg_ok zby _,Nat.le_trans (zbS zby (Nat.lt_of_le_of_lt hn (val_lt h.1))) h.2⟩
theorem gcd_loop (b:Nat):∀ a,okD (dg B32 a)→okD (dg B32 b)→∃ k,H.quo_Gcd.l0 k (dg B32 a) (dg B32 b)=some (dg B32 (Nat.gcd a b)):=by
 induction b using Nat.strongRecOn with
 | _ b ih =>
  intro a ha hb
  rcases Nat.eq_zero_or_pos b with h0 | h0
  ·
   subst h0
   refine⟨1,?_⟩
   rw [zbT,H.quo_Gcd.l0,if_neg (by simp),Nat.gcd_zero_right]
  ·
   have hne:dg B32 b≠[]:=fun e=>by have:=(zcl zby b).1 e; omega
   have hpos:=List.length_pos_iff.2 hne
   have hr:okD (dg B32 (a % b)):=dg_okD' (m:=0) hb (by rw [zbV zby]; exact Nat.le_of_lt (Nat.mod_lt _ h0))
   obtain⟨k,hk⟩:=ih (a % b) (Nat.mod_lt _ h0) b hb hr
   refine⟨k+1,?_⟩
   rw [H.quo_Gcd.l0,if_pos (by omega),quo_DivMod.f,if_pos ⟨ha,hb⟩,zbV zby,zbV zby,if_neg (by omega),Option.bind_some]
   simp only []
   rw [hk,Nat.gcd_comm a b,Nat.gcd_rec b a,Nat.gcd_comm]
theorem gcd_spec {l0 l1:List Int} (h0:okD l0) (h1:okD l1):∃ k,H.quo_Gcd.f k l0 l1=some (dg B32 (Nat.gcd (val B32 l0) (val B32 l1))):=by
 obtain⟨k,hk⟩:=gcd_loop (val B32 l1) (val B32 l0) (dg_okD h0 rfl).1 (dg_okD h1 rfl).1
 refine⟨k,?_⟩
 rw [H.quo_Gcd.f,nat_Trim.f,if_pos h0.okL,Option.bind_some,nat_Trim.f,if_pos h1.okL,Option.bind_some,hk]
section
variable (A0:Option Addr) (c0:Nat) (l0:List Int) (A1:Option Addr) (c1:Nat) (l1:List Int) (w:World) (hr0:Kd.C (Kd.int .u32) w A0 l0.length l0) (hc0:l0.length≤c0) (hr1:Kd.C (Kd.int .u32) w A1 l1.length l1) (hc1:l1.length≤c1)
include hr0 hc0
theorem bits_q (h:okL l0):Calls Tryz.prog 157 #[.slice A0 l0.length c0] w fun e w'=>e=.returned (.int .i64 (nb (val B32 l0):Int))∧Below w.heap.size w w':=by
 obtain⟨k,hk⟩:=bits_spec h
 exact H.nat_Bits.calls k A0 c0 l0 _ w hr0 hc0 hk
include hr1 hc1
theorem gcd_q (h0:okD l0) (h1:okD l1):Calls Tryz.prog 158 #[.slice A0 l0.length c0,.slice A1 l1.length c1] w fun e w'=>∃ v0_:Value,e=.returned (v0_)∧Kd.R (Kd.int .u32) 81 w' w.heap.size (fun _=>True) v0_ (dg B32 (Nat.gcd (val B32 l0) (val B32 l1)))∧Below w.heap.size w w':=by
 obtain⟨k,hk⟩:=gcd_spec h0 h1
 exact H.quo_Gcd.calls k A0 c0 l0 A1 c1 l1 _ w hr0 hc0 hr1 hc1 hk
theorem mul_q (h0:okD l0) (h1:okD l1):Calls Tryz.prog 162 #[.slice A0 l0.length c0,.slice A1 l1.length c1] w fun e w'=>∃ v0_:Value,e=.returned (v0_)∧Kd.R (Kd.int .u32) 81 w' w.heap.size (fun _=>True) v0_ (dg B32 (val B32 l0*val B32 l1))∧Below w.heap.size w w':=by
 obtain⟨k,hk⟩:=mul_spec h0 h1
 exact H.nat_Mul.calls k A0 c0 l0 A1 c1 l1 _ w hr0 hc0 hr1 hc1 (hk k (Nat.le_refl _))
theorem by_q (h0:okD l0) (h1:okD l1) (hz:val B32 l1≠0):Calls Tryz.prog 160 #[.slice A0 l0.length c0,.slice A1 l1.length c1] w fun e w'=>∃ v0_:Value,e=.returned (v0_)∧Kd.R (Kd.int .u32) 81 w' w.heap.size (fun _=>True) v0_ (dg B32 (val B32 l0 / val B32 l1))∧Below w.heap.size w w' :=
 H.rat_by.calls A0 c0 l0 A1 c1 l1 _ w hr0 hc0 hr1 hc1 (by rw [H.rat_by.f,quo_DivMod.f,if_pos ⟨h0,h1⟩,if_neg hz,Option.bind_some])
end
theorem one_q (w:World):Calls Tryz.prog 130 #[] w fun e w'=>∃ v0_:Value,e=.returned (v0_)∧Kd.R (Kd.int .u32) 81 w' w.heap.size (fun _=>True) v0_ (dg B32 1)∧Below w.heap.size w w' :=
 H.rat_one.calls _ w (by rw [H.rat_one.f,nat_Of.f,if_pos (by omega)]; rfl)
end Go.Proofs.YtehghijlchpeaaaGreat.Nat1
end
section
namespace Go.Proofs.YtehghijlchpeaaaGreat.Nat1
open Go.RowKit YtehghijlchpeaaaGreatW.PrintWords YtehghijlchpeaaaGreatW.PrintLast YtehghijlchpeaaaGreatW.PrintMore L Nt
def store3 (W:World) (g:Nat) (a b c:Value):World:=((W.setCell ⟨g,0,none⟩ a).setCell ⟨g,1,none⟩ b).setCell ⟨g,2,none⟩ c
theorem zbM {W:World} {g t:Nat} {x y z:Value} (h:W.heap[g]? = some (.cells #[x,y,z] t (0,0))) (a b c:Value):(store3 W g a b c).heap[g]? = some (.cells #[a,b,c] t (0,0)) :=
 zbF (cs:=#[a,b,z]) (zbF (cs:=#[a,y,z]) (zbF (cs:=#[x,y,z]) h 0 a rfl) 1 b rfl) 2 c rfl
theorem zbN {w W:World} {g:Nat} (h:Below w.heap.size w W) (hg:w.heap.size≤g) (a b c:Value):Below w.heap.size w (store3 W g a b c):=zbB (zbB (zbB h hg) hg) hg
theorem zcx {W:World} {base g:Nat} {ok':Nat→Prop} {v:Value} {xs:List Int} {cs:Array Value} (h:Kd.R (Kd.int .u32) 81 W base ok' v xs) (hg:W.heap[g]? = some (.cells cs 27 (0,0))) (a b c:Value):Kd.R (Kd.int .u32) 81 (store3 W g a b c) base ok' v xs :=
 Kd.R_mono (Kd.R_far (p:=⟨g,2,none⟩) (Kd.R_far (p:=⟨g,1,none⟩) (Kd.R_far (p:=⟨g,0,none⟩) (Kd.R_types h hg (by decide)) (fun _ hk=>hk.2) a) (fun _ hk=>hk.2) b) (fun _ hk=>hk.2) c) (fun _ hk=>hk.1)
theorem store3_eq (W:World) (g:Nat) (a b c:Value):((W.setCell ⟨g,0,none⟩ a).setCell ⟨g,1,none⟩ b).setCell ⟨g,2,none⟩ c=store3 W g a b c:=rfl
theorem zbH {W:World} {g t:Nat} {x y z:Value} (h:W.heap[g]? = some (.cells #[x,y,z] t (0,0))) :
  (W.cell? ⟨g,0,none⟩=some x∧W.cell? ⟨g,1,none⟩=some y∧W.cell? ⟨g,2,none⟩=some z)∧(W.frozen? ⟨g,0,none⟩=false∧W.frozen? ⟨g,1,none⟩=false∧W.frozen? ⟨g,2,none⟩=false):=by
 simp [World.cell?,World.frozen?,h]
def mkR (n:Bool) (a b:Nat):Bool×List Int×List Int×Int :=
 if b=0 then (false,[],[],17) else if a=0 then (false,[],dg B32 1,0) else (n,dg B32 (a / Nat.gcd a b),dg B32 (b / Nat.gcd a b),0)
def MakePost (w:World) (r:Bool×List Int×List Int×Int) (e:Ending) (w':World):Prop :=
 ∃ v1_ v2_:Value,e=.returned (.tuple #[.agg #[.bool r.1,v1_,v2_],.int .i64 r.2.2.2])∧Kd.R (Kd.int .u32) 81 w' w.heap.size (fun k_=>some k_≠(v2_:Value).ownBlock) v1_ r.2.1∧Kd.R (Kd.int .u32) 81 w' w.heap.size (fun k_=>some k_≠(v1_:Value).ownBlock) v2_ r.2.2.1∧Below w.heap.size w w'
theorem part_calls (A0:Option Addr) (c0:Nat) (l0:List Int) (A1:Option Addr) (c1:Nat) (l1:List Int) (g:Nat) (W:World) (hg:W.heap[g]? = some (.cells #[.slice A1 l1.length c1] 25 (0,0))) (hr0:Kd.C (Kd.int .u32) W A0 l0.length l0) (hc0:l0.length≤c0) (hr1:Kd.C (Kd.int .u32) W A1 l1.length l1) (hc1:l1.length≤c1) (h0:okD l0) (h1:okD l1) (hz:val B32 l1≠0) :
  Calls Tryz.prog 159 #[.slice A0 l0.length c0,.pointer (some ⟨g,0,none⟩)] W fun e w'=>∃ v0_:Value,e=.returned (v0_)∧Kd.R (Kd.int .u32) 81 w' W.heap.size (fun _=>True) v0_ (dg B32 (val B32 l0 / val B32 l1))∧Below W.heap.size W w':=by
 have k0:=cell_of_one hg
 have H:=Aside0.mk (by_q A0 c0 l0 A1 c1 l1 W hr0 hc0 hr1 hc1 h0 h1 hz)
 clear hg hr0 hr1 hc0 hc1 h0 h1 hz
 go_enter Tryz.func159,Tryz.ntmps159
 go_wp2_with fail
 refine H.out.mono ?_
 rintro e w1 ⟨v,rfl,hR,hB⟩
 obtain⟨A,c,rfl⟩:=Kd.R_slice hR
 have HR:=Aside0.mk hR
 have HB:=Aside0.mk hB
 clear hR hB
 go_wp2
 go_ret
 exact⟨_,rfl,HR.out,HB.out⟩
section
variable (n:Bool) (A0:Option Addr) (c0:Nat) (l0:List Int) (A1:Option Addr) (c1:Nat) (l1:List Int) (w:World) (hr0:Kd.C (Kd.int .u32) w A0 l0.length l0) (hc0:l0.length≤c0) (hr1:Kd.C (Kd.int .u32) w A1 l1.length l1) (hc1:l1.length≤c1) (h0:okD l0) (h1:okD l1)
include hr0 hc0 hr1 hc1 h0 h1
theorem make_zero (hz:val B32 l1=0):Calls Tryz.prog 133 #[.bool n,.slice A0 l0.length c0,.slice A1 l1.length c1] w (MakePost w (mkR n (val B32 l0) (val B32 l1))):=by
 have hu25:=Tryz.underlying27
 rw [mkR,if_pos hz]
 have HB1:=Aside0.mk (fun (W:World) (hb:Below w.heap.size w W)=>bits_q A1 c1 l1 W (Kd.C_below hr1 hb) hc1 h1.okL)
 rw [hz,show nb 0=0 from rfl] at HB1
 clear hr0 hr1 h0 h1 hz
 go_enter Tryz.func133,Tryz.ntmps133
 go_wp2_with (first | ((with_reducible refine zbD (N:=6) rfl ?_); refine zbC ?hg (N:=6) ?hd (cs:=#[.bool false,.slice none 0 0,.slice none 0 0]) (t:=27) ?hr ?_; (case hd=>rfl); (case hg=>rfl); (case hr=>first | (go_simp; done) | (go_simp; rfl)); intro gb hgb w1 hbox hb; have HX:=Aside0.mk (And.intro hgb (And.intro hbox hb)); clear hgb hbox hb))
 refine(HB1.out w1 HX.out.2.2).mono ?_
 rintro e w2 ⟨rfl,hB⟩
 have HBX:=Aside0.mk (zbr HX.out.2.1 hB)
 have HB2:=Aside0.mk (zbm HX.out.2.2 hB)
 obtain⟨⟨x0,x1,x2⟩,y0,y1,y2⟩:=zbH HBX.out
 clear hB
 go_wp2
 refine bodyPost_ret (zcm rfl _ _ gb 27 _ (0,0) _ rfl (zbM HBX.out _ _ _) Tryz.underlying27 rfl (by kernel_rfl)) rfl ?_
 exact⟨_,_,rfl,Kd.R_nil _ _ _ _ _,Kd.R_nil _ _ _ _ _,zbN HB2.out (by rw [HX.out.1]; exact Nat.le_refl _) _ _ _⟩
theorem make_nil (hz:val B32 l1≠0) (hz0:val B32 l0=0):Calls Tryz.prog 133 #[.bool n,.slice A0 l0.length c0,.slice A1 l1.length c1] w (MakePost w (mkR n (val B32 l0) (val B32 l1))):=by
 have hu25:=Tryz.underlying27
 rw [mkR,if_neg hz,if_pos hz0]
 have HB1:=Aside0.mk (fun (W:World) (hb:Below w.heap.size w W)=>bits_q A1 c1 l1 W (Kd.C_below hr1 hb) hc1 h1.okL)
 have HB0:=Aside0.mk (fun (W:World) (hb:Below w.heap.size w W)=>bits_q A0 c0 l0 W (Kd.C_below hr0 hb) hc0 h0.okL)
 have hb1:1≤((nb (val B32 l1):Nat):Int):=by unfold nb; rw [if_neg hz]; omega
 rw [hz0,show nb 0=0 from rfl] at HB0
 generalize ((nb (val B32 l1):Nat):Int)=b1 at *
 clear hr0 hr1 h0 h1 hz hz0
 go_enter Tryz.func133,Tryz.ntmps133
 go_wp2_with (first | ((with_reducible refine zbD (N:=6) rfl ?_); refine zbC ?hg (N:=6) ?hd (cs:=#[.bool false,.slice none 0 0,.slice none 0 0]) (t:=27) ?hr ?_; (case hd=>rfl); (case hg=>rfl); (case hr=>first | (go_simp; done) | (go_simp; rfl)); intro gb hgb w1 hbox hb; have HX:=Aside0.mk (And.intro hgb (And.intro hbox hb)); clear hgb hbox hb))
 refine(HB1.out w1 HX.out.2.2).mono ?_
 rintro e w2 ⟨rfl,hB⟩
 have HBX:=Aside0.mk (zbr HX.out.2.1 hB)
 have HB2:=Aside0.mk (zbm HX.out.2.2 hB)
 clear hB
 go_wp2_with fail
 refine(HB0.out w2 HB2.out).mono ?_
 rintro e w3 ⟨rfl,hB⟩
 have HBX3:=Aside0.mk (zbr HBX.out hB)
 have HB3:=Aside0.mk (zbm HB2.out hB)
 clear hB
 go_wp2_with fail
 refine(one_q w3).mono ?_
 rintro e w4 ⟨v,rfl,hR,hB⟩
 have HBX4:=Aside0.mk (zbr HBX3.out hB)
 have HB4:=Aside0.mk (zbm HB3.out hB)
 have HR:=Aside0.mk (Kd.R_lower hR HB3.out.size)
 obtain⟨⟨x0,x1,x2⟩,y0,y1,y2⟩:=zbH HBX4.out
 obtain⟨A,c,rfl⟩:=Kd.R_slice hR
 clear hB hR
 go_wp2
 refine bodyPost_ret (zcm rfl _ _ gb 27 _ (0,0) _ rfl (zbM HBX4.out _ _ _) Tryz.underlying27 rfl (by kernel_rfl)) rfl ?_
 exact⟨_,_,rfl,Kd.R_nil _ _ _ _ _,Kd.R_mono (zcx HR.out HBX4.out _ _ _) (fun k _=>by simp [Value.ownBlock]),zbN HB4.out (by rw [HX.out.1]; exact Nat.le_refl _) _ _ _⟩
theorem make_go (hz:val B32 l1≠0) (hz0:val B32 l0≠0):Calls Tryz.prog 133 #[.bool n,.slice A0 l0.length c0,.slice A1 l1.length c1] w (MakePost w (mkR n (val B32 l0) (val B32 l1))):=by
 have hu25:=Tryz.underlying27
 rw [mkR,if_neg hz,if_neg hz0]
 have HB1:=Aside0.mk (fun (W:World) (hb:Below w.heap.size w W)=>bits_q A1 c1 l1 W (Kd.C_below hr1 hb) hc1 h1.okL)
 have HB0:=Aside0.mk (fun (W:World) (hb:Below w.heap.size w W)=>bits_q A0 c0 l0 W (Kd.C_below hr0 hb) hc0 h0.okL)
 have HG:=Aside0.mk (fun (W:World) (hb:Below w.heap.size w W)=>gcd_q A0 c0 l0 A1 c1 l1 W (Kd.C_below hr0 hb) hc0 (Kd.C_below hr1 hb) hc1 h0 h1)
 have hgk:okD (dg B32 (Nat.gcd (val B32 l0) (val B32 l1))):=dg_okD' (m:=0) h0 (Nat.gcd_le_left _ (Nat.pos_of_ne_zero hz0))
 have hgz:val B32 (dg B32 (Nat.gcd (val B32 l0) (val B32 l1)))≠0:=by
  rw [zbV zby]
  exact Nat.ne_of_gt (Nat.gcd_pos_of_pos_left _ (Nat.pos_of_ne_zero hz0))
 have HP0:=Aside0.mk (fun (A:Option Addr) (c g:Nat) (W:World) (hg:W.heap[g]? = some (.cells #[.slice A _ c] 25 (0,0))) (hb:Below w.heap.size w W) (hr:Kd.C (Kd.int .u32) W A _ _) hc=>part_calls A0 c0 l0 A c (dg B32 (Nat.gcd (val B32 l0) (val B32 l1))) g W hg (Kd.C_below hr0 hb) hc0 hr hc h0 hgk hgz)
 have HP1:=Aside0.mk (fun (A:Option Addr) (c g:Nat) (W:World) (hg:W.heap[g]? = some (.cells #[.slice A _ c] 25 (0,0))) (hb:Below w.heap.size w W) (hr:Kd.C (Kd.int .u32) W A _ _) hc=>part_calls A1 c1 l1 A c (dg B32 (Nat.gcd (val B32 l0) (val B32 l1))) g W hg (Kd.C_below hr1 hb) hc1 hr hc h1 hgk hgz)
 rw [zbV zby] at HP0 HP1
 have hb1:1≤((nb (val B32 l1):Nat):Int):=by unfold nb; rw [if_neg hz]; omega
 have hb0:1≤((nb (val B32 l0):Nat):Int):=by unfold nb; rw [if_neg hz0]; omega
 generalize ((nb (val B32 l1):Nat):Int)=b1 at *
 generalize ((nb (val B32 l0):Nat):Int)=b0 at *
 generalize Nat.gcd (val B32 l0) (val B32 l1)=gg at *
 clear hr0 hr1 h0 h1 hz hz0 hgk hgz
 go_enter Tryz.func133,Tryz.ntmps133
 go_wp2_with (first | ((with_reducible refine zbD (N:=6) rfl ?_); refine zbC ?hg (N:=6) ?hd (cs:=#[.bool false,.slice none 0 0,.slice none 0 0]) (t:=27) ?hr ?_; (case hd=>rfl); (case hg=>rfl); (case hr=>first | (go_simp; done) | (go_simp; rfl)); intro gb hgb w1 hbox hb; have HX:=Aside0.mk (And.intro hgb (And.intro hbox hb)); clear hgb hbox hb))
 refine(HB1.out w1 HX.out.2.2).mono ?_
 rintro e w2 ⟨rfl,hB⟩
 have HBX:=Aside0.mk (zbr HX.out.2.1 hB)
 have HB2:=Aside0.mk (zbm HX.out.2.2 hB)
 clear hB
 go_wp2_with fail
 refine(HB0.out w2 HB2.out).mono ?_
 rintro e w3 ⟨rfl,hB⟩
 have HBX3:=Aside0.mk (zbr HBX.out hB)
 have HB3:=Aside0.mk (zbm HB2.out hB)
 clear hB
 go_wp2_with fail
 refine(HG.out w3 HB3.out).mono ?_
 rintro e w4 ⟨v,rfl,hR,hB⟩
 have HBX4:=Aside0.mk (zbr HBX3.out hB)
 have HB4:=Aside0.mk (zbm HB3.out hB)
 have HR:=Aside0.mk (Kd.R_lower hR HB3.out.size)
 obtain⟨A,c,rfl⟩:=Kd.R_slice hR
 clear hB hR
 go_wp2_with fail
 obtain⟨W5,hW5⟩:∃ W5,W5=w4.alloc (.cells #[.slice A (dg B32 gg).length c] 25):=⟨_,rfl⟩
 have hB5:Below w4.heap.size w4 W5:=by rw [hW5]; exact zbn (Below.refl _ _) _
 have HG5:=Aside0.mk (show W5.heap[w4.heap.size]? = some (.cells #[.slice A (dg B32 gg).length c] 25 (0,0)) by rw [hW5]; exact zbI _ _)
 have HBX5:=Aside0.mk (zbr HBX4.out hB5)
 have HB5:=Aside0.mk (zbm HB4.out hB5)
 have HR5:=Aside0.mk (Kd.R_below HR.out hB5)
 rw [← hW5]
 clear hW5 hB5
 refine(HP0.out A c w4.heap.size W5 HG5.out HB5.out (Kd.R_reads' HR5.out).2.2 (Kd.R_reads' HR5.out).2.1).mono ?_
 rintro e w6 ⟨v,rfl,hR,hB⟩
 have HBX6:=Aside0.mk (zbr HBX5.out hB)
 have HB6:=Aside0.mk (zbm HB5.out hB)
 have HG6:=Aside0.mk (zbr HG5.out hB)
 have HR6:=Aside0.mk (Kd.R_below HR5.out hB)
 have HN6:=Aside0.mk (Kd.R_lower hR HB5.out.size)
 obtain⟨An,cn,rfl⟩:=Kd.R_slice hR
 clear hB hR
 go_wp2_with fail
 refine(HP1.out A c w4.heap.size w6 HG6.out HB6.out (Kd.R_reads' HR6.out).2.2 (Kd.R_reads' HR6.out).2.1).mono ?_
 rintro e w7 ⟨v,rfl,hR,hB⟩
 have HBX7:=Aside0.mk (zbr HBX6.out hB)
 have HB7:=Aside0.mk (zbm HB6.out hB)
 have HRR:=Aside0.mk (two_apart HN6.out hR hB HB6.out.size)
 obtain⟨Ad,cd,rfl⟩:=Kd.R_slice hR
 obtain⟨⟨x0,x1,x2⟩,y0,y1,y2⟩:=zbH HBX7.out
 clear hB hR
 go_wp2
 refine bodyPost_ret (zcm rfl _ _ gb 27 _ (0,0) _ rfl (zbM HBX7.out _ _ _) Tryz.underlying27 rfl (by kernel_rfl)) rfl ?_
 exact⟨_,_,rfl,zcx HRR.out.1 HBX7.out _ _ _,zcx HRR.out.2 HBX7.out _ _ _,zbN HB7.out (by rw [HX.out.1]; exact Nat.le_refl _) _ _ _⟩
theorem make_q:Calls Tryz.prog 133 #[.bool n,.slice A0 l0.length c0,.slice A1 l1.length c1] w (MakePost w (mkR n (val B32 l0) (val B32 l1))):=by
 by_cases hz:val B32 l1=0
 ·
  exact make_zero n A0 c0 l0 A1 c1 l1 w hr0 hc0 hr1 hc1 h0 h1 hz
 ·
  by_cases hz0:val B32 l0=0
  ·
   exact make_nil n A0 c0 l0 A1 c1 l1 w hr0 hc0 hr1 hc1 h0 h1 hz hz0
  ·
   exact make_go n A0 c0 l0 A1 c1 l1 w hr0 hc0 hr1 hc1 h0 h1 hz hz0
end
open Classical in
noncomputable def rat_Make.f (a0:Bool) (l1 l2:List Int):Option (Bool×List Int×List Int×Int):=if okD l1∧okD l2 then some (mkR a0 (val B32 l1) (val B32 l2)) else none
theorem rat_Make.calls (a0:Bool) (A1:Option Addr) (c1:Nat) (l1:List Int) (A2:Option Addr) (c2:Nat) (l2:List Int) (r1:Bool) (r2 r3:List Int) (r4:Int) (w:World) (hr1:Kd.C (Kd.int .u32) w A1 l1.length l1) (hc1:l1.length≤c1) (hr2:Kd.C (Kd.int .u32) w A2 l2.length l2) (hc2:l2.length≤c2) (h:rat_Make.f a0 l1 l2=some (r1,r2,r3,r4)) :
  Calls Tryz.prog 133 #[.bool a0,.slice A1 l1.length c1,.slice A2 l2.length c2] w fun e w'=>∃ v1_ v2_:Value,e=.returned (.tuple #[.agg #[.bool r1,v1_,v2_],.int .i64 r4])∧Kd.R (Kd.int .u32) 81 w' w.heap.size (fun k_=>some k_≠(v2_:Value).ownBlock) v1_ r2∧Kd.R (Kd.int .u32) 81 w' w.heap.size (fun k_=>some k_≠(v1_:Value).ownBlock) v2_ r3∧Below w.heap.size w w':=by
 unfold rat_Make.f at h
 split at h
 ·
  rename_i hk
  have h:=Option.some.inj h
  have:=make_q a0 A1 c1 l1 A2 c2 l2 w hr1 hc1 hr2 hc2 hk.1 hk.2
  rw [h] at this
  exact this
 ·
  cases h
end Go.Proofs.YtehghijlchpeaaaGreat.Nat1
end
section
noncomputable section
namespace Go.Proofs.YtehghijlchpeaaaGreat.J
open Go.RowKit YtehghijlchpeaaaGreat.H YtehghijlchpeaaaGreat.L YtehghijlchpeaaaGreat.Nat1 YtehghijlchpeaaaGreatW.PrintWords YtehghijlchpeaaaGreatW.PrintLast YtehghijlchpeaaaGreatW.PrintMore
attribute [local go_sem] zbX zbZ zb2 zb1 zbQ zbR zbW zbY   -- for this text's walks alone
def errW:Option Int→Value
 | none=>.nilIface
 | some c=>.iface 0 (.int .i64 c)
theorem zbx:errW none=.nilIface:=rfl
theorem zbw (c:Int):errW (some c)=.iface 0 (.int .i64 c):=rfl
theorem info27:(Tryz.prog.info? 27).map (fun i=>(i.zero,i.size,i.bytes))=some (some (.agg #[(.bool false),(.slice none 0 0),(.slice none 0 0)]),3,56):=by kernel_rfl
structure S27 where
 f0:Bool
 f1:(List Int)
 f2:(List Int)
def z27:S27:=⟨false,([]:List Int),([]:List Int)⟩
def k27:Kd S27:=Kd.iso (Kd.pair Kd.bool (Kd.pair (Kd.slice 81 (Kd.int .u32)) (Kd.slice 81 (Kd.int .u32)))) (fun x:S27=>(x.f0,x.f1,x.f2))
theorem k27_open {w:World} {x:S27} {cs:List Value} (h:k27.K w x cs):∃ A1 c1 A2 c2,cs=[.bool x.f0,.slice A1 x.f1.length c1,.slice A2 x.f2.length c2]∧x.f1.length≤c1∧(Kd.int .u32).C w A1 x.f1.length x.f1∧x.f2.length≤c2∧(Kd.int .u32).C w A2 x.f2.length x.f2:=by
 obtain⟨_,_,rfl,rfl,⟨_,_,rfl,⟨A1,c1,rfl,l1,g1⟩,⟨A2,c2,rfl,l2,g2⟩⟩⟩:=h
 exact⟨A1,c1,A2,c2,rfl,l1,g1,l2,g2⟩
theorem k27_mk (w:World) (x:S27) {A1:Option Addr} {c1:Nat} (l1:x.f1.length≤c1) (g1:(Kd.int .u32).C w A1 x.f1.length x.f1) {A2:Option Addr} {c2:Nat} (l2:x.f2.length≤c2) (g2:(Kd.int .u32).C w A2 x.f2.length x.f2):k27.K w x [.bool x.f0,.slice A1 x.f1.length c1,.slice A2 x.f2.length c2]:=⟨[.bool x.f0],[.slice A1 x.f1.length c1,.slice A2 x.f2.length c2],rfl,rfl,⟨[.slice A1 x.f1.length c1],[.slice A2 x.f2.length c2],rfl,⟨A1,c1,rfl,l1,g1⟩,⟨A2,c2,rfl,l2,g2⟩⟩⟩
theorem k27_mkM (w:World) (base:Nat) (ok:Nat→Prop) (x:S27) {v1:Value} (g1:(Kd.int .u32).R 81 w base ok v1 x.f1) {v2:Value} (g2:(Kd.int .u32).R 81 w base ok v2 x.f2):k27.M w base ok x [.bool x.f0,v1,v2]:=⟨[.bool x.f0],[v1,v2],rfl,rfl,⟨[v1],[v2],rfl,⟨v1,rfl,g1⟩,⟨v2,rfl,g2⟩⟩⟩
def rd_T27 (xs:List S27) (i:Int):S27:=xs.getD i.toNat z27
theorem at_T27 {w:World} {A:Option Addr} {n:Nat} {xs:List S27} (h:Kd.C k27 w A n xs) (i:Int) (h0:0≤i) (h1:i < n):∃ ad A1 c1 A2 c2,A=some ad∧w.cell? (ad.add (i.toNat*3))=some (.bool (rd_T27 xs i).f0)∧w.cell? ⟨(ad.add (i.toNat*3)).block,(ad.add (i.toNat*3)).off+1,none⟩=some (.slice A1 (rd_T27 xs i).f1.length c1)∧w.cell? ⟨(ad.add (i.toNat*3)).block,(ad.add (i.toNat*3)).off+2,none⟩=some (.slice A2 (rd_T27 xs i).f2.length c2)∧(rd_T27 xs i).f1.length≤c1∧(Kd.int .u32).C w A1 (rd_T27 xs i).f1.length (rd_T27 xs i).f1∧(rd_T27 xs i).f2.length≤c2∧(Kd.int .u32).C w A2 (rd_T27 xs i).f2.length (rd_T27 xs i).f2:=by
 obtain⟨ad,c,e,_,hK,hc0⟩:=Kd.C_get h z27 i h0 h1
 have hc:∀ j u,c[j]? = some u→w.cell? (ad.add (i.toNat*3+j))=some u:=hc0
 obtain⟨A1,c1,A2,c2,rfl,l1,g1,l2,g2⟩:=k27_open hK
 exact⟨ad,A1,c1,A2,c2,e,hc 0 _ rfl,by rw [← add_field _ _ 1 (by omega)]; exact hc 1 _ rfl,by rw [← add_field _ _ 2 (by omega)]; exact hc 2 _ rfl,l1,g1,l2,g2⟩
end Go.Proofs.YtehghijlchpeaaaGreat.J
end
end
section
noncomputable section
namespace Go.Proofs.YtehghijlchpeaaaGreat.J
open Go.RowKit YtehghijlchpeaaaGreat.H YtehghijlchpeaaaGreat.L YtehghijlchpeaaaGreat.Nat1 YtehghijlchpeaaaGreatW.PrintWords YtehghijlchpeaaaGreatW.PrintLast YtehghijlchpeaaaGreatW.PrintMore
attribute [local go_sem] zbX zbZ zb2 zb1 zbQ zbR zbW zbY   -- for this text's walks alone
def rat_Norm.f (a0_0:Bool) (l0_1:List Int) (l0_2:List Int):Option (Bool×List Int×List Int):=(rat_Make.f a0_0 l0_1 l0_2).bind fun bt103=>(if bt103.2.2.2=0 then (some (bt103.1,bt103.2.1,bt103.2.2.1)) else ((rat_one.f).bind fun t112=>(some (false,([]:List Int),t112))))
theorem rat_Norm.calls (a0_0:Bool) (A0_1:Option Addr) (c0_1:Nat) (l0_1:List Int) (A0_2:Option Addr) (c0_2:Nat) (l0_2:List Int) (r1:Bool) (r2:List Int) (r3:List Int) (w:World) (hr0_1:Kd.C (Kd.int .u32) w A0_1 l0_1.length l0_1) (hc0_1:l0_1.length≤c0_1) (hr0_2:Kd.C (Kd.int .u32) w A0_2 l0_2.length l0_2) (hc0_2:l0_2.length≤c0_2) (h:rat_Norm.f a0_0 l0_1 l0_2=some (r1,r2,r3)) :
  Calls Tryz.prog 85 #[.agg #[.bool a0_0,.slice A0_1 l0_1.length c0_1,.slice A0_2 l0_2.length c0_2]] w fun e w'=>∃ v1_ v2_:Value,e=.returned (.agg #[.bool r1,v1_,v2_])∧Kd.R (Kd.int .u32) 81 w' w.heap.size (fun k_=>some k_≠(v2_:Value).ownBlock) v1_ r2∧Kd.R (Kd.int .u32) 81 w' w.heap.size (fun k_=>some k_≠(v1_:Value).ownBlock) v2_ r3∧Below w.heap.size w w':=by
 have hu27:=Tryz.underlying27
 have HR0_1:=Aside0.mk hr0_1
 have HC0_1:=Aside0.mk hc0_1
 clear hr0_1 hc0_1
 have HR0_2:=Aside0.mk hr0_2
 have HC0_2:=Aside0.mk hc0_2
 clear hr0_2 hc0_2
 have HB:=Aside0.mk (Below.refl w.heap.size w)
 have H:((rat_Make.f a0_0 l0_1 l0_2).bind fun bt103=>(if bt103.2.2.2=0 then (some (bt103.1,bt103.2.1,bt103.2.2.1)) else ((rat_one.f).bind fun t112=>(some (false,([]:List Int),t112)))))=some (r1,r2,r3):=h
 clear h
 replace H:=Option.bind_eq_some_iff.mp H
 obtain⟨⟨t103,t104,t107,t110⟩,A20,H⟩:=H
 replace H:(if t110=0 then (some (t103,t104,t107)) else ((rat_one.f).bind fun t112=>(some (false,([]:List Int),t112))))=some (r1,r2,r3):=H
 have A2:=Aside0.mk A20
 clear A20
 by_cases c3:t110=0
 ·
  rw [if_pos c3] at H
  have c3b0:(t110 == 0)=true:=beq_iff_eq.mpr c3
  have c3b1:(t110 != 0)=false:=bne_eq_false_iff_eq.mpr c3
  clear c3
  simp only [Option.some.injEq,Prod.mk.injEq] at H
  obtain⟨rfl,rfl,rfl⟩:=H
  go_enter Tryz.func85,Tryz.ntmps85
  go_wp2_with (first | ((with_reducible refine zbD (N:=1) rfl ?_); refine zbC ?hg (N:=1) ?hd (cs:=#[.bool a0_0,.slice A0_1 l0_1.length c0_1,.slice A0_2 l0_2.length c0_2]) (t:=27) ?hr ?_; (case hd=>rfl); (case hg=>rfl); (case hr=>first | (go_simp; done) | (go_simp; rfl)); intro gb101 hg w4 hbox hb; have n0_:=Aside0.mk (zbm (qb HB.out) hb); have n1_:=Aside0.mk (hbox); have n2_:=Aside0.mk ((by rw [hg]; exact(zbp (qb HB.out)):w.heap.size≤gb101)); have n3_:=Aside0.mk ((by rw [hg]; exact(zbp (qb HB.out)):w.heap.size≤gb101)); clear HB; have HB:=n0_; have BK101:=n1_; have GW101:=n2_; have GE101:=n3_; clear n0_ n1_ n2_ n3_; clear hb hbox hg) | ((with_reducible refine zbD (N:=2) rfl ?_); refine zbC ?hg (N:=2) ?hd (cs:=#[.bool false,.slice none 0 0,.slice none 0 0]) (t:=27) ?hr ?_; (case hd=>rfl); (case hg=>rfl); (case hr=>first | (go_simp; done) | (go_simp; rfl)); intro gb102 hg w5 hbox hb; have n0_:=Aside0.mk (zbr (g:=gb101) (o:=.cells #[.bool a0_0,.slice A0_1 l0_1.length c0_1,.slice A0_2 l0_2.length c0_2] 27 (0,0)) (qk BK101.out) hb); have n1_:=Aside0.mk (zbm (qb1 HB.out GE101.out) hb); have n2_:=Aside0.mk (hbox); have n3_:=Aside0.mk ((by rw [hg]; exact(zbp (qb1 HB.out GE101.out)):w.heap.size≤gb102)); have n4_:=Aside0.mk ((by rw [hg]; exact(zbp (qb1 HB.out GE101.out)):w.heap.size≤gb102)); have n5_:=Aside0.mk ((by rw [hg]; exact Nat.ne_of_lt (zbL (g:=gb101) (o:=.cells #[.bool a0_0,.slice A0_1 l0_1.length c0_1,.slice A0_2 l0_2.length c0_2] 27 (0,0)) (qk BK101.out)):gb101≠gb102)); have n6_:=Aside0.mk ((by rw [hg]; exact Nat.ne_of_gt (zbL (g:=gb101) (o:=.cells #[.bool a0_0,.slice A0_1 l0_1.length c0_1,.slice A0_2 l0_2.length c0_2] 27 (0,0)) (qk BK101.out)):gb102≠gb101)); clear BK101; clear HB; have BK101:=n0_; have HB:=n1_; have BK102:=n2_; have GW102:=n3_; have GE102:=n4_; have NB101_102:=n5_; have NB102_101:=n6_; clear n0_ n1_ n2_ n3_ n4_ n5_ n6_; clear hb hbox hg; have hnb6:=NB101_102.out; have hnc6:=NB102_101.out; obtain⟨hcz7_0,hcz7_1,hcz7_2,hfz7_0,hfz7_1,hfz7_2⟩:=qz BK101.out) | ((with_reducible refine zbz (f:=133) rfl ?_); refine zbK (some 12) rfl rfl Tryz.func133 (by kernel_rfl) rfl #[.bool a0_0,.slice A0_1 l0_1.length c0_1,.slice A0_2 l0_2.length c0_2] rfl (by (try simp only [List.map_toArray,List.map_cons,List.map_nil]); first | done | rfl | (simp only [List.length_drop,List.length_take]; rfl)) ?_; (with_reducible refine(rat_Make.calls a0_0 _ _ l0_1 _ _ l0_2 t103 t104 t107 t110 _ ?side1 ?side2 ?side3 ?side4 A2.out).mono ?_); (case side1=>exact qc (Kd.C_below HR0_1.out HB.out)); (case side2=>exact HC0_1.out); (case side3=>exact qc (Kd.C_below HR0_2.out HB.out)); (case side4=>exact HC0_2.out); rintro e w8 ⟨v105,v108,rfl,ho0,ho1,hb⟩; refine⟨_,rfl,?_⟩; have n0_:=Aside0.mk (Kd.R_lower ho0 (zbp (qb2 HB.out GE101.out GE102.out))); have n1_:=Aside0.mk (Kd.R_lower ho1 (zbp (qb2 HB.out GE101.out GE102.out))); have n2_:=Aside0.mk (zbr (g:=gb101) (o:=.cells #[.bool a0_0,.slice A0_1 l0_1.length c0_1,.slice A0_2 l0_2.length c0_2] 27 (0,0)) (qk BK101.out) hb); have n3_:=Aside0.mk (zbr (g:=gb102) (o:=.cells #[.bool false,.slice none 0 0,.slice none 0 0] 27 (0,0)) (qk BK102.out) hb); have n4_:=Aside0.mk (zbm (qb2 HB.out GE101.out GE102.out) hb); clear BK101; clear BK102; clear HB; have HO106:=n0_; have HO109:=n1_; have BK101:=n2_; have BK102:=n3_; have HB:=n4_; clear n0_ n1_ n2_ n3_ n4_; (try clear hb); (try clear hb2); (try clear hk); (try clear hi); (try clear ho0); (try clear ho1)) | ((with_reducible refine zbD (N:=3) rfl ?_); refine zbC ?hg (N:=3) ?hd (cs:=#[.bool false,.slice none 0 0,.slice none 0 0]) (t:=27) ?hr ?_; (case hd=>rfl); (case hg=>rfl); (case hr=>first | (go_simp; done) | (go_simp; rfl)); intro gb111 hg w9 hbox hb; have n0_:=Aside0.mk (Kd.R_below (qr HO106.out) hb); have n1_:=Aside0.mk (Kd.R_below (qr HO109.out) hb); have n2_:=Aside0.mk (zbr (g:=gb101) (o:=.cells #[.bool a0_0,.slice A0_1 l0_1.length c0_1,.slice A0_2 l0_2.length c0_2] 27 (0,0)) (qk BK101.out) hb); have n3_:=Aside0.mk (zbr (g:=gb102) (o:=.cells #[.bool false,.slice none 0 0,.slice none 0 0] 27 (0,0)) (qk BK102.out) hb); have n4_:=Aside0.mk (zbm (qb2 HB.out GE101.out GE102.out) hb); have n5_:=Aside0.mk (hbox); have n6_:=Aside0.mk ((by rw [hg]; exact(zbp (qb2 HB.out GE101.out GE102.out)):w.heap.size≤gb111)); have n7_:=Aside0.mk ((by rw [hg]; exact(zbp (qb2 HB.out GE101.out GE102.out)):w.heap.size≤gb111)); have n8_:=Aside0.mk ((by rw [hg]; exact Nat.ne_of_lt (zbL (g:=gb101) (o:=.cells #[.bool a0_0,.slice A0_1 l0_1.length c0_1,.slice A0_2 l0_2.length c0_2] 27 (0,0)) (qk BK101.out)):gb101≠gb111)); have n9_:=Aside0.mk ((by rw [hg]; exact Nat.ne_of_gt (zbL (g:=gb101) (o:=.cells #[.bool a0_0,.slice A0_1 l0_1.length c0_1,.slice A0_2 l0_2.length c0_2] 27 (0,0)) (qk BK101.out)):gb111≠gb101)); have n10_:=Aside0.mk ((by rw [hg]; exact Nat.ne_of_lt (zbL (g:=gb102) (o:=.cells #[.bool false,.slice none 0 0,.slice none 0 0] 27 (0,0)) (qk BK102.out)):gb102≠gb111)); have n11_:=Aside0.mk ((by rw [hg]; exact Nat.ne_of_gt (zbL (g:=gb102) (o:=.cells #[.bool false,.slice none 0 0,.slice none 0 0] 27 (0,0)) (qk BK102.out)):gb111≠gb102)); clear HO106; clear HO109; clear BK101; clear BK102; clear HB; have HO106:=n0_; have HO109:=n1_; have BK101:=n2_; have BK102:=n3_; have HB:=n4_; have BK111:=n5_; have GW111:=n6_; have GE111:=n7_; have NB101_111:=n8_; have NB111_101:=n9_; have NB102_111:=n10_; have NB111_102:=n11_; clear n0_ n1_ n2_ n3_ n4_ n5_ n6_ n7_ n8_ n9_ n10_ n11_; clear hb hbox hg; have hnb10:=NB111_101.out; have hnc10:=NB101_111.out; have hnb11:=NB111_102.out; have hnc11:=NB102_111.out; obtain⟨hcz12_0,hcz12_1,hcz12_2,hfz12_0,hfz12_1,hfz12_2⟩:=qz BK111.out; obtain⟨Ao13,co13,eo13⟩:=Kd.R_slice HO106.out; subst eo13; obtain⟨Ao14,co14,eo14⟩:=Kd.R_slice HO109.out; subst eo14; obtain⟨hcz15_0,hcz15_1,hcz15_2,hfz15_0,hfz15_1,hfz15_2⟩:=qz BK102.out))
  refine bodyPost_ret (results_cell_row rfl _ _ gb102 27 #[.bool t103,.slice Ao13 t104.length co13,.slice Ao14 t107.length co14] (0,0) _ rfl (by (with_reducible repeat (first | refine zbv ?_ _ | refine zbu ?_ | refine zbt ?_ _)); refine zbF (cs:=#[.bool t103,.slice Ao13 t104.length co13,.slice none 0 0]) ?_ 2 _ rfl; (with_reducible repeat (first | refine zbv ?_ _ | refine zbu ?_ | refine zbt ?_ _)); refine zbF (cs:=#[.bool t103,.slice none 0 0,.slice none 0 0]) ?_ 1 _ rfl; (with_reducible repeat (first | refine zbv ?_ _ | refine zbu ?_ | refine zbt ?_ _)); refine zbF (cs:=#[.bool false,.slice none 0 0,.slice none 0 0]) ?_ 0 _ rfl; (with_reducible repeat (first | refine zbv ?_ _ | refine zbu ?_ | refine zbt ?_ _)); refine zbJ ?_ NB102_111.out _; (with_reducible repeat (first | refine zbv ?_ _ | refine zbu ?_ | refine zbt ?_ _)); refine zbJ ?_ NB102_111.out _; (with_reducible repeat (first | refine zbv ?_ _ | refine zbu ?_ | refine zbt ?_ _)); refine zbJ ?_ NB102_111.out _; (with_reducible repeat (first | refine zbv ?_ _ | refine zbu ?_ | refine zbt ?_ _)); exact BK102.out) Tryz.underlying27 rfl (by kernel_rfl)) rfl ?_
  exact⟨_,_,by first | rfl | (simp [zbx,zbw]<;>rfl) | (simp [*,zbx,zbw]<;>rfl),by (with_reducible repeat (first | apply Kd.R_alloc | apply Kd.R_drewN | apply Kd.R_drew)); exact Kd.R_mono (Kd.R_far (p:=⟨gb102,2,none⟩) (Kd.R_far (p:=⟨gb102,1,none⟩) (Kd.R_far (p:=⟨gb102,0,none⟩) (Kd.R_far (p:=⟨gb111,2,none⟩) (Kd.R_far (p:=⟨gb111,1,none⟩) (Kd.R_far (p:=⟨gb111,0,none⟩) (Kd.R_types (Kd.R_types HO106.out BK111.out (by decide)) BK102.out (by decide)) (fun _ hk=>hk.1.2) (.bool t103)) (fun _ hk=>hk.1.2) (.slice Ao13 t104.length co13)) (fun _ hk=>hk.1.2) (.slice Ao14 t107.length co14)) (fun _ hk=>hk.2) (.bool t103)) (fun _ hk=>hk.2) (.slice Ao13 t104.length co13)) (fun _ hk=>hk.2) (.slice Ao14 t107.length co14)) (fun _ hk=>hk.1.1),by (with_reducible repeat (first | apply Kd.R_alloc | apply Kd.R_drewN | apply Kd.R_drew)); exact Kd.R_mono (Kd.R_far (p:=⟨gb102,2,none⟩) (Kd.R_far (p:=⟨gb102,1,none⟩) (Kd.R_far (p:=⟨gb102,0,none⟩) (Kd.R_far (p:=⟨gb111,2,none⟩) (Kd.R_far (p:=⟨gb111,1,none⟩) (Kd.R_far (p:=⟨gb111,0,none⟩) (Kd.R_types (Kd.R_types HO109.out BK111.out (by decide)) BK102.out (by decide)) (fun _ hk=>hk.1.2) (.bool t103)) (fun _ hk=>hk.1.2) (.slice Ao13 t104.length co13)) (fun _ hk=>hk.1.2) (.slice Ao14 t107.length co14)) (fun _ hk=>hk.2) (.bool t103)) (fun _ hk=>hk.2) (.slice Ao13 t104.length co13)) (fun _ hk=>hk.2) (.slice Ao14 t107.length co14)) (fun _ hk=>hk.1.1),by repeat (first | (with_reducible first | exact HB.out | apply zbn | apply zbo | apply zbs | refine zbB ?_ GE101.out | refine zbB ?_ GE102.out | refine zbB ?_ GE111.out) | exact HB.out)⟩
 ·
  rw [if_neg c3] at H
  have c3b0:(t110 == 0)=false:=beq_eq_false_iff_ne.mpr c3
  have c3b1:(t110 != 0)=true:=bne_iff_ne.mpr c3
  replace H:=Option.bind_eq_some_iff.mp H
  obtain⟨t112,A160,H⟩:=H
  replace H:(some (false,([]:List Int),t112))=some (r1,r2,r3):=H
  have A16:=Aside0.mk A160
  clear A160
  simp only [Option.some.injEq,Prod.mk.injEq] at H
  obtain⟨rfl,rfl,rfl⟩:=H
  go_enter Tryz.func85,Tryz.ntmps85
  go_wp2_with (first | ((with_reducible refine zbD (N:=1) rfl ?_); refine zbC ?hg (N:=1) ?hd (cs:=#[.bool a0_0,.slice A0_1 l0_1.length c0_1,.slice A0_2 l0_2.length c0_2]) (t:=27) ?hr ?_; (case hd=>rfl); (case hg=>rfl); (case hr=>first | (go_simp; done) | (go_simp; rfl)); intro gb101 hg w17 hbox hb; have n0_:=Aside0.mk (zbm (qb HB.out) hb); have n1_:=Aside0.mk (hbox); have n2_:=Aside0.mk ((by rw [hg]; exact(zbp (qb HB.out)):w.heap.size≤gb101)); have n3_:=Aside0.mk ((by rw [hg]; exact(zbp (qb HB.out)):w.heap.size≤gb101)); clear HB; have HB:=n0_; have BK101:=n1_; have GW101:=n2_; have GE101:=n3_; clear n0_ n1_ n2_ n3_; clear hb hbox hg) | ((with_reducible refine zbD (N:=2) rfl ?_); refine zbC ?hg (N:=2) ?hd (cs:=#[.bool false,.slice none 0 0,.slice none 0 0]) (t:=27) ?hr ?_; (case hd=>rfl); (case hg=>rfl); (case hr=>first | (go_simp; done) | (go_simp; rfl)); intro gb102 hg w18 hbox hb; have n0_:=Aside0.mk (zbr (g:=gb101) (o:=.cells #[.bool a0_0,.slice A0_1 l0_1.length c0_1,.slice A0_2 l0_2.length c0_2] 27 (0,0)) (qk BK101.out) hb); have n1_:=Aside0.mk (zbm (qb1 HB.out GE101.out) hb); have n2_:=Aside0.mk (hbox); have n3_:=Aside0.mk ((by rw [hg]; exact(zbp (qb1 HB.out GE101.out)):w.heap.size≤gb102)); have n4_:=Aside0.mk ((by rw [hg]; exact(zbp (qb1 HB.out GE101.out)):w.heap.size≤gb102)); have n5_:=Aside0.mk ((by rw [hg]; exact Nat.ne_of_lt (zbL (g:=gb101) (o:=.cells #[.bool a0_0,.slice A0_1 l0_1.length c0_1,.slice A0_2 l0_2.length c0_2] 27 (0,0)) (qk BK101.out)):gb101≠gb102)); have n6_:=Aside0.mk ((by rw [hg]; exact Nat.ne_of_gt (zbL (g:=gb101) (o:=.cells #[.bool a0_0,.slice A0_1 l0_1.length c0_1,.slice A0_2 l0_2.length c0_2] 27 (0,0)) (qk BK101.out)):gb102≠gb101)); clear BK101; clear HB; have BK101:=n0_; have HB:=n1_; have BK102:=n2_; have GW102:=n3_; have GE102:=n4_; have NB101_102:=n5_; have NB102_101:=n6_; clear n0_ n1_ n2_ n3_ n4_ n5_ n6_; clear hb hbox hg; have hnb19:=NB101_102.out; have hnc19:=NB102_101.out; obtain⟨hcz20_0,hcz20_1,hcz20_2,hfz20_0,hfz20_1,hfz20_2⟩:=qz BK101.out) | ((with_reducible refine zbz (f:=133) rfl ?_); refine zbK (some 12) rfl rfl Tryz.func133 (by kernel_rfl) rfl #[.bool a0_0,.slice A0_1 l0_1.length c0_1,.slice A0_2 l0_2.length c0_2] rfl (by (try simp only [List.map_toArray,List.map_cons,List.map_nil]); first | done | rfl | (simp only [List.length_drop,List.length_take]; rfl)) ?_; (with_reducible refine(rat_Make.calls a0_0 _ _ l0_1 _ _ l0_2 t103 t104 t107 t110 _ ?side1 ?side2 ?side3 ?side4 A2.out).mono ?_); (case side1=>exact qc (Kd.C_below HR0_1.out HB.out)); (case side2=>exact HC0_1.out); (case side3=>exact qc (Kd.C_below HR0_2.out HB.out)); (case side4=>exact HC0_2.out); rintro e w21 ⟨v105,v108,rfl,ho0,ho1,hb⟩; refine⟨_,rfl,?_⟩; have n0_:=Aside0.mk (Kd.R_lower ho0 (zbp (qb2 HB.out GE101.out GE102.out))); have n1_:=Aside0.mk (Kd.R_lower ho1 (zbp (qb2 HB.out GE101.out GE102.out))); have n2_:=Aside0.mk (zbr (g:=gb101) (o:=.cells #[.bool a0_0,.slice A0_1 l0_1.length c0_1,.slice A0_2 l0_2.length c0_2] 27 (0,0)) (qk BK101.out) hb); have n3_:=Aside0.mk (zbr (g:=gb102) (o:=.cells #[.bool false,.slice none 0 0,.slice none 0 0] 27 (0,0)) (qk BK102.out) hb); have n4_:=Aside0.mk (zbm (qb2 HB.out GE101.out GE102.out) hb); clear BK101; clear BK102; clear HB; have HO106:=n0_; have HO109:=n1_; have BK101:=n2_; have BK102:=n3_; have HB:=n4_; clear n0_ n1_ n2_ n3_ n4_; (try clear hb); (try clear hb2); (try clear hk); (try clear hi); (try clear ho0); (try clear ho1)) | ((with_reducible refine zbD (N:=3) rfl ?_); refine zbC ?hg (N:=3) ?hd (cs:=#[.bool false,.slice none 0 0,.slice none 0 0]) (t:=27) ?hr ?_; (case hd=>rfl); (case hg=>rfl); (case hr=>first | (go_simp; done) | (go_simp; rfl)); intro gb111 hg w22 hbox hb; have n0_:=Aside0.mk (Kd.R_below (qr HO106.out) hb); have n1_:=Aside0.mk (Kd.R_below (qr HO109.out) hb); have n2_:=Aside0.mk (zbr (g:=gb101) (o:=.cells #[.bool a0_0,.slice A0_1 l0_1.length c0_1,.slice A0_2 l0_2.length c0_2] 27 (0,0)) (qk BK101.out) hb); have n3_:=Aside0.mk (zbr (g:=gb102) (o:=.cells #[.bool false,.slice none 0 0,.slice none 0 0] 27 (0,0)) (qk BK102.out) hb); have n4_:=Aside0.mk (zbm (qb2 HB.out GE101.out GE102.out) hb); have n5_:=Aside0.mk (hbox); have n6_:=Aside0.mk ((by rw [hg]; exact(zbp (qb2 HB.out GE101.out GE102.out)):w.heap.size≤gb111)); have n7_:=Aside0.mk ((by rw [hg]; exact(zbp (qb2 HB.out GE101.out GE102.out)):w.heap.size≤gb111)); have n8_:=Aside0.mk ((by rw [hg]; exact Nat.ne_of_lt (zbL (g:=gb101) (o:=.cells #[.bool a0_0,.slice A0_1 l0_1.length c0_1,.slice A0_2 l0_2.length c0_2] 27 (0,0)) (qk BK101.out)):gb101≠gb111)); have n9_:=Aside0.mk ((by rw [hg]; exact Nat.ne_of_gt (zbL (g:=gb101) (o:=.cells #[.bool a0_0,.slice A0_1 l0_1.length c0_1,.slice A0_2 l0_2.length c0_2] 27 (0,0)) (qk BK101.out)):gb111≠gb101)); have n10_:=Aside0.mk ((by rw [hg]; exact Nat.ne_of_lt (zbL (g:=gb102) (o:=.cells #[.bool false,.slice none 0 0,.slice none 0 0] 27 (0,0)) (qk BK102.out)):gb102≠gb111)); have n11_:=Aside0.mk ((by rw [hg]; exact Nat.ne_of_gt (zbL (g:=gb102) (o:=.cells #[.bool false,.slice none 0 0,.slice none 0 0] 27 (0,0)) (qk BK102.out)):gb111≠gb102)); clear HO106; clear HO109; clear BK101; clear BK102; clear HB; have HO106:=n0_; have HO109:=n1_; have BK101:=n2_; have BK102:=n3_; have HB:=n4_; have BK111:=n5_; have GW111:=n6_; have GE111:=n7_; have NB101_111:=n8_; have NB111_101:=n9_; have NB102_111:=n10_; have NB111_102:=n11_; clear n0_ n1_ n2_ n3_ n4_ n5_ n6_ n7_ n8_ n9_ n10_ n11_; clear hb hbox hg; have hnb23:=NB111_101.out; have hnc23:=NB101_111.out; have hnb24:=NB111_102.out; have hnc24:=NB102_111.out; obtain⟨hcz25_0,hcz25_1,hcz25_2,hfz25_0,hfz25_1,hfz25_2⟩:=qz BK111.out; obtain⟨Ao26,co26,eo26⟩:=Kd.R_slice HO106.out; subst eo26; obtain⟨Ao27,co27,eo27⟩:=Kd.R_slice HO109.out; subst eo27) | ((with_reducible refine zbz (f:=130) rfl ?_); refine zbK (some 17) rfl rfl Tryz.func130 (by kernel_rfl) rfl #[] rfl (by (try simp only [List.map_toArray,List.map_cons,List.map_nil]); first | done | rfl | (simp only [List.length_drop,List.length_take]; rfl)) ?_; (with_reducible refine(rat_one.calls  t112 _ A16.out).mono ?_); rintro e w28 ⟨v113,rfl,ho0,hb⟩; refine⟨_,rfl,?_⟩; have n0_:=Aside0.mk (Kd.R_elder' (by (with_reducible repeat (first | apply Kd.R_alloc | apply Kd.R_drewN | apply Kd.R_drew)); exact(Kd.R_mono (Kd.R_far (p:=⟨gb111,2,none⟩) (Kd.R_far (p:=⟨gb111,1,none⟩) (Kd.R_far (p:=⟨gb111,0,none⟩) (Kd.R_types HO106.out BK111.out (by decide)) (fun _ hk=>hk.2) (.bool t103)) (fun _ hk=>hk.2) (.slice Ao26 t104.length co26)) (fun _ hk=>hk.2) (.slice Ao27 t107.length co27)) (fun _ h_=>h_.1))) (Kd.R_base ho0) hb); have n1_:=Aside0.mk (Kd.R_elder' (by (with_reducible repeat (first | apply Kd.R_alloc | apply Kd.R_drewN | apply Kd.R_drew)); exact(Kd.R_mono (Kd.R_far (p:=⟨gb111,2,none⟩) (Kd.R_far (p:=⟨gb111,1,none⟩) (Kd.R_far (p:=⟨gb111,0,none⟩) (Kd.R_types HO109.out BK111.out (by decide)) (fun _ hk=>hk.2) (.bool t103)) (fun _ hk=>hk.2) (.slice Ao26 t104.length co26)) (fun _ hk=>hk.2) (.slice Ao27 t107.length co27)) (fun _ h_=>h_.1))) (Kd.R_base ho0) hb); have n2_:=Aside0.mk (Kd.R_lower (Kd.R_new' (Kd.R_new' ho0 (Kd.R_lt (by (with_reducible repeat (first | apply Kd.R_alloc | apply Kd.R_drewN | apply Kd.R_drew)); exact(Kd.R_mono (Kd.R_far (p:=⟨gb111,2,none⟩) (Kd.R_far (p:=⟨gb111,1,none⟩) (Kd.R_far (p:=⟨gb111,0,none⟩) (Kd.R_types HO106.out BK111.out (by decide)) (fun _ hk=>hk.2) (.bool t103)) (fun _ hk=>hk.2) (.slice Ao26 t104.length co26)) (fun _ hk=>hk.2) (.slice Ao27 t107.length co27)) (fun _ h_=>h_.1))))) (Kd.R_lt (by (with_reducible repeat (first | apply Kd.R_alloc | apply Kd.R_drewN | apply Kd.R_drew)); exact(Kd.R_mono (Kd.R_far (p:=⟨gb111,2,none⟩) (Kd.R_far (p:=⟨gb111,1,none⟩) (Kd.R_far (p:=⟨gb111,0,none⟩) (Kd.R_types HO109.out BK111.out (by decide)) (fun _ hk=>hk.2) (.bool t103)) (fun _ hk=>hk.2) (.slice Ao26 t104.length co26)) (fun _ hk=>hk.2) (.slice Ao27 t107.length co27)) (fun _ h_=>h_.1))))) (zbp (qb3 HB.out GE101.out GE102.out GE111.out))); have n3_:=Aside0.mk (zbr (g:=gb101) (o:=.cells #[.bool a0_0,.slice A0_1 l0_1.length c0_1,.slice A0_2 l0_2.length c0_2] 27 (0,0)) (by (with_reducible repeat (first | refine zbv ?_ _ | refine zbu ?_ | refine zbt ?_ _)); refine zbJ ?_ NB101_111.out _; (with_reducible repeat (first | refine zbv ?_ _ | refine zbu ?_ | refine zbt ?_ _)); refine zbJ ?_ NB101_111.out _; (with_reducible repeat (first | refine zbv ?_ _ | refine zbu ?_ | refine zbt ?_ _)); refine zbJ ?_ NB101_111.out _; (with_reducible repeat (first | refine zbv ?_ _ | refine zbu ?_ | refine zbt ?_ _)); exact BK101.out) hb); have n4_:=Aside0.mk (zbr (g:=gb102) (o:=.cells #[.bool false,.slice none 0 0,.slice none 0 0] 27 (0,0)) (by (with_reducible repeat (first | refine zbv ?_ _ | refine zbu ?_ | refine zbt ?_ _)); refine zbJ ?_ NB102_111.out _; (with_reducible repeat (first | refine zbv ?_ _ | refine zbu ?_ | refine zbt ?_ _)); refine zbJ ?_ NB102_111.out _; (with_reducible repeat (first | refine zbv ?_ _ | refine zbu ?_ | refine zbt ?_ _)); refine zbJ ?_ NB102_111.out _; (with_reducible repeat (first | refine zbv ?_ _ | refine zbu ?_ | refine zbt ?_ _)); exact BK102.out) hb); have n5_:=Aside0.mk (zbr (g:=gb111) (o:=.cells #[.bool t103,.slice Ao26 t104.length co26,.slice Ao27 t107.length co27] 27 (0,0)) (by (with_reducible repeat (first | refine zbv ?_ _ | refine zbu ?_ | refine zbt ?_ _)); refine zbF (cs:=#[.bool t103,.slice Ao26 t104.length co26,.slice none 0 0]) ?_ 2 _ rfl; (with_reducible repeat (first | refine zbv ?_ _ | refine zbu ?_ | refine zbt ?_ _)); refine zbF (cs:=#[.bool t103,.slice none 0 0,.slice none 0 0]) ?_ 1 _ rfl; (with_reducible repeat (first | refine zbv ?_ _ | refine zbu ?_ | refine zbt ?_ _)); refine zbF (cs:=#[.bool false,.slice none 0 0,.slice none 0 0]) ?_ 0 _ rfl; (with_reducible repeat (first | refine zbv ?_ _ | refine zbu ?_ | refine zbt ?_ _)); exact BK111.out) hb); have n6_:=Aside0.mk (zbm (qb3 HB.out GE101.out GE102.out GE111.out) hb); clear HO106; clear HO109; clear BK101; clear BK102; clear BK111; clear HB; have HO106:=n0_; have HO109:=n1_; have HO114:=n2_; have BK101:=n3_; have BK102:=n4_; have BK111:=n5_; have HB:=n6_; clear n0_ n1_ n2_ n3_ n4_ n5_ n6_; (try clear hb); (try clear hb2); (try clear hk); (try clear hi); (try clear ho0); obtain⟨Ao29,co29,eo29⟩:=Kd.R_slice HO114.out; subst eo29; obtain⟨hcz30_0,hcz30_1,hcz30_2,hfz30_0,hfz30_1,hfz30_2⟩:=qz BK102.out))
  refine bodyPost_ret (results_cell_row rfl _ _ gb102 27 #[.bool false,.slice none 0 0,.slice Ao29 t112.length co29] (0,0) _ rfl (by (with_reducible repeat (first | refine zbv ?_ _ | refine zbu ?_ | refine zbt ?_ _)); refine zbF (cs:=#[.bool false,.slice none 0 0,.slice none 0 0]) ?_ 2 _ rfl; (with_reducible repeat (first | refine zbv ?_ _ | refine zbu ?_ | refine zbt ?_ _)); refine zbF (cs:=#[.bool false,.slice none 0 0,.slice none 0 0]) ?_ 1 _ rfl; (with_reducible repeat (first | refine zbv ?_ _ | refine zbu ?_ | refine zbt ?_ _)); refine zbF (cs:=#[.bool false,.slice none 0 0,.slice none 0 0]) ?_ 0 _ rfl; (with_reducible repeat (first | refine zbv ?_ _ | refine zbu ?_ | refine zbt ?_ _)); exact BK102.out) Tryz.underlying27 rfl (by kernel_rfl)) rfl ?_
  exact⟨_,_,by first | rfl | (simp [zbx,zbw]<;>rfl) | (simp [*,zbx,zbw]<;>rfl),by first | exact Kd.R_nil _ _ _ _ _ | exact Kd.N_nil _ _ _ _ _ | exact Kd.V_nil _ _ _ _ _ | exact Kd.Q_nil _ _ _ _ _ | exact Kd.S_nil _ _ _ _ _,by (with_reducible repeat (first | apply Kd.R_alloc | apply Kd.R_drewN | apply Kd.R_drew)); exact Kd.R_mono (Kd.R_far (p:=⟨gb102,2,none⟩) (Kd.R_far (p:=⟨gb102,1,none⟩) (Kd.R_far (p:=⟨gb102,0,none⟩) (Kd.R_types HO114.out BK102.out (by decide)) (fun _ hk=>hk.2) (.bool false)) (fun _ hk=>hk.2) (.slice none 0 0)) (fun _ hk=>hk.2) (.slice Ao29 t112.length co29)) (fun _ hk=>(by simp [Value.ownBlock])),by repeat (first | (with_reducible first | exact HB.out | apply zbn | apply zbo | apply zbs | refine zbB ?_ GE101.out | refine zbB ?_ GE102.out | refine zbB ?_ GE111.out) | exact HB.out)⟩
def rat_May.f (a0_0:Bool) (l0_1:List Int) (l0_2:List Int):Option (Int):=(rat_Norm.f a0_0 l0_1 l0_2).bind fun bt116=>(if (bt116.1 != a0_0)=true then (some 6) else ((rat_limbs.f bt116.2.1 l0_1).bind fun t124=>(if t124=true then ((rat_limbs.f bt116.2.2 l0_2).bind fun t125=>(if t125=true then (some 0) else (some 6))) else (some 6))))
theorem rat_May.calls (a0_0:Bool) (A0_1:Option Addr) (c0_1:Nat) (l0_1:List Int) (A0_2:Option Addr) (c0_2:Nat) (l0_2:List Int) (r:Int) (w:World) (hr0_1:Kd.C (Kd.int .u32) w A0_1 l0_1.length l0_1) (hc0_1:l0_1.length≤c0_1) (hr0_2:Kd.C (Kd.int .u32) w A0_2 l0_2.length l0_2) (hc0_2:l0_2.length≤c0_2) (h:rat_May.f a0_0 l0_1 l0_2=some r) :
  Calls Tryz.prog 88 #[.agg #[.bool a0_0,.slice A0_1 l0_1.length c0_1,.slice A0_2 l0_2.length c0_2]] w fun e w'=>e=.returned (.int .i64 r)∧Below w.heap.size w w':=by
 have hu27:=Tryz.underlying27
 have HR0_1:=Aside0.mk hr0_1
 have HC0_1:=Aside0.mk hc0_1
 clear hr0_1 hc0_1
 have HR0_2:=Aside0.mk hr0_2
 have HC0_2:=Aside0.mk hc0_2
 clear hr0_2 hc0_2
 have HB:=Aside0.mk (Below.refl w.heap.size w)
 have H:((rat_Norm.f a0_0 l0_1 l0_2).bind fun bt116=>(if (bt116.1 != a0_0)=true then (some 6) else ((rat_limbs.f bt116.2.1 l0_1).bind fun t124=>(if t124=true then ((rat_limbs.f bt116.2.2 l0_2).bind fun t125=>(if t125=true then (some 0) else (some 6))) else (some 6)))))=some r:=h
 clear h
 replace H:=Option.bind_eq_some_iff.mp H
 obtain⟨⟨t116,t117,t120⟩,A20,H⟩:=H
 replace H:(if (t116 != a0_0)=true then (some 6) else ((rat_limbs.f t117 l0_1).bind fun t124=>(if t124=true then ((rat_limbs.f t120 l0_2).bind fun t125=>(if t125=true then (some 0) else (some 6))) else (some 6))))=some r:=H
 have A2:=Aside0.mk A20
 clear A20
 by_cases c3:(t116 != a0_0)=true
 ·
  rw [if_pos c3] at H
  have c3b0:(t116 != a0_0)=true:=c3
  (try (have c3b1:decide (t116=a0_0)=false:=by simpa using c3))
  (try (have c3b2:(t116 == a0_0)=false:=by simpa using c3))
  (try (have c3b3:¬ (t116=a0_0):=by simpa using c3))
  clear c3
  obtain rfl:=Option.some.inj H
  go_enter Tryz.func88,Tryz.ntmps88
  go_wp2_with (first | ((with_reducible refine zbD (N:=1) rfl ?_); refine zbC ?hg (N:=1) ?hd (cs:=#[.bool a0_0,.slice A0_1 l0_1.length c0_1,.slice A0_2 l0_2.length c0_2]) (t:=27) ?hr ?_; (case hd=>rfl); (case hg=>rfl); (case hr=>first | (go_simp; done) | (go_simp; rfl)); intro gb115 hg w4 hbox hb; have n0_:=Aside0.mk (zbm (qb HB.out) hb); have n1_:=Aside0.mk (hbox); have n2_:=Aside0.mk ((by rw [hg]; exact(zbp (qb HB.out)):w.heap.size≤gb115)); have n3_:=Aside0.mk ((by rw [hg]; exact(zbp (qb HB.out)):w.heap.size≤gb115)); clear HB; have HB:=n0_; have BK115:=n1_; have GW115:=n2_; have GE115:=n3_; clear n0_ n1_ n2_ n3_; clear hb hbox hg; obtain⟨hcz5_0,hcz5_1,hcz5_2,hfz5_0,hfz5_1,hfz5_2⟩:=qz BK115.out) | ((with_reducible refine zbz (f:=85) rfl ?_); refine zbK (some 5) rfl rfl Tryz.func85 (by kernel_rfl) rfl #[.agg #[.bool a0_0,.slice A0_1 l0_1.length c0_1,.slice A0_2 l0_2.length c0_2]] rfl (by (try simp only [List.map_toArray,List.map_cons,List.map_nil]); first | done | rfl | (simp only [List.length_drop,List.length_take]; rfl)) ?_; (with_reducible refine(rat_Norm.calls a0_0 _ _ l0_1 _ _ l0_2 t116 t117 t120 _ ?side1 ?side2 ?side3 ?side4 A2.out).mono ?_); (case side1=>exact qc (Kd.C_below HR0_1.out HB.out)); (case side2=>exact HC0_1.out); (case side3=>exact qc (Kd.C_below HR0_2.out HB.out)); (case side4=>exact HC0_2.out); rintro e w6 ⟨v118,v121,rfl,ho0,ho1,hb⟩; refine⟨_,rfl,?_⟩; have n0_:=Aside0.mk (Kd.R_lower ho0 (zbp (qb1 HB.out GE115.out))); have n1_:=Aside0.mk (Kd.R_lower ho1 (zbp (qb1 HB.out GE115.out))); have n2_:=Aside0.mk (zbr (g:=gb115) (o:=.cells #[.bool a0_0,.slice A0_1 l0_1.length c0_1,.slice A0_2 l0_2.length c0_2] 27 (0,0)) (qk BK115.out) hb); have n3_:=Aside0.mk (zbm (qb1 HB.out GE115.out) hb); clear BK115; clear HB; have HO119:=n0_; have HO122:=n1_; have BK115:=n2_; have HB:=n3_; clear n0_ n1_ n2_ n3_; (try clear hb); (try clear hb2); (try clear hk); (try clear hi); (try clear ho0); (try clear ho1)) | ((with_reducible refine zbD (N:=3) rfl ?_); refine zbC ?hg (N:=3) ?hd (cs:=#[.bool false,.slice none 0 0,.slice none 0 0]) (t:=27) ?hr ?_; (case hd=>rfl); (case hg=>rfl); (case hr=>first | (go_simp; done) | (go_simp; rfl)); intro gb123 hg w7 hbox hb; have n0_:=Aside0.mk (Kd.R_below (qr HO119.out) hb); have n1_:=Aside0.mk (Kd.R_below (qr HO122.out) hb); have n2_:=Aside0.mk (zbr (g:=gb115) (o:=.cells #[.bool a0_0,.slice A0_1 l0_1.length c0_1,.slice A0_2 l0_2.length c0_2] 27 (0,0)) (qk BK115.out) hb); have n3_:=Aside0.mk (zbm (qb1 HB.out GE115.out) hb); have n4_:=Aside0.mk (hbox); have n5_:=Aside0.mk ((by rw [hg]; exact(zbp (qb1 HB.out GE115.out)):w.heap.size≤gb123)); have n6_:=Aside0.mk ((by rw [hg]; exact(zbp (qb1 HB.out GE115.out)):w.heap.size≤gb123)); have n7_:=Aside0.mk ((by rw [hg]; exact Nat.ne_of_lt (zbL (g:=gb115) (o:=.cells #[.bool a0_0,.slice A0_1 l0_1.length c0_1,.slice A0_2 l0_2.length c0_2] 27 (0,0)) (qk BK115.out)):gb115≠gb123)); have n8_:=Aside0.mk ((by rw [hg]; exact Nat.ne_of_gt (zbL (g:=gb115) (o:=.cells #[.bool a0_0,.slice A0_1 l0_1.length c0_1,.slice A0_2 l0_2.length c0_2] 27 (0,0)) (qk BK115.out)):gb123≠gb115)); clear HO119; clear HO122; clear BK115; clear HB; have HO119:=n0_; have HO122:=n1_; have BK115:=n2_; have HB:=n3_; have BK123:=n4_; have GW123:=n5_; have GE123:=n6_; have NB115_123:=n7_; have NB123_115:=n8_; clear n0_ n1_ n2_ n3_ n4_ n5_ n6_ n7_ n8_; clear hb hbox hg; have hnb8:=NB123_115.out; have hnc8:=NB115_123.out; obtain⟨hcz9_0,hcz9_1,hcz9_2,hfz9_0,hfz9_1,hfz9_2⟩:=qz BK123.out; obtain⟨Ao10,co10,eo10⟩:=Kd.R_slice HO119.out; subst eo10; obtain⟨Ao11,co11,eo11⟩:=Kd.R_slice HO122.out; subst eo11; obtain⟨hcz12_0,hcz12_1,hcz12_2,hfz12_0,hfz12_1,hfz12_2⟩:=qz BK115.out))
  go_ret
  exact⟨by first | rfl | (simp [zbx,zbw]<;>rfl) | (simp [*,zbx,zbw]<;>rfl),by repeat (first | (with_reducible first | exact HB.out | apply zbn | apply zbo | apply zbs | refine zbB ?_ GE115.out | refine zbB ?_ GE123.out) | exact HB.out)⟩
 ·
  rw [if_neg c3] at H
  have c3b0:(t116 != a0_0)=false:=by simpa using c3
  (try (have c3b1:decide (t116=a0_0)=true:=by simpa using c3))
  (try (have c3b2:(t116 == a0_0)=true:=by simpa using c3))
  clear c3
  replace H:=Option.bind_eq_some_iff.mp H
  obtain⟨t124,A130,H⟩:=H
  replace H:(if t124=true then ((rat_limbs.f t120 l0_2).bind fun t125=>(if t125=true then (some 0) else (some 6))) else (some 6))=some r:=H
  have A13:=Aside0.mk A130
  clear A130
  by_cases c14:t124=true
  ·
   subst c14
   have H1:((rat_limbs.f t120 l0_2).bind fun t125=>(if t125=true then (some 0) else (some 6)))=some r:=by rw [if_pos rfl] at H; exact H
   clear H
   have H:=H1
   clear H1
   replace H:=Option.bind_eq_some_iff.mp H
   obtain⟨t125,A150,H⟩:=H
   replace H:(if t125=true then (some 0) else (some 6))=some r:=H
   have A15:=Aside0.mk A150
   clear A150
   by_cases c16:t125=true
   ·
    subst c16
    have H1:(some 0)=some r:=by rw [if_pos rfl] at H; exact H
    clear H
    have H:=H1
    clear H1
    obtain rfl:=Option.some.inj H
    go_enter Tryz.func88,Tryz.ntmps88
    go_wp2_with (first | ((with_reducible refine zbD (N:=1) rfl ?_); refine zbC ?hg (N:=1) ?hd (cs:=#[.bool a0_0,.slice A0_1 l0_1.length c0_1,.slice A0_2 l0_2.length c0_2]) (t:=27) ?hr ?_; (case hd=>rfl); (case hg=>rfl); (case hr=>first | (go_simp; done) | (go_simp; rfl)); intro gb115 hg w17 hbox hb; have n0_:=Aside0.mk (zbm (qb HB.out) hb); have n1_:=Aside0.mk (hbox); have n2_:=Aside0.mk ((by rw [hg]; exact(zbp (qb HB.out)):w.heap.size≤gb115)); have n3_:=Aside0.mk ((by rw [hg]; exact(zbp (qb HB.out)):w.heap.size≤gb115)); clear HB; have HB:=n0_; have BK115:=n1_; have GW115:=n2_; have GE115:=n3_; clear n0_ n1_ n2_ n3_; clear hb hbox hg; obtain⟨hcz18_0,hcz18_1,hcz18_2,hfz18_0,hfz18_1,hfz18_2⟩:=qz BK115.out) | ((with_reducible refine zbz (f:=85) rfl ?_); refine zbK (some 5) rfl rfl Tryz.func85 (by kernel_rfl) rfl #[.agg #[.bool a0_0,.slice A0_1 l0_1.length c0_1,.slice A0_2 l0_2.length c0_2]] rfl (by (try simp only [List.map_toArray,List.map_cons,List.map_nil]); first | done | rfl | (simp only [List.length_drop,List.length_take]; rfl)) ?_; (with_reducible refine(rat_Norm.calls a0_0 _ _ l0_1 _ _ l0_2 t116 t117 t120 _ ?side1 ?side2 ?side3 ?side4 A2.out).mono ?_); (case side1=>exact qc (Kd.C_below HR0_1.out HB.out)); (case side2=>exact HC0_1.out); (case side3=>exact qc (Kd.C_below HR0_2.out HB.out)); (case side4=>exact HC0_2.out); rintro e w19 ⟨v118,v121,rfl,ho0,ho1,hb⟩; refine⟨_,rfl,?_⟩; have n0_:=Aside0.mk (Kd.R_lower ho0 (zbp (qb1 HB.out GE115.out))); have n1_:=Aside0.mk (Kd.R_lower ho1 (zbp (qb1 HB.out GE115.out))); have n2_:=Aside0.mk (zbr (g:=gb115) (o:=.cells #[.bool a0_0,.slice A0_1 l0_1.length c0_1,.slice A0_2 l0_2.length c0_2] 27 (0,0)) (qk BK115.out) hb); have n3_:=Aside0.mk (zbm (qb1 HB.out GE115.out) hb); clear BK115; clear HB; have HO119:=n0_; have HO122:=n1_; have BK115:=n2_; have HB:=n3_; clear n0_ n1_ n2_ n3_; (try clear hb); (try clear hb2); (try clear hk); (try clear hi); (try clear ho0); (try clear ho1)) | ((with_reducible refine zbD (N:=3) rfl ?_); refine zbC ?hg (N:=3) ?hd (cs:=#[.bool false,.slice none 0 0,.slice none 0 0]) (t:=27) ?hr ?_; (case hd=>rfl); (case hg=>rfl); (case hr=>first | (go_simp; done) | (go_simp; rfl)); intro gb123 hg w20 hbox hb; have n0_:=Aside0.mk (Kd.R_below (qr HO119.out) hb); have n1_:=Aside0.mk (Kd.R_below (qr HO122.out) hb); have n2_:=Aside0.mk (zbr (g:=gb115) (o:=.cells #[.bool a0_0,.slice A0_1 l0_1.length c0_1,.slice A0_2 l0_2.length c0_2] 27 (0,0)) (qk BK115.out) hb); have n3_:=Aside0.mk (zbm (qb1 HB.out GE115.out) hb); have n4_:=Aside0.mk (hbox); have n5_:=Aside0.mk ((by rw [hg]; exact(zbp (qb1 HB.out GE115.out)):w.heap.size≤gb123)); have n6_:=Aside0.mk ((by rw [hg]; exact(zbp (qb1 HB.out GE115.out)):w.heap.size≤gb123)); have n7_:=Aside0.mk ((by rw [hg]; exact Nat.ne_of_lt (zbL (g:=gb115) (o:=.cells #[.bool a0_0,.slice A0_1 l0_1.length c0_1,.slice A0_2 l0_2.length c0_2] 27 (0,0)) (qk BK115.out)):gb115≠gb123)); have n8_:=Aside0.mk ((by rw [hg]; exact Nat.ne_of_gt (zbL (g:=gb115) (o:=.cells #[.bool a0_0,.slice A0_1 l0_1.length c0_1,.slice A0_2 l0_2.length c0_2] 27 (0,0)) (qk BK115.out)):gb123≠gb115)); clear HO119; clear HO122; clear BK115; clear HB; have HO119:=n0_; have HO122:=n1_; have BK115:=n2_; have HB:=n3_; have BK123:=n4_; have GW123:=n5_; have GE123:=n6_; have NB115_123:=n7_; have NB123_115:=n8_; clear n0_ n1_ n2_ n3_ n4_ n5_ n6_ n7_ n8_; clear hb hbox hg; have hnb21:=NB123_115.out; have hnc21:=NB115_123.out; obtain⟨hcz22_0,hcz22_1,hcz22_2,hfz22_0,hfz22_1,hfz22_2⟩:=qz BK123.out; obtain⟨Ao23,co23,eo23⟩:=Kd.R_slice HO119.out; subst eo23; obtain⟨Ao24,co24,eo24⟩:=Kd.R_slice HO122.out; subst eo24; obtain⟨hcz25_0,hcz25_1,hcz25_2,hfz25_0,hfz25_1,hfz25_2⟩:=qz BK115.out) | (go_at_call 135; (with_reducible refine(rat_limbs.calls _ _ t117 _ _ l0_1 true _ ?side1 ?side2 ?side3 ?side4 A13.out).mono ?_); (case side1=>refine(Kd.R_reads' (e:=81) (base:=w.heap.size) (ok:=fun k_=>some k_≠(.slice Ao24 t120.length co24:Value).ownBlock) (n:=t117.length) (c:=co23) ?_).2.2; exact(by (with_reducible repeat (first | apply Kd.R_alloc | apply Kd.R_drewN | apply Kd.R_drew)); exact(Kd.R_mono (Kd.R_far (p:=⟨gb123,2,none⟩) (Kd.R_far (p:=⟨gb123,1,none⟩) (Kd.R_far (p:=⟨gb123,0,none⟩) (Kd.R_types HO119.out BK123.out (by decide)) (fun _ hk=>hk.2) (.bool t116)) (fun _ hk=>hk.2) (.slice Ao23 t117.length co23)) (fun _ hk=>hk.2) (.slice Ao24 t120.length co24)) (fun _ h_=>h_.1)))); (case side2=>exact(Kd.R_reads' HO119.out).2.1); (case side3=>exact Kd.C_below HR0_1.out (qb2 HB.out GE115.out GE123.out)); (case side4=>exact HC0_1.out); rintro e w26 ⟨rfl,hb⟩; have n0_:=Aside0.mk (Kd.R_below (by (with_reducible repeat (first | apply Kd.R_alloc | apply Kd.R_drewN | apply Kd.R_drew)); exact(Kd.R_mono (Kd.R_far (p:=⟨gb123,2,none⟩) (Kd.R_far (p:=⟨gb123,1,none⟩) (Kd.R_far (p:=⟨gb123,0,none⟩) (Kd.R_types HO119.out BK123.out (by decide)) (fun _ hk=>hk.2) (.bool t116)) (fun _ hk=>hk.2) (.slice Ao23 t117.length co23)) (fun _ hk=>hk.2) (.slice Ao24 t120.length co24)) (fun _ h_=>h_.1))) hb); have n1_:=Aside0.mk (Kd.R_below (by (with_reducible repeat (first | apply Kd.R_alloc | apply Kd.R_drewN | apply Kd.R_drew)); exact(Kd.R_mono (Kd.R_far (p:=⟨gb123,2,none⟩) (Kd.R_far (p:=⟨gb123,1,none⟩) (Kd.R_far (p:=⟨gb123,0,none⟩) (Kd.R_types HO122.out BK123.out (by decide)) (fun _ hk=>hk.2) (.bool t116)) (fun _ hk=>hk.2) (.slice Ao23 t117.length co23)) (fun _ hk=>hk.2) (.slice Ao24 t120.length co24)) (fun _ h_=>h_.1))) hb); have n2_:=Aside0.mk (zbr (g:=gb115) (o:=.cells #[.bool a0_0,.slice A0_1 l0_1.length c0_1,.slice A0_2 l0_2.length c0_2] 27 (0,0)) (by (with_reducible repeat (first | refine zbv ?_ _ | refine zbu ?_ | refine zbt ?_ _)); refine zbJ ?_ NB115_123.out _; (with_reducible repeat (first | refine zbv ?_ _ | refine zbu ?_ | refine zbt ?_ _)); refine zbJ ?_ NB115_123.out _; (with_reducible repeat (first | refine zbv ?_ _ | refine zbu ?_ | refine zbt ?_ _)); refine zbJ ?_ NB115_123.out _; (with_reducible repeat (first | refine zbv ?_ _ | refine zbu ?_ | refine zbt ?_ _)); exact BK115.out) hb); have n3_:=Aside0.mk (zbr (g:=gb123) (o:=.cells #[.bool t116,.slice Ao23 t117.length co23,.slice Ao24 t120.length co24] 27 (0,0)) (by (with_reducible repeat (first | refine zbv ?_ _ | refine zbu ?_ | refine zbt ?_ _)); refine zbF (cs:=#[.bool t116,.slice Ao23 t117.length co23,.slice none 0 0]) ?_ 2 _ rfl; (with_reducible repeat (first | refine zbv ?_ _ | refine zbu ?_ | refine zbt ?_ _)); refine zbF (cs:=#[.bool t116,.slice none 0 0,.slice none 0 0]) ?_ 1 _ rfl; (with_reducible repeat (first | refine zbv ?_ _ | refine zbu ?_ | refine zbt ?_ _)); refine zbF (cs:=#[.bool false,.slice none 0 0,.slice none 0 0]) ?_ 0 _ rfl; (with_reducible repeat (first | refine zbv ?_ _ | refine zbu ?_ | refine zbt ?_ _)); exact BK123.out) hb); have n4_:=Aside0.mk (zbm (qb2 HB.out GE115.out GE123.out) hb); clear HO119; clear HO122; clear BK115; clear BK123; clear HB; have HO119:=n0_; have HO122:=n1_; have BK115:=n2_; have BK123:=n3_; have HB:=n4_; clear n0_ n1_ n2_ n3_ n4_; (try clear hb); (try clear hb2); (try clear hk); (try clear hi); obtain⟨hcz27_0,hcz27_1,hcz27_2,hfz27_0,hfz27_1,hfz27_2⟩:=qz BK123.out; obtain⟨hcz28_0,hcz28_1,hcz28_2,hfz28_0,hfz28_1,hfz28_2⟩:=qz BK115.out) | (go_at_call 135; (with_reducible refine(rat_limbs.calls _ _ t120 _ _ l0_2 true _ ?side1 ?side2 ?side3 ?side4 A15.out).mono ?_); (case side1=>exact qc (Kd.R_reads' HO122.out).2.2); (case side2=>exact(Kd.R_reads' HO122.out).2.1); (case side3=>exact qc (Kd.C_below HR0_2.out HB.out)); (case side4=>exact HC0_2.out); rintro e w29 ⟨rfl,hb⟩; have n0_:=Aside0.mk (Kd.R_below (qr HO119.out) hb); have n1_:=Aside0.mk (Kd.R_below (qr HO122.out) hb); have n2_:=Aside0.mk (zbr (g:=gb115) (o:=.cells #[.bool a0_0,.slice A0_1 l0_1.length c0_1,.slice A0_2 l0_2.length c0_2] 27 (0,0)) (qk BK115.out) hb); have n3_:=Aside0.mk (zbr (g:=gb123) (o:=.cells #[.bool t116,.slice Ao23 t117.length co23,.slice Ao24 t120.length co24] 27 (0,0)) (qk BK123.out) hb); have n4_:=Aside0.mk (zbm (qb2 HB.out GE115.out GE123.out) hb); clear HO119; clear HO122; clear BK115; clear BK123; clear HB; have HO119:=n0_; have HO122:=n1_; have BK115:=n2_; have BK123:=n3_; have HB:=n4_; clear n0_ n1_ n2_ n3_ n4_; (try clear hb); (try clear hb2); (try clear hk); (try clear hi)))
    go_ret
    exact⟨by first | rfl | (simp [zbx,zbw]<;>rfl) | (simp [*,zbx,zbw]<;>rfl),by repeat (first | (with_reducible first | exact HB.out | apply zbn | apply zbo | apply zbs | refine zbB ?_ GE115.out | refine zbB ?_ GE123.out) | exact HB.out)⟩
   ·
    replace c16:=Bool.eq_false_iff.mpr c16
    subst c16
    have H1:(some 6)=some r:=by rw [if_neg (show ¬ (false=true) by decide)] at H; exact H
    clear H
    have H:=H1
    clear H1
    obtain rfl:=Option.some.inj H
    go_enter Tryz.func88,Tryz.ntmps88
    go_wp2_with (first | ((with_reducible refine zbD (N:=1) rfl ?_); refine zbC ?hg (N:=1) ?hd (cs:=#[.bool a0_0,.slice A0_1 l0_1.length c0_1,.slice A0_2 l0_2.length c0_2]) (t:=27) ?hr ?_; (case hd=>rfl); (case hg=>rfl); (case hr=>first | (go_simp; done) | (go_simp; rfl)); intro gb115 hg w30 hbox hb; have n0_:=Aside0.mk (zbm (qb HB.out) hb); have n1_:=Aside0.mk (hbox); have n2_:=Aside0.mk ((by rw [hg]; exact(zbp (qb HB.out)):w.heap.size≤gb115)); have n3_:=Aside0.mk ((by rw [hg]; exact(zbp (qb HB.out)):w.heap.size≤gb115)); clear HB; have HB:=n0_; have BK115:=n1_; have GW115:=n2_; have GE115:=n3_; clear n0_ n1_ n2_ n3_; clear hb hbox hg; obtain⟨hcz31_0,hcz31_1,hcz31_2,hfz31_0,hfz31_1,hfz31_2⟩:=qz BK115.out) | ((with_reducible refine zbz (f:=85) rfl ?_); refine zbK (some 5) rfl rfl Tryz.func85 (by kernel_rfl) rfl #[.agg #[.bool a0_0,.slice A0_1 l0_1.length c0_1,.slice A0_2 l0_2.length c0_2]] rfl (by (try simp only [List.map_toArray,List.map_cons,List.map_nil]); first | done | rfl | (simp only [List.length_drop,List.length_take]; rfl)) ?_; (with_reducible refine(rat_Norm.calls a0_0 _ _ l0_1 _ _ l0_2 t116 t117 t120 _ ?side1 ?side2 ?side3 ?side4 A2.out).mono ?_); (case side1=>exact qc (Kd.C_below HR0_1.out HB.out)); (case side2=>exact HC0_1.out); (case side3=>exact qc (Kd.C_below HR0_2.out HB.out)); (case side4=>exact HC0_2.out); rintro e w32 ⟨v118,v121,rfl,ho0,ho1,hb⟩; refine⟨_,rfl,?_⟩; have n0_:=Aside0.mk (Kd.R_lower ho0 (zbp (qb1 HB.out GE115.out))); have n1_:=Aside0.mk (Kd.R_lower ho1 (zbp (qb1 HB.out GE115.out))); have n2_:=Aside0.mk (zbr (g:=gb115) (o:=.cells #[.bool a0_0,.slice A0_1 l0_1.length c0_1,.slice A0_2 l0_2.length c0_2] 27 (0,0)) (qk BK115.out) hb); have n3_:=Aside0.mk (zbm (qb1 HB.out GE115.out) hb); clear BK115; clear HB; have HO119:=n0_; have HO122:=n1_; have BK115:=n2_; have HB:=n3_; clear n0_ n1_ n2_ n3_; (try clear hb); (try clear hb2); (try clear hk); (try clear hi); (try clear ho0); (try clear ho1)) | ((with_reducible refine zbD (N:=3) rfl ?_); refine zbC ?hg (N:=3) ?hd (cs:=#[.bool false,.slice none 0 0,.slice none 0 0]) (t:=27) ?hr ?_; (case hd=>rfl); (case hg=>rfl); (case hr=>first | (go_simp; done) | (go_simp; rfl)); intro gb123 hg w33 hbox hb; have n0_:=Aside0.mk (Kd.R_below (qr HO119.out) hb); have n1_:=Aside0.mk (Kd.R_below (qr HO122.out) hb); have n2_:=Aside0.mk (zbr (g:=gb115) (o:=.cells #[.bool a0_0,.slice A0_1 l0_1.length c0_1,.slice A0_2 l0_2.length c0_2] 27 (0,0)) (qk BK115.out) hb); have n3_:=Aside0.mk (zbm (qb1 HB.out GE115.out) hb); have n4_:=Aside0.mk (hbox); have n5_:=Aside0.mk ((by rw [hg]; exact(zbp (qb1 HB.out GE115.out)):w.heap.size≤gb123)); have n6_:=Aside0.mk ((by rw [hg]; exact(zbp (qb1 HB.out GE115.out)):w.heap.size≤gb123)); have n7_:=Aside0.mk ((by rw [hg]; exact Nat.ne_of_lt (zbL (g:=gb115) (o:=.cells #[.bool a0_0,.slice A0_1 l0_1.length c0_1,.slice A0_2 l0_2.length c0_2] 27 (0,0)) (qk BK115.out)):gb115≠gb123)); have n8_:=Aside0.mk ((by rw [hg]; exact Nat.ne_of_gt (zbL (g:=gb115) (o:=.cells #[.bool a0_0,.slice A0_1 l0_1.length c0_1,.slice A0_2 l0_2.length c0_2] 27 (0,0)) (qk BK115.out)):gb123≠gb115)); clear HO119; clear HO122; clear BK115; clear HB; have HO119:=n0_; have HO122:=n1_; have BK115:=n2_; have HB:=n3_; have BK123:=n4_; have GW123:=n5_; have GE123:=n6_; have NB115_123:=n7_; have NB123_115:=n8_; clear n0_ n1_ n2_ n3_ n4_ n5_ n6_ n7_ n8_; clear hb hbox hg; have hnb34:=NB123_115.out; have hnc34:=NB115_123.out; obtain⟨hcz35_0,hcz35_1,hcz35_2,hfz35_0,hfz35_1,hfz35_2⟩:=qz BK123.out; obtain⟨Ao36,co36,eo36⟩:=Kd.R_slice HO119.out; subst eo36; obtain⟨Ao37,co37,eo37⟩:=Kd.R_slice HO122.out; subst eo37; obtain⟨hcz38_0,hcz38_1,hcz38_2,hfz38_0,hfz38_1,hfz38_2⟩:=qz BK115.out) | (go_at_call 135; (with_reducible refine(rat_limbs.calls _ _ t117 _ _ l0_1 true _ ?side1 ?side2 ?side3 ?side4 A13.out).mono ?_); (case side1=>refine(Kd.R_reads' (e:=81) (base:=w.heap.size) (ok:=fun k_=>some k_≠(.slice Ao37 t120.length co37:Value).ownBlock) (n:=t117.length) (c:=co36) ?_).2.2; exact(by (with_reducible repeat (first | apply Kd.R_alloc | apply Kd.R_drewN | apply Kd.R_drew)); exact(Kd.R_mono (Kd.R_far (p:=⟨gb123,2,none⟩) (Kd.R_far (p:=⟨gb123,1,none⟩) (Kd.R_far (p:=⟨gb123,0,none⟩) (Kd.R_types HO119.out BK123.out (by decide)) (fun _ hk=>hk.2) (.bool t116)) (fun _ hk=>hk.2) (.slice Ao36 t117.length co36)) (fun _ hk=>hk.2) (.slice Ao37 t120.length co37)) (fun _ h_=>h_.1)))); (case side2=>exact(Kd.R_reads' HO119.out).2.1); (case side3=>exact Kd.C_below HR0_1.out (qb2 HB.out GE115.out GE123.out)); (case side4=>exact HC0_1.out); rintro e w39 ⟨rfl,hb⟩; have n0_:=Aside0.mk (Kd.R_below (by (with_reducible repeat (first | apply Kd.R_alloc | apply Kd.R_drewN | apply Kd.R_drew)); exact(Kd.R_mono (Kd.R_far (p:=⟨gb123,2,none⟩) (Kd.R_far (p:=⟨gb123,1,none⟩) (Kd.R_far (p:=⟨gb123,0,none⟩) (Kd.R_types HO119.out BK123.out (by decide)) (fun _ hk=>hk.2) (.bool t116)) (fun _ hk=>hk.2) (.slice Ao36 t117.length co36)) (fun _ hk=>hk.2) (.slice Ao37 t120.length co37)) (fun _ h_=>h_.1))) hb); have n1_:=Aside0.mk (Kd.R_below (by (with_reducible repeat (first | apply Kd.R_alloc | apply Kd.R_drewN | apply Kd.R_drew)); exact(Kd.R_mono (Kd.R_far (p:=⟨gb123,2,none⟩) (Kd.R_far (p:=⟨gb123,1,none⟩) (Kd.R_far (p:=⟨gb123,0,none⟩) (Kd.R_types HO122.out BK123.out (by decide)) (fun _ hk=>hk.2) (.bool t116)) (fun _ hk=>hk.2) (.slice Ao36 t117.length co36)) (fun _ hk=>hk.2) (.slice Ao37 t120.length co37)) (fun _ h_=>h_.1))) hb); have n2_:=Aside0.mk (zbr (g:=gb115) (o:=.cells #[.bool a0_0,.slice A0_1 l0_1.length c0_1,.slice A0_2 l0_2.length c0_2] 27 (0,0)) (by (with_reducible repeat (first | refine zbv ?_ _ | refine zbu ?_ | refine zbt ?_ _)); refine zbJ ?_ NB115_123.out _; (with_reducible repeat (first | refine zbv ?_ _ | refine zbu ?_ | refine zbt ?_ _)); refine zbJ ?_ NB115_123.out _; (with_reducible repeat (first | refine zbv ?_ _ | refine zbu ?_ | refine zbt ?_ _)); refine zbJ ?_ NB115_123.out _; (with_reducible repeat (first | refine zbv ?_ _ | refine zbu ?_ | refine zbt ?_ _)); exact BK115.out) hb); have n3_:=Aside0.mk (zbr (g:=gb123) (o:=.cells #[.bool t116,.slice Ao36 t117.length co36,.slice Ao37 t120.length co37] 27 (0,0)) (by (with_reducible repeat (first | refine zbv ?_ _ | refine zbu ?_ | refine zbt ?_ _)); refine zbF (cs:=#[.bool t116,.slice Ao36 t117.length co36,.slice none 0 0]) ?_ 2 _ rfl; (with_reducible repeat (first | refine zbv ?_ _ | refine zbu ?_ | refine zbt ?_ _)); refine zbF (cs:=#[.bool t116,.slice none 0 0,.slice none 0 0]) ?_ 1 _ rfl; (with_reducible repeat (first | refine zbv ?_ _ | refine zbu ?_ | refine zbt ?_ _)); refine zbF (cs:=#[.bool false,.slice none 0 0,.slice none 0 0]) ?_ 0 _ rfl; (with_reducible repeat (first | refine zbv ?_ _ | refine zbu ?_ | refine zbt ?_ _)); exact BK123.out) hb); have n4_:=Aside0.mk (zbm (qb2 HB.out GE115.out GE123.out) hb); clear HO119; clear HO122; clear BK115; clear BK123; clear HB; have HO119:=n0_; have HO122:=n1_; have BK115:=n2_; have BK123:=n3_; have HB:=n4_; clear n0_ n1_ n2_ n3_ n4_; (try clear hb); (try clear hb2); (try clear hk); (try clear hi); obtain⟨hcz40_0,hcz40_1,hcz40_2,hfz40_0,hfz40_1,hfz40_2⟩:=qz BK123.out; obtain⟨hcz41_0,hcz41_1,hcz41_2,hfz41_0,hfz41_1,hfz41_2⟩:=qz BK115.out) | (go_at_call 135; (with_reducible refine(rat_limbs.calls _ _ t120 _ _ l0_2 false _ ?side1 ?side2 ?side3 ?side4 A15.out).mono ?_); (case side1=>exact qc (Kd.R_reads' HO122.out).2.2); (case side2=>exact(Kd.R_reads' HO122.out).2.1); (case side3=>exact qc (Kd.C_below HR0_2.out HB.out)); (case side4=>exact HC0_2.out); rintro e w42 ⟨rfl,hb⟩; have n0_:=Aside0.mk (Kd.R_below (qr HO119.out) hb); have n1_:=Aside0.mk (Kd.R_below (qr HO122.out) hb); have n2_:=Aside0.mk (zbr (g:=gb115) (o:=.cells #[.bool a0_0,.slice A0_1 l0_1.length c0_1,.slice A0_2 l0_2.length c0_2] 27 (0,0)) (qk BK115.out) hb); have n3_:=Aside0.mk (zbr (g:=gb123) (o:=.cells #[.bool t116,.slice Ao36 t117.length co36,.slice Ao37 t120.length co37] 27 (0,0)) (qk BK123.out) hb); have n4_:=Aside0.mk (zbm (qb2 HB.out GE115.out GE123.out) hb); clear HO119; clear HO122; clear BK115; clear BK123; clear HB; have HO119:=n0_; have HO122:=n1_; have BK115:=n2_; have BK123:=n3_; have HB:=n4_; clear n0_ n1_ n2_ n3_ n4_; (try clear hb); (try clear hb2); (try clear hk); (try clear hi)))
    go_ret
    exact⟨by first | rfl | (simp [zbx,zbw]<;>rfl) | (simp [*,zbx,zbw]<;>rfl),by repeat (first | (with_reducible first | exact HB.out | apply zbn | apply zbo | apply zbs | refine zbB ?_ GE115.out | refine zbB ?_ GE123.out) | exact HB.out)⟩
  ·
   replace c14:=Bool.eq_false_iff.mpr c14
   subst c14
   have H1:(some 6)=some r:=by rw [if_neg (show ¬ (false=true) by decide)] at H; exact H
   clear H
   have H:=H1
   clear H1
   obtain rfl:=Option.some.inj H
   go_enter Tryz.func88,Tryz.ntmps88
   go_wp2_with (first | ((with_reducible refine zbD (N:=1) rfl ?_); refine zbC ?hg (N:=1) ?hd (cs:=#[.bool a0_0,.slice A0_1 l0_1.length c0_1,.slice A0_2 l0_2.length c0_2]) (t:=27) ?hr ?_; (case hd=>rfl); (case hg=>rfl); (case hr=>first | (go_simp; done) | (go_simp; rfl)); intro gb115 hg w43 hbox hb; have n0_:=Aside0.mk (zbm (qb HB.out) hb); have n1_:=Aside0.mk (hbox); have n2_:=Aside0.mk ((by rw [hg]; exact(zbp (qb HB.out)):w.heap.size≤gb115)); have n3_:=Aside0.mk ((by rw [hg]; exact(zbp (qb HB.out)):w.heap.size≤gb115)); clear HB; have HB:=n0_; have BK115:=n1_; have GW115:=n2_; have GE115:=n3_; clear n0_ n1_ n2_ n3_; clear hb hbox hg; obtain⟨hcz44_0,hcz44_1,hcz44_2,hfz44_0,hfz44_1,hfz44_2⟩:=qz BK115.out) | ((with_reducible refine zbz (f:=85) rfl ?_); refine zbK (some 5) rfl rfl Tryz.func85 (by kernel_rfl) rfl #[.agg #[.bool a0_0,.slice A0_1 l0_1.length c0_1,.slice A0_2 l0_2.length c0_2]] rfl (by (try simp only [List.map_toArray,List.map_cons,List.map_nil]); first | done | rfl | (simp only [List.length_drop,List.length_take]; rfl)) ?_; (with_reducible refine(rat_Norm.calls a0_0 _ _ l0_1 _ _ l0_2 t116 t117 t120 _ ?side1 ?side2 ?side3 ?side4 A2.out).mono ?_); (case side1=>exact qc (Kd.C_below HR0_1.out HB.out)); (case side2=>exact HC0_1.out); (case side3=>exact qc (Kd.C_below HR0_2.out HB.out)); (case side4=>exact HC0_2.out); rintro e w45 ⟨v118,v121,rfl,ho0,ho1,hb⟩; refine⟨_,rfl,?_⟩; have n0_:=Aside0.mk (Kd.R_lower ho0 (zbp (qb1 HB.out GE115.out))); have n1_:=Aside0.mk (Kd.R_lower ho1 (zbp (qb1 HB.out GE115.out))); have n2_:=Aside0.mk (zbr (g:=gb115) (o:=.cells #[.bool a0_0,.slice A0_1 l0_1.length c0_1,.slice A0_2 l0_2.length c0_2] 27 (0,0)) (qk BK115.out) hb); have n3_:=Aside0.mk (zbm (qb1 HB.out GE115.out) hb); clear BK115; clear HB; have HO119:=n0_; have HO122:=n1_; have BK115:=n2_; have HB:=n3_; clear n0_ n1_ n2_ n3_; (try clear hb); (try clear hb2); (try clear hk); (try clear hi); (try clear ho0); (try clear ho1)) | ((with_reducible refine zbD (N:=3) rfl ?_); refine zbC ?hg (N:=3) ?hd (cs:=#[.bool false,.slice none 0 0,.slice none 0 0]) (t:=27) ?hr ?_; (case hd=>rfl); (case hg=>rfl); (case hr=>first | (go_simp; done) | (go_simp; rfl)); intro gb123 hg w46 hbox hb; have n0_:=Aside0.mk (Kd.R_below (qr HO119.out) hb); have n1_:=Aside0.mk (Kd.R_below (qr HO122.out) hb); have n2_:=Aside0.mk (zbr (g:=gb115) (o:=.cells #[.bool a0_0,.slice A0_1 l0_1.length c0_1,.slice A0_2 l0_2.length c0_2] 27 (0,0)) (qk BK115.out) hb); have n3_:=Aside0.mk (zbm (qb1 HB.out GE115.out) hb); have n4_:=Aside0.mk (hbox); have n5_:=Aside0.mk ((by rw [hg]; exact(zbp (qb1 HB.out GE115.out)):w.heap.size≤gb123)); have n6_:=Aside0.mk ((by rw [hg]; exact(zbp (qb1 HB.out GE115.out)):w.heap.size≤gb123)); have n7_:=Aside0.mk ((by rw [hg]; exact Nat.ne_of_lt (zbL (g:=gb115) (o:=.cells #[.bool a0_0,.slice A0_1 l0_1.length c0_1,.slice A0_2 l0_2.length c0_2] 27 (0,0)) (qk BK115.out)):gb115≠gb123)); have n8_:=Aside0.mk ((by rw [hg]; exact Nat.ne_of_gt (zbL (g:=gb115) (o:=.cells #[.bool a0_0,.slice A0_1 l0_1.length c0_1,.slice A0_2 l0_2.length c0_2] 27 (0,0)) (qk BK115.out)):gb123≠gb115)); clear HO119; clear HO122; clear BK115; clear HB; have HO119:=n0_; have HO122:=n1_; have BK115:=n2_; have HB:=n3_; have BK123:=n4_; have GW123:=n5_; have GE123:=n6_; have NB115_123:=n7_; have NB123_115:=n8_; clear n0_ n1_ n2_ n3_ n4_ n5_ n6_ n7_ n8_; clear hb hbox hg; have hnb47:=NB123_115.out; have hnc47:=NB115_123.out; obtain⟨hcz48_0,hcz48_1,hcz48_2,hfz48_0,hfz48_1,hfz48_2⟩:=qz BK123.out; obtain⟨Ao49,co49,eo49⟩:=Kd.R_slice HO119.out; subst eo49; obtain⟨Ao50,co50,eo50⟩:=Kd.R_slice HO122.out; subst eo50; obtain⟨hcz51_0,hcz51_1,hcz51_2,hfz51_0,hfz51_1,hfz51_2⟩:=qz BK115.out) | (go_at_call 135; (with_reducible refine(rat_limbs.calls _ _ t117 _ _ l0_1 false _ ?side1 ?side2 ?side3 ?side4 A13.out).mono ?_); (case side1=>refine(Kd.R_reads' (e:=81) (base:=w.heap.size) (ok:=fun k_=>some k_≠(.slice Ao50 t120.length co50:Value).ownBlock) (n:=t117.length) (c:=co49) ?_).2.2; exact(by (with_reducible repeat (first | apply Kd.R_alloc | apply Kd.R_drewN | apply Kd.R_drew)); exact(Kd.R_mono (Kd.R_far (p:=⟨gb123,2,none⟩) (Kd.R_far (p:=⟨gb123,1,none⟩) (Kd.R_far (p:=⟨gb123,0,none⟩) (Kd.R_types HO119.out BK123.out (by decide)) (fun _ hk=>hk.2) (.bool t116)) (fun _ hk=>hk.2) (.slice Ao49 t117.length co49)) (fun _ hk=>hk.2) (.slice Ao50 t120.length co50)) (fun _ h_=>h_.1)))); (case side2=>exact(Kd.R_reads' HO119.out).2.1); (case side3=>exact Kd.C_below HR0_1.out (qb2 HB.out GE115.out GE123.out)); (case side4=>exact HC0_1.out); rintro e w52 ⟨rfl,hb⟩; have n0_:=Aside0.mk (Kd.R_below (by (with_reducible repeat (first | apply Kd.R_alloc | apply Kd.R_drewN | apply Kd.R_drew)); exact(Kd.R_mono (Kd.R_far (p:=⟨gb123,2,none⟩) (Kd.R_far (p:=⟨gb123,1,none⟩) (Kd.R_far (p:=⟨gb123,0,none⟩) (Kd.R_types HO119.out BK123.out (by decide)) (fun _ hk=>hk.2) (.bool t116)) (fun _ hk=>hk.2) (.slice Ao49 t117.length co49)) (fun _ hk=>hk.2) (.slice Ao50 t120.length co50)) (fun _ h_=>h_.1))) hb); have n1_:=Aside0.mk (Kd.R_below (by (with_reducible repeat (first | apply Kd.R_alloc | apply Kd.R_drewN | apply Kd.R_drew)); exact(Kd.R_mono (Kd.R_far (p:=⟨gb123,2,none⟩) (Kd.R_far (p:=⟨gb123,1,none⟩) (Kd.R_far (p:=⟨gb123,0,none⟩) (Kd.R_types HO122.out BK123.out (by decide)) (fun _ hk=>hk.2) (.bool t116)) (fun _ hk=>hk.2) (.slice Ao49 t117.length co49)) (fun _ hk=>hk.2) (.slice Ao50 t120.length co50)) (fun _ h_=>h_.1))) hb); have n2_:=Aside0.mk (zbr (g:=gb115) (o:=.cells #[.bool a0_0,.slice A0_1 l0_1.length c0_1,.slice A0_2 l0_2.length c0_2] 27 (0,0)) (by (with_reducible repeat (first | refine zbv ?_ _ | refine zbu ?_ | refine zbt ?_ _)); refine zbJ ?_ NB115_123.out _; (with_reducible repeat (first | refine zbv ?_ _ | refine zbu ?_ | refine zbt ?_ _)); refine zbJ ?_ NB115_123.out _; (with_reducible repeat (first | refine zbv ?_ _ | refine zbu ?_ | refine zbt ?_ _)); refine zbJ ?_ NB115_123.out _; (with_reducible repeat (first | refine zbv ?_ _ | refine zbu ?_ | refine zbt ?_ _)); exact BK115.out) hb); have n3_:=Aside0.mk (zbr (g:=gb123) (o:=.cells #[.bool t116,.slice Ao49 t117.length co49,.slice Ao50 t120.length co50] 27 (0,0)) (by (with_reducible repeat (first | refine zbv ?_ _ | refine zbu ?_ | refine zbt ?_ _)); refine zbF (cs:=#[.bool t116,.slice Ao49 t117.length co49,.slice none 0 0]) ?_ 2 _ rfl; (with_reducible repeat (first | refine zbv ?_ _ | refine zbu ?_ | refine zbt ?_ _)); refine zbF (cs:=#[.bool t116,.slice none 0 0,.slice none 0 0]) ?_ 1 _ rfl; (with_reducible repeat (first | refine zbv ?_ _ | refine zbu ?_ | refine zbt ?_ _)); refine zbF (cs:=#[.bool false,.slice none 0 0,.slice none 0 0]) ?_ 0 _ rfl; (with_reducible repeat (first | refine zbv ?_ _ | refine zbu ?_ | refine zbt ?_ _)); exact BK123.out) hb); have n4_:=Aside0.mk (zbm (qb2 HB.out GE115.out GE123.out) hb); clear HO119; clear HO122; clear BK115; clear BK123; clear HB; have HO119:=n0_; have HO122:=n1_; have BK115:=n2_; have BK123:=n3_; have HB:=n4_; clear n0_ n1_ n2_ n3_ n4_; (try clear hb); (try clear hb2); (try clear hk); (try clear hi)))
   go_ret
   exact⟨by first | rfl | (simp [zbx,zbw]<;>rfl) | (simp [*,zbx,zbw]<;>rfl),by repeat (first | (with_reducible first | exact HB.out | apply zbn | apply zbo | apply zbs | refine zbB ?_ GE115.out | refine zbB ?_ GE123.out) | exact HB.out)⟩
end Go.Proofs.YtehghijlchpeaaaGreat.J
end
end
section
noncomputable section
namespace Go.Proofs.YtehghijlchpeaaaGreat.J
open Go.RowKit YtehghijlchpeaaaGreat.H YtehghijlchpeaaaGreat.L YtehghijlchpeaaaGreat.Nat1 YtehghijlchpeaaaGreatW.PrintWords YtehghijlchpeaaaGreatW.PrintLast YtehghijlchpeaaaGreatW.PrintMore
attribute [local go_sem] zbX zbZ zb2 zb1 zbQ zbR zbW zbY   -- for this text's walks alone
def rat_product.l0:Nat→List (S27)→Int→Int→Bool→List Int→List Int→Option (Bool×List Int×List Int)
 | 0,_,_,_,_,_,_=>none
 | k+1,x7,x8,x9,x135000,x135001,x135002=>if x9 < x8 then (if 0≤x9 then (if x9 < (x7.length:Int) then ((rat_Norm.f ((rd_T27 x7 x9).f0) ((rd_T27 x7 x9).f1) ((rd_T27 x7 x9).f2)).bind fun bt137=>((nat_Mul.f k x135001 bt137.2.1).bind fun t144=>((nat_Mul.f k x135002 bt137.2.2).bind fun t147=>((rat_Make.f (x135000 != bt137.1) t144 t147).bind fun bt150=>(rat_product.l0 k x7 x8 (wrap64 (x9+1)) bt150.1 bt150.2.1 bt150.2.2.1))))) else (none)) else (none)) else (some (x135000,x135001,x135002))
def rat_product.f (k:Nat) (l0:List (S27)):Option (Bool×List Int×List Int):=(rat_Int.f 1).bind fun bt127=>(rat_product.l0 k l0 (l0.length:Int) 0 bt127.1 bt127.2.1 bt127.2.2)
def rat_product.T6:Bool×List (List Nat×List Nat):=(true,[([],[]),([0],[0]),([],[]),([2],[2]),([1,3],[1,3]),([],[]),([5],[5]),([],[]),([7],[7]),([6,8],[6,8]),([],[]),([10],[10]),([],[]),([12],[12]),([11,13,9],[11,13]),([4,9,14,14],[4,9,14]),([15],[15]),([16],[16]),([16],[16]),([17,15,0,1,2,3,4,5,6,7,8,9,10,11,12,13,14,15,16,17],[17])])
def rat_product.B6:List Nat:=[0,1,0,4,15,0,32,0,128,480,0,1024,0,4096,16352,32767,65535,131071,131071,262143]
theorem rat_product.tab6:rtab .any (opsOf Tryz.f141 6)=rat_product.T6:=by kernel_rfl
theorem rat_product.bits6:zct rat_product.T6.2 rat_product.B6=true:=by kernel_rfl
theorem rat_product.calls (k:Nat) (A0:Option Addr) (c0:Nat) (l0:List (S27)) (r1:Bool) (r2:List Int) (r3:List Int) (w:World) (hr0:Kd.C k27 w A0 l0.length l0) (hc0:l0.length≤c0) (h:rat_product.f k l0=some (r1,r2,r3)) :
  Calls Tryz.prog 141 #[.slice A0 l0.length c0] w fun e w'=>∃ v1_ v2_:Value,e=.returned (.agg #[.bool r1,v1_,v2_])∧Kd.R (Kd.int .u32) 81 w' w.heap.size (fun k_=>some k_≠(v2_:Value).ownBlock) v1_ r2∧Kd.R (Kd.int .u32) 81 w' w.heap.size (fun k_=>some k_≠(v1_:Value).ownBlock) v2_ r3∧Below w.heap.size w w':=by
 have hu27:=Tryz.underlying27
 have HR0:=Aside0.mk hr0
 have HC0:=Aside0.mk hc0
 clear hr0 hc0
 have HB:=Aside0.mk (Below.refl w.heap.size w)
 have H:((rat_Int.f 1).bind fun bt127=>(rat_product.l0 k l0 (l0.length:Int) 0 bt127.1 bt127.2.1 bt127.2.2))=some (r1,r2,r3):=h
 clear h
 replace H:=Option.bind_eq_some_iff.mp H
 obtain⟨⟨t127,t128,t131⟩,A20,H⟩:=H
 replace H:(rat_product.l0 k l0 (l0.length:Int) 0 t127 t128 t131)=some (r1,r2,r3):=H
 have A2:=Aside0.mk A20
 clear A20
 have H':=Aside0.mk H
 clear H
 go_enter Tryz.func141,Tryz.ntmps141
 go_wp2_with (first | ((with_reducible refine zbD (N:=2) rfl ?_); refine zbC ?hg (N:=2) ?hd (cs:=#[.bool false,.slice none 0 0,.slice none 0 0]) (t:=27) ?hr ?_; (case hd=>rfl); (case hg=>rfl); (case hr=>first | (go_simp; done) | (go_simp; rfl)); intro gb126 hg w3 hbox hb; have n0_:=Aside0.mk (zbm (qb HB.out) hb); have n1_:=Aside0.mk (hbox); have n2_:=Aside0.mk ((by rw [hg]; exact(zbp (qb HB.out)):w.heap.size≤gb126)); have n3_:=Aside0.mk ((by rw [hg]; exact(zbp (qb HB.out)):w.heap.size≤gb126)); clear HB; have HB:=n0_; have BK126:=n1_; have GW126:=n2_; have GE126:=n3_; clear n0_ n1_ n2_ n3_; clear hb hbox hg) | ((with_reducible refine zbz (f:=80) rfl ?_); refine zbK (some 6) rfl rfl Tryz.func80 (by kernel_rfl) rfl #[.int .i64 1] rfl (by (try simp only [List.map_toArray,List.map_cons,List.map_nil]); first | done | rfl | (simp only [List.length_drop,List.length_take]; rfl)) ?_; (with_reducible refine(rat_Int.calls 1 t127 t128 t131 _ A2.out).mono ?_); rintro e w4 ⟨v129,v132,rfl,ho0,ho1,hb⟩; refine⟨_,rfl,?_⟩; have n0_:=Aside0.mk (Kd.R_lower ho0 (zbp (qb1 HB.out GE126.out))); have n1_:=Aside0.mk (Kd.R_lower ho1 (zbp (qb1 HB.out GE126.out))); have n2_:=Aside0.mk (zbr (g:=gb126) (o:=.cells #[.bool false,.slice none 0 0,.slice none 0 0] 27 (0,0)) (qk BK126.out) hb); have n3_:=Aside0.mk (zbm (qb1 HB.out GE126.out) hb); clear BK126; clear HB; have HO130:=n0_; have HO133:=n1_; have BK126:=n2_; have HB:=n3_; clear n0_ n1_ n2_ n3_; (try clear hb); (try clear hb2); (try clear hk); (try clear hi); (try clear ho0); (try clear ho1)) | ((with_reducible refine zbD (N:=3) rfl ?_); refine zbC ?hg (N:=3) ?hd (cs:=#[.bool false,.slice none 0 0,.slice none 0 0]) (t:=27) ?hr ?_; (case hd=>rfl); (case hg=>rfl); (case hr=>first | (go_simp; done) | (go_simp; rfl)); intro gb134 hg w5 hbox hb; have n0_:=Aside0.mk (Kd.R_below (qr HO130.out) hb); have n1_:=Aside0.mk (Kd.R_below (qr HO133.out) hb); have n2_:=Aside0.mk (zbr (g:=gb126) (o:=.cells #[.bool false,.slice none 0 0,.slice none 0 0] 27 (0,0)) (qk BK126.out) hb); have n3_:=Aside0.mk (zbm (qb1 HB.out GE126.out) hb); have n4_:=Aside0.mk (hbox); have n5_:=Aside0.mk ((by rw [hg]; exact(zbp (qb1 HB.out GE126.out)):w.heap.size≤gb134)); have n6_:=Aside0.mk ((by rw [hg]; exact(zbp (qb1 HB.out GE126.out)):w.heap.size≤gb134)); have n7_:=Aside0.mk ((by rw [hg]; exact Nat.ne_of_lt (zbL (g:=gb126) (o:=.cells #[.bool false,.slice none 0 0,.slice none 0 0] 27 (0,0)) (qk BK126.out)):gb126≠gb134)); have n8_:=Aside0.mk ((by rw [hg]; exact Nat.ne_of_gt (zbL (g:=gb126) (o:=.cells #[.bool false,.slice none 0 0,.slice none 0 0] 27 (0,0)) (qk BK126.out)):gb134≠gb126)); clear HO130; clear HO133; clear BK126; clear HB; have HO130:=n0_; have HO133:=n1_; have BK126:=n2_; have HB:=n3_; have BK134:=n4_; have GW134:=n5_; have GE134:=n6_; have NB126_134:=n7_; have NB134_126:=n8_; clear n0_ n1_ n2_ n3_ n4_ n5_ n6_ n7_ n8_; clear hb hbox hg; have hnb6:=NB134_126.out; have hnc6:=NB126_134.out; obtain⟨hcz7_0,hcz7_1,hcz7_2,hfz7_0,hfz7_1,hfz7_2⟩:=qz BK134.out; obtain⟨Ao8,co8,eo8⟩:=Kd.R_slice HO130.out; subst eo8; obtain⟨Ao9,co9,eo9⟩:=Kd.R_slice HO133.out; subst eo9))
 go_loopg [9] k (fun kq v9 w'=>∃ (x9_1:Int) (x135000_1:Bool) (x135001_1:List Int) (x135002_1:List Int) (u135001:Value) (u135002:Value),v9=.int .i64 x9_1∧Aside0 (rat_product.l0 kq l0 (l0.length:Int) x9_1 x135000_1 x135001_1 x135002_1=some (r1,r2,r3))∧Aside0 (kq≤k)∧Aside0 (Kd.R (Kd.int .u32) 81 w' w.heap.size (fun k_=>some k_≠(u135002:Value).ownBlock) u135001 x135001_1)∧Aside0 (Kd.R (Kd.int .u32) 81 w' w.heap.size (fun k_=>some k_≠(u135001:Value).ownBlock) u135002 x135002_1)∧Aside0 (w'.heap[gb126]? = some (.cells #[.bool false,(.slice none 0 0),(.slice none 0 0)] 27 (0,0)))∧Aside0 (w'.heap[gb134]? = some (.cells #[.bool x135000_1,u135001,u135002] 27 (0,0)))∧Aside0 (Below w.heap.size w w'))
 case atStart=>exact⟨(0),(t127),(t128),(t131),(.slice Ao8 t128.length co8),(.slice Ao9 t131.length co9),(by first | rfl | (simp; done) | (simp [*]; done)),H',⟨Nat.le_refl _⟩,⟨by (with_reducible repeat (first | apply Kd.R_alloc | apply Kd.R_drewN | apply Kd.R_drew)); exact Kd.R_mono (Kd.R_far (p:=⟨gb134,2,none⟩) (Kd.R_far (p:=⟨gb134,1,none⟩) (Kd.R_far (p:=⟨gb134,0,none⟩) (Kd.R_types HO130.out BK134.out (by decide)) (fun _ hk=>hk.2) (.bool t127)) (fun _ hk=>hk.2) (.slice Ao8 t128.length co8)) (fun _ hk=>hk.2) (.slice Ao9 t131.length co9)) (fun _ hk=>hk.1)⟩,⟨by (with_reducible repeat (first | apply Kd.R_alloc | apply Kd.R_drewN | apply Kd.R_drew)); exact Kd.R_mono (Kd.R_far (p:=⟨gb134,2,none⟩) (Kd.R_far (p:=⟨gb134,1,none⟩) (Kd.R_far (p:=⟨gb134,0,none⟩) (Kd.R_types HO133.out BK134.out (by decide)) (fun _ hk=>hk.2) (.bool t127)) (fun _ hk=>hk.2) (.slice Ao8 t128.length co8)) (fun _ hk=>hk.2) (.slice Ao9 t131.length co9)) (fun _ hk=>hk.1)⟩,⟨by (with_reducible repeat (first | refine zbv ?_ _ | refine zbu ?_ | refine zbt ?_ _)); refine zbJ ?_ NB126_134.out _; (with_reducible repeat (first | refine zbv ?_ _ | refine zbu ?_ | refine zbt ?_ _)); refine zbJ ?_ NB126_134.out _; (with_reducible repeat (first | refine zbv ?_ _ | refine zbu ?_ | refine zbt ?_ _)); refine zbJ ?_ NB126_134.out _; (with_reducible repeat (first | refine zbv ?_ _ | refine zbu ?_ | refine zbt ?_ _)); exact BK126.out⟩,⟨by (with_reducible repeat (first | refine zbv ?_ _ | refine zbu ?_ | refine zbt ?_ _)); refine zbF (cs:=#[.bool t127,.slice Ao8 t128.length co8,.slice none 0 0]) ?_ 2 _ rfl; (with_reducible repeat (first | refine zbv ?_ _ | refine zbu ?_ | refine zbt ?_ _)); refine zbF (cs:=#[.bool t127,.slice none 0 0,.slice none 0 0]) ?_ 1 _ rfl; (with_reducible repeat (first | refine zbv ?_ _ | refine zbu ?_ | refine zbt ?_ _)); refine zbF (cs:=#[.bool false,.slice none 0 0,.slice none 0 0]) ?_ 0 _ rfl; (with_reducible repeat (first | refine zbv ?_ _ | refine zbu ?_ | refine zbt ?_ _)); exact BK134.out⟩,⟨by repeat (first | (with_reducible first | exact HB.out | apply zbn | apply zbo | apply zbs | refine zbB ?_ GE126.out | refine zbB ?_ GE134.out) | exact HB.out)⟩⟩
 case round =>
  clear H'
  try clear c1
  try clear p2
  try clear c6
  try clear c8
  try clear hcz7_0
  try clear hcz7_1
  try clear hcz7_2
  try clear hfz7_0
  try clear hfz7_1
  try clear hfz7_2
  obtain⟨x9_1,x135000_1,x135001_1,x135002_1,u135001,u135002,rfl,HA,HK1,HO_135001,HO_135002,BK126,BK134,HB⟩:=hrel
  cases gk with
  | zero=>exact absurd HA.out (by simp [rat_product.l0])
  | succ k1 =>
   have H:=HA.out
   clear HA
   simp only [rat_product.l0] at H
   by_cases c10:x9_1 < (l0.length:Int)
   ·
    rw [if_pos c10] at H
    have c10b0:decide (x9_1 < (l0.length:Int))=true:=decide_eq_true c10
    clear c10
    by_cases c11:0≤x9_1
    ·
     rw [if_pos c11] at H
     have c11b0:decide (0≤x9_1)=true:=decide_eq_true c11
     clear c11
     by_cases c12:x9_1 < (l0.length:Int)
     ·
      rw [if_pos c12] at H
      have c12b0:decide (x9_1 < (l0.length:Int))=true:=decide_eq_true c12
      clear c12
      replace H:=Option.bind_eq_some_iff.mp H
      obtain⟨⟨t137,t138,t141⟩,A130,H⟩:=H
      replace H:((nat_Mul.f k1 x135001_1 t138).bind fun t144=>((nat_Mul.f k1 x135002_1 t141).bind fun t147=>((rat_Make.f (x135000_1 != t137) t144 t147).bind fun bt150=>(rat_product.l0 k1 l0 (l0.length:Int) (wrap64 (x9_1+1)) bt150.1 bt150.2.1 bt150.2.2.1))))=some (r1,r2,r3):=H
      have A13:=Aside0.mk A130
      clear A130
      replace H:=Option.bind_eq_some_iff.mp H
      obtain⟨t144,A140,H⟩:=H
      replace H:((nat_Mul.f k1 x135002_1 t141).bind fun t147=>((rat_Make.f (x135000_1 != t137) t144 t147).bind fun bt150=>(rat_product.l0 k1 l0 (l0.length:Int) (wrap64 (x9_1+1)) bt150.1 bt150.2.1 bt150.2.2.1)))=some (r1,r2,r3):=H
      have A14:=Aside0.mk A140
      clear A140
      replace H:=Option.bind_eq_some_iff.mp H
      obtain⟨t147,A150,H⟩:=H
      replace H:((rat_Make.f (x135000_1 != t137) t144 t147).bind fun bt150=>(rat_product.l0 k1 l0 (l0.length:Int) (wrap64 (x9_1+1)) bt150.1 bt150.2.1 bt150.2.2.1))=some (r1,r2,r3):=H
      have A15:=Aside0.mk A150
      clear A150
      replace H:=Option.bind_eq_some_iff.mp H
      obtain⟨⟨t150,t151,t154,t157⟩,A160,H⟩:=H
      replace H:(rat_product.l0 k1 l0 (l0.length:Int) (wrap64 (x9_1+1)) t150 t151 t154)=some (r1,r2,r3):=H
      have A16:=Aside0.mk A160
      clear A160
      have H':=Aside0.mk H
      clear H
      have p135:0≤(x9_1:Int):=of_decide_eq_true qs
      have q135:x9_1 < (l0.length:Int):=of_decide_eq_true qs
      obtain⟨ad135,A135_1,c135_1,A135_2,c135_2,e135,hx135_0,hx135_1,hx135_2,hl135_1,hi135_1,hl135_2,hi135_2⟩:=at_T27 HR0.out x9_1 p135 q135
      cases e135
      replace hx135_0:=(HB.out.cell (World.block_lt_of_cell? w _ hx135_0)).trans hx135_0
      replace hx135_1:=(HB.out.cell (World.block_lt_of_cell? w _ hx135_1)).trans hx135_1
      replace hx135_2:=(HB.out.cell (World.block_lt_of_cell? w _ hx135_2)).trans hx135_2
      have HR135_1:=Aside0.mk hi135_1
      have HC135_1:=Aside0.mk hl135_1
      clear hi135_1 hl135_1
      have HR135_2:=Aside0.mk hi135_2
      have HC135_2:=Aside0.mk hl135_2
      clear hi135_2 hl135_2
      replace p135:=eq_true p135
      replace q135:=eq_true q135
      try go_wp2_with (first | ((with_reducible refine zbD (N:=5) rfl ?_); refine zbC ?hg (N:=5) ?hd (cs:=#[.bool false,.slice none 0 0,.slice none 0 0]) (t:=27) ?hr ?_; (case hd=>rfl); (case hg=>rfl); (case hr=>first | (go_simp; done) | (go_simp; rfl)); intro gb136 hg w17 hbox hb; have n0_:=Aside0.mk (Kd.R_below (qr HO_135001.out) hb); have n1_:=Aside0.mk (Kd.R_below (qr HO_135002.out) hb); have n2_:=Aside0.mk (zbr (g:=gb126) (o:=.cells #[.bool false,.slice none 0 0,.slice none 0 0] 27 (0,0)) (qk BK126.out) hb); have n3_:=Aside0.mk (zbr (g:=gb134) (o:=.cells #[.bool x135000_1,u135001,u135002] 27 (0,0)) (qk BK134.out) hb); have n4_:=Aside0.mk (zbm (qb2 HB.out GE126.out GE134.out) hb); have n5_:=Aside0.mk (hbox); have n6_:=Aside0.mk ((by rw [hg]; exact(zbp (qb2 HB.out GE126.out GE134.out)):w.heap.size≤gb136)); have n7_:=Aside0.mk ((by rw [hg]; exact(zbp (qb2 HB.out GE126.out GE134.out)):w.heap.size≤gb136)); have n8_:=Aside0.mk ((by rw [hg]; exact Nat.ne_of_lt (zbL (g:=gb126) (o:=.cells #[.bool false,.slice none 0 0,.slice none 0 0] 27 (0,0)) (qk BK126.out)):gb126≠gb136)); have n9_:=Aside0.mk ((by rw [hg]; exact Nat.ne_of_gt (zbL (g:=gb126) (o:=.cells #[.bool false,.slice none 0 0,.slice none 0 0] 27 (0,0)) (qk BK126.out)):gb136≠gb126)); have n10_:=Aside0.mk ((by rw [hg]; exact Nat.ne_of_lt (zbL (g:=gb134) (o:=.cells #[.bool x135000_1,u135001,u135002] 27 (0,0)) (qk BK134.out)):gb134≠gb136)); have n11_:=Aside0.mk ((by rw [hg]; exact Nat.ne_of_gt (zbL (g:=gb134) (o:=.cells #[.bool x135000_1,u135001,u135002] 27 (0,0)) (qk BK134.out)):gb136≠gb134)); clear HO_135001; clear HO_135002; clear BK126; clear BK134; clear HB; have HO_135001:=n0_; have HO_135002:=n1_; have BK126:=n2_; have BK134:=n3_; have HB:=n4_; have BK136:=n5_; have GW136:=n6_; have GE136:=n7_; have NB126_136:=n8_; have NB136_126:=n9_; have NB134_136:=n10_; have NB136_134:=n11_; clear n0_ n1_ n2_ n3_ n4_ n5_ n6_ n7_ n8_ n9_ n10_ n11_; clear hb hbox hg; have hnb18:=NB136_126.out; have hnc18:=NB126_136.out; have hnb19:=NB136_134.out; have hnc19:=NB134_136.out; obtain⟨hcz20_0,hcz20_1,hcz20_2,hfz20_0,hfz20_1,hfz20_2⟩:=qz BK136.out) | ((with_reducible refine zbz (f:=85) rfl ?_); refine zbK (some 14) rfl rfl Tryz.func85 (by kernel_rfl) rfl #[.agg #[.bool ((rd_T27 l0 x9_1).f0),.slice A135_1 ((rd_T27 l0 x9_1).f1).length c135_1,.slice A135_2 ((rd_T27 l0 x9_1).f2).length c135_2]] rfl (by (try simp only [List.map_toArray,List.map_cons,List.map_nil]); first | done | rfl | (simp only [List.length_drop,List.length_take]; rfl)) ?_; (with_reducible refine(rat_Norm.calls ((rd_T27 l0 x9_1).f0) _ _ ((rd_T27 l0 x9_1).f1) _ _ ((rd_T27 l0 x9_1).f2) t137 t138 t141 _ ?side1 ?side2 ?side3 ?side4 A13.out).mono ?_); (case side1=>exact Kd.C_below HR135_1.out (qb3 HB.out GE126.out GE134.out GE136.out)); (case side2=>exact HC135_1.out); (case side3=>exact Kd.C_below HR135_2.out (qb3 HB.out GE126.out GE134.out GE136.out)); (case side4=>exact HC135_2.out); rintro e w21 ⟨v139,v142,rfl,ho0,ho1,hb⟩; refine⟨_,rfl,?_⟩; have n0_:=Aside0.mk (Kd.R_mono (Kd.R_told (Kd.R_told (Kd.R_old (by (with_reducible repeat (first | apply Kd.R_alloc | apply Kd.R_drewN | apply Kd.R_drew)); exact(Kd.R_mono (Kd.R_far (p:=⟨gb136,2,none⟩) (Kd.R_far (p:=⟨gb136,1,none⟩) (Kd.R_far (p:=⟨gb136,0,none⟩) (Kd.R_types HO_135001.out BK136.out (by decide)) (fun _ hk=>hk.2) (.bool ((rd_T27 l0 x9_1).f0))) (fun _ hk=>hk.2) (.slice A135_1 ((rd_T27 l0 x9_1).f1).length c135_1)) (fun _ hk=>hk.2) (.slice A135_2 ((rd_T27 l0 x9_1).f2).length c135_2)) (fun _ h_=>h_.1))) hb) (Kd.R_base ho0)) (Kd.R_base ho1)) (fun _ h_=>h_.1)); have n1_:=Aside0.mk (Kd.R_mono (Kd.R_told (Kd.R_told (Kd.R_old (by (with_reducible repeat (first | apply Kd.R_alloc | apply Kd.R_drewN | apply Kd.R_drew)); exact(Kd.R_mono (Kd.R_far (p:=⟨gb136,2,none⟩) (Kd.R_far (p:=⟨gb136,1,none⟩) (Kd.R_far (p:=⟨gb136,0,none⟩) (Kd.R_types HO_135002.out BK136.out (by decide)) (fun _ hk=>hk.2) (.bool ((rd_T27 l0 x9_1).f0))) (fun _ hk=>hk.2) (.slice A135_1 ((rd_T27 l0 x9_1).f1).length c135_1)) (fun _ hk=>hk.2) (.slice A135_2 ((rd_T27 l0 x9_1).f2).length c135_2)) (fun _ h_=>h_.1))) hb) (Kd.R_base ho0)) (Kd.R_base ho1)) (fun _ h_=>h_.1)); have n2_:=Aside0.mk (Kd.R_lower (Kd.R_new' (Kd.R_new' ho0 (Kd.R_lt (by (with_reducible repeat (first | apply Kd.R_alloc | apply Kd.R_drewN | apply Kd.R_drew)); exact(Kd.R_mono (Kd.R_far (p:=⟨gb136,2,none⟩) (Kd.R_far (p:=⟨gb136,1,none⟩) (Kd.R_far (p:=⟨gb136,0,none⟩) (Kd.R_types HO_135001.out BK136.out (by decide)) (fun _ hk=>hk.2) (.bool ((rd_T27 l0 x9_1).f0))) (fun _ hk=>hk.2) (.slice A135_1 ((rd_T27 l0 x9_1).f1).length c135_1)) (fun _ hk=>hk.2) (.slice A135_2 ((rd_T27 l0 x9_1).f2).length c135_2)) (fun _ h_=>h_.1))))) (Kd.R_lt (by (with_reducible repeat (first | apply Kd.R_alloc | apply Kd.R_drewN | apply Kd.R_drew)); exact(Kd.R_mono (Kd.R_far (p:=⟨gb136,2,none⟩) (Kd.R_far (p:=⟨gb136,1,none⟩) (Kd.R_far (p:=⟨gb136,0,none⟩) (Kd.R_types HO_135002.out BK136.out (by decide)) (fun _ hk=>hk.2) (.bool ((rd_T27 l0 x9_1).f0))) (fun _ hk=>hk.2) (.slice A135_1 ((rd_T27 l0 x9_1).f1).length c135_1)) (fun _ hk=>hk.2) (.slice A135_2 ((rd_T27 l0 x9_1).f2).length c135_2)) (fun _ h_=>h_.1))))) (zbp (qb3 HB.out GE126.out GE134.out GE136.out))); have n3_:=Aside0.mk (Kd.R_lower (Kd.R_new' (Kd.R_new' ho1 (Kd.R_lt (by (with_reducible repeat (first | apply Kd.R_alloc | apply Kd.R_drewN | apply Kd.R_drew)); exact(Kd.R_mono (Kd.R_far (p:=⟨gb136,2,none⟩) (Kd.R_far (p:=⟨gb136,1,none⟩) (Kd.R_far (p:=⟨gb136,0,none⟩) (Kd.R_types HO_135001.out BK136.out (by decide)) (fun _ hk=>hk.2) (.bool ((rd_T27 l0 x9_1).f0))) (fun _ hk=>hk.2) (.slice A135_1 ((rd_T27 l0 x9_1).f1).length c135_1)) (fun _ hk=>hk.2) (.slice A135_2 ((rd_T27 l0 x9_1).f2).length c135_2)) (fun _ h_=>h_.1))))) (Kd.R_lt (by (with_reducible repeat (first | apply Kd.R_alloc | apply Kd.R_drewN | apply Kd.R_drew)); exact(Kd.R_mono (Kd.R_far (p:=⟨gb136,2,none⟩) (Kd.R_far (p:=⟨gb136,1,none⟩) (Kd.R_far (p:=⟨gb136,0,none⟩) (Kd.R_types HO_135002.out BK136.out (by decide)) (fun _ hk=>hk.2) (.bool ((rd_T27 l0 x9_1).f0))) (fun _ hk=>hk.2) (.slice A135_1 ((rd_T27 l0 x9_1).f1).length c135_1)) (fun _ hk=>hk.2) (.slice A135_2 ((rd_T27 l0 x9_1).f2).length c135_2)) (fun _ h_=>h_.1))))) (zbp (qb3 HB.out GE126.out GE134.out GE136.out))); have n4_:=Aside0.mk (zbr (g:=gb126) (o:=.cells #[.bool false,.slice none 0 0,.slice none 0 0] 27 (0,0)) (by (with_reducible repeat (first | refine zbv ?_ _ | refine zbu ?_ | refine zbt ?_ _)); refine zbJ ?_ NB126_136.out _; (with_reducible repeat (first | refine zbv ?_ _ | refine zbu ?_ | refine zbt ?_ _)); refine zbJ ?_ NB126_136.out _; (with_reducible repeat (first | refine zbv ?_ _ | refine zbu ?_ | refine zbt ?_ _)); refine zbJ ?_ NB126_136.out _; (with_reducible repeat (first | refine zbv ?_ _ | refine zbu ?_ | refine zbt ?_ _)); exact BK126.out) hb); have n5_:=Aside0.mk (zbr (g:=gb134) (o:=.cells #[.bool x135000_1,u135001,u135002] 27 (0,0)) (by (with_reducible repeat (first | refine zbv ?_ _ | refine zbu ?_ | refine zbt ?_ _)); refine zbJ ?_ NB134_136.out _; (with_reducible repeat (first | refine zbv ?_ _ | refine zbu ?_ | refine zbt ?_ _)); refine zbJ ?_ NB134_136.out _; (with_reducible repeat (first | refine zbv ?_ _ | refine zbu ?_ | refine zbt ?_ _)); refine zbJ ?_ NB134_136.out _; (with_reducible repeat (first | refine zbv ?_ _ | refine zbu ?_ | refine zbt ?_ _)); exact BK134.out) hb); have n6_:=Aside0.mk (zbr (g:=gb136) (o:=.cells #[.bool ((rd_T27 l0 x9_1).f0),.slice A135_1 ((rd_T27 l0 x9_1).f1).length c135_1,.slice A135_2 ((rd_T27 l0 x9_1).f2).length c135_2] 27 (0,0)) (by (with_reducible repeat (first | refine zbv ?_ _ | refine zbu ?_ | refine zbt ?_ _)); refine zbF (cs:=#[.bool ((rd_T27 l0 x9_1).f0),.slice A135_1 ((rd_T27 l0 x9_1).f1).length c135_1,.slice none 0 0]) ?_ 2 _ rfl; (with_reducible repeat (first | refine zbv ?_ _ | refine zbu ?_ | refine zbt ?_ _)); refine zbF (cs:=#[.bool ((rd_T27 l0 x9_1).f0),.slice none 0 0,.slice none 0 0]) ?_ 1 _ rfl; (with_reducible repeat (first | refine zbv ?_ _ | refine zbu ?_ | refine zbt ?_ _)); refine zbF (cs:=#[.bool false,.slice none 0 0,.slice none 0 0]) ?_ 0 _ rfl; (with_reducible repeat (first | refine zbv ?_ _ | refine zbu ?_ | refine zbt ?_ _)); exact BK136.out) hb); have n7_:=Aside0.mk (zbm (qb3 HB.out GE126.out GE134.out GE136.out) hb); clear HO_135001; clear HO_135002; clear BK126; clear BK134; clear BK136; clear HB; have HO_135001:=n0_; have HO_135002:=n1_; have HO140:=n2_; have HO143:=n3_; have BK126:=n4_; have BK134:=n5_; have BK136:=n6_; have HB:=n7_; clear n0_ n1_ n2_ n3_ n4_ n5_ n6_ n7_; (try clear hb); (try clear hb2); (try clear hk); (try clear hi); (try clear ho0); (try clear ho1); obtain⟨hcz22_0,hcz22_1,hcz22_2,hfz22_0,hfz22_1,hfz22_2⟩:=qz BK136.out; obtain⟨Ao23,co23,eo23⟩:=Kd.R_slice HO140.out; subst eo23; obtain⟨Ao24,co24,eo24⟩:=Kd.R_slice HO143.out; subst eo24))
      have n0_:Aside0 (Kd.R (Kd.int .u32) 81 (((w21.setCell ⟨gb136,0,none⟩ (.bool t137)).setCell ⟨gb136,1,none⟩ (.slice Ao23 t138.length co23)).setCell ⟨gb136,2,none⟩ (.slice Ao24 t141.length co24)) w.heap.size (fun k_=>some k_≠(u135002:Value).ownBlock∧some k_≠(.slice Ao23 t138.length co23:Value).ownBlock∧some k_≠(.slice Ao24 t141.length co24:Value).ownBlock) u135001 x135001_1):=⟨by (with_reducible repeat (first | apply Kd.R_alloc | apply Kd.R_drewN | apply Kd.R_drew)); exact Kd.R_mono (Kd.R_far (p:=⟨gb136,2,none⟩) (Kd.R_far (p:=⟨gb136,1,none⟩) (Kd.R_far (p:=⟨gb136,0,none⟩) (Kd.R_types HO_135001.out BK136.out (by decide)) (fun _ hk=>hk.2) (.bool t137)) (fun _ hk=>hk.2) (.slice Ao23 t138.length co23)) (fun _ hk=>hk.2) (.slice Ao24 t141.length co24)) (fun _ hk=>⟨hk.1.1.1,⟨hk.1.1.2,hk.1.2⟩⟩)⟩
      have n1_:Aside0 (Kd.R (Kd.int .u32) 81 (((w21.setCell ⟨gb136,0,none⟩ (.bool t137)).setCell ⟨gb136,1,none⟩ (.slice Ao23 t138.length co23)).setCell ⟨gb136,2,none⟩ (.slice Ao24 t141.length co24)) w.heap.size (fun k_=>some k_≠(u135001:Value).ownBlock∧some k_≠(.slice Ao23 t138.length co23:Value).ownBlock∧some k_≠(.slice Ao24 t141.length co24:Value).ownBlock) u135002 x135002_1):=⟨by (with_reducible repeat (first | apply Kd.R_alloc | apply Kd.R_drewN | apply Kd.R_drew)); exact Kd.R_mono (Kd.R_far (p:=⟨gb136,2,none⟩) (Kd.R_far (p:=⟨gb136,1,none⟩) (Kd.R_far (p:=⟨gb136,0,none⟩) (Kd.R_types HO_135002.out BK136.out (by decide)) (fun _ hk=>hk.2) (.bool t137)) (fun _ hk=>hk.2) (.slice Ao23 t138.length co23)) (fun _ hk=>hk.2) (.slice Ao24 t141.length co24)) (fun _ hk=>⟨hk.1.1.1,⟨hk.1.1.2,hk.1.2⟩⟩)⟩
      have n2_:Aside0 (Kd.R (Kd.int .u32) 81 (((w21.setCell ⟨gb136,0,none⟩ (.bool t137)).setCell ⟨gb136,1,none⟩ (.slice Ao23 t138.length co23)).setCell ⟨gb136,2,none⟩ (.slice Ao24 t141.length co24)) w.heap.size (fun k_=>some k_≠(u135001:Value).ownBlock∧some k_≠(u135002:Value).ownBlock∧some k_≠(.slice Ao24 t141.length co24:Value).ownBlock) (.slice Ao23 t138.length co23) t138):=⟨by (with_reducible repeat (first | apply Kd.R_alloc | apply Kd.R_drewN | apply Kd.R_drew)); exact Kd.R_mono (Kd.R_far (p:=⟨gb136,2,none⟩) (Kd.R_far (p:=⟨gb136,1,none⟩) (Kd.R_far (p:=⟨gb136,0,none⟩) (Kd.R_types HO140.out BK136.out (by decide)) (fun _ hk=>hk.2) (.bool t137)) (fun _ hk=>hk.2) (.slice Ao23 t138.length co23)) (fun _ hk=>hk.2) (.slice Ao24 t141.length co24)) (fun _ hk=>⟨hk.1.1.2,⟨hk.1.2,hk.1.1.1⟩⟩)⟩
      have n3_:Aside0 (Kd.R (Kd.int .u32) 81 (((w21.setCell ⟨gb136,0,none⟩ (.bool t137)).setCell ⟨gb136,1,none⟩ (.slice Ao23 t138.length co23)).setCell ⟨gb136,2,none⟩ (.slice Ao24 t141.length co24)) w.heap.size (fun k_=>some k_≠(u135001:Value).ownBlock∧some k_≠(u135002:Value).ownBlock∧some k_≠(.slice Ao23 t138.length co23:Value).ownBlock) (.slice Ao24 t141.length co24) t141):=⟨by (with_reducible repeat (first | apply Kd.R_alloc | apply Kd.R_drewN | apply Kd.R_drew)); exact Kd.R_mono (Kd.R_far (p:=⟨gb136,2,none⟩) (Kd.R_far (p:=⟨gb136,1,none⟩) (Kd.R_far (p:=⟨gb136,0,none⟩) (Kd.R_types HO143.out BK136.out (by decide)) (fun _ hk=>hk.2) (.bool t137)) (fun _ hk=>hk.2) (.slice Ao23 t138.length co23)) (fun _ hk=>hk.2) (.slice Ao24 t141.length co24)) (fun _ hk=>⟨hk.1.1.2,⟨hk.1.2,hk.1.1.1⟩⟩)⟩
      have n4_:Aside0 ((((w21.setCell ⟨gb136,0,none⟩ (.bool t137)).setCell ⟨gb136,1,none⟩ (.slice Ao23 t138.length co23)).setCell ⟨gb136,2,none⟩ (.slice Ao24 t141.length co24)).heap[gb126]? = some (.cells #[.bool false,.slice none 0 0,.slice none 0 0] 27 (0,0))):=⟨by (with_reducible repeat (first | refine zbv ?_ _ | refine zbu ?_ | refine zbt ?_ _)); refine zbJ ?_ NB126_136.out _; (with_reducible repeat (first | refine zbv ?_ _ | refine zbu ?_ | refine zbt ?_ _)); refine zbJ ?_ NB126_136.out _; (with_reducible repeat (first | refine zbv ?_ _ | refine zbu ?_ | refine zbt ?_ _)); refine zbJ ?_ NB126_136.out _; (with_reducible repeat (first | refine zbv ?_ _ | refine zbu ?_ | refine zbt ?_ _)); exact BK126.out⟩
      have n5_:Aside0 ((((w21.setCell ⟨gb136,0,none⟩ (.bool t137)).setCell ⟨gb136,1,none⟩ (.slice Ao23 t138.length co23)).setCell ⟨gb136,2,none⟩ (.slice Ao24 t141.length co24)).heap[gb134]? = some (.cells #[.bool x135000_1,u135001,u135002] 27 (0,0))):=⟨by (with_reducible repeat (first | refine zbv ?_ _ | refine zbu ?_ | refine zbt ?_ _)); refine zbJ ?_ NB134_136.out _; (with_reducible repeat (first | refine zbv ?_ _ | refine zbu ?_ | refine zbt ?_ _)); refine zbJ ?_ NB134_136.out _; (with_reducible repeat (first | refine zbv ?_ _ | refine zbu ?_ | refine zbt ?_ _)); refine zbJ ?_ NB134_136.out _; (with_reducible repeat (first | refine zbv ?_ _ | refine zbu ?_ | refine zbt ?_ _)); exact BK134.out⟩
      have n6_:Aside0 ((((w21.setCell ⟨gb136,0,none⟩ (.bool t137)).setCell ⟨gb136,1,none⟩ (.slice Ao23 t138.length co23)).setCell ⟨gb136,2,none⟩ (.slice Ao24 t141.length co24)).heap[gb136]? = some (.cells #[.bool t137,.slice Ao23 t138.length co23,.slice Ao24 t141.length co24] 27 (0,0))):=⟨by (with_reducible repeat (first | refine zbv ?_ _ | refine zbu ?_ | refine zbt ?_ _)); refine zbF (cs:=#[.bool t137,.slice Ao23 t138.length co23,.slice A135_2 ((rd_T27 l0 x9_1).f2).length c135_2]) ?_ 2 _ rfl; (with_reducible repeat (first | refine zbv ?_ _ | refine zbu ?_ | refine zbt ?_ _)); refine zbF (cs:=#[.bool t137,.slice A135_1 ((rd_T27 l0 x9_1).f1).length c135_1,.slice A135_2 ((rd_T27 l0 x9_1).f2).length c135_2]) ?_ 1 _ rfl; (with_reducible repeat (first | refine zbv ?_ _ | refine zbu ?_ | refine zbt ?_ _)); refine zbF (cs:=#[.bool ((rd_T27 l0 x9_1).f0),.slice A135_1 ((rd_T27 l0 x9_1).f1).length c135_1,.slice A135_2 ((rd_T27 l0 x9_1).f2).length c135_2]) ?_ 0 _ rfl; (with_reducible repeat (first | refine zbv ?_ _ | refine zbu ?_ | refine zbt ?_ _)); exact BK136.out⟩
      have n7_:Aside0 (Below w.heap.size w (((w21.setCell ⟨gb136,0,none⟩ (.bool t137)).setCell ⟨gb136,1,none⟩ (.slice Ao23 t138.length co23)).setCell ⟨gb136,2,none⟩ (.slice Ao24 t141.length co24))):=⟨by repeat (first | (with_reducible first | exact HB.out | apply zbn | apply zbo | apply zbs | refine zbB ?_ GE126.out | refine zbB ?_ GE134.out | refine zbB ?_ GE136.out) | exact HB.out)⟩
      (try clear HO_135001)
      (try clear HO_135002)
      (try clear HO140)
      (try clear HO143)
      (try clear BK126)
      (try clear BK134)
      (try clear BK136)
      (try clear HB)
      generalize (((w21.setCell ⟨gb136,0,none⟩ (.bool t137)).setCell ⟨gb136,1,none⟩ (.slice Ao23 t138.length co23)).setCell ⟨gb136,2,none⟩ (.slice Ao24 t141.length co24))=w25 at n0_ n1_ n2_ n3_ n4_ n5_ n6_ n7_ ⊢
      have HO_135001:=n0_
      have HO_135002:=n1_
      have HO140:=n2_
      have HO143:=n3_
      have BK126:=n4_
      have BK134:=n5_
      have BK136:=n6_
      have HB:=n7_
      clear n0_ n1_ n2_ n3_ n4_ n5_ n6_ n7_
      have n0_:=Aside0.mk (Kd.R_drew HO_135001.out)
      have n1_:=Aside0.mk (Kd.R_drew HO_135002.out)
      have n2_:=Aside0.mk (Kd.R_drew HO140.out)
      have n3_:=Aside0.mk (Kd.R_drew HO143.out)
      have n4_:=Aside0.mk (zbu BK126.out)
      have n5_:=Aside0.mk (zbu BK134.out)
      have n6_:=Aside0.mk (zbu BK136.out)
      have n7_:=Aside0.mk (zbs HB.out)
      clear HO_135001
      clear HO_135002
      clear HO140
      clear HO143
      clear BK126
      clear BK134
      clear BK136
      clear HB
      have HO_135001:=n0_
      have HO_135002:=n1_
      have HO140:=n2_
      have HO143:=n3_
      have BK126:=n4_
      have BK134:=n5_
      have BK136:=n6_
      have HB:=n7_
      clear n0_ n1_ n2_ n3_ n4_ n5_ n6_ n7_
      obtain⟨Ao27,co27,eo27⟩:=Kd.R_slice HO_135001.out
      (first | subst eo27 | (injection eo27 with f1_ f2_ f3_; have f4_:=f1_.symm; have f5_:=f3_.symm; clear f1_ f2_ f3_; subst f4_; subst f5_))
      refine zco (n:=20) (S:=fun w'=>w'.cell? ⟨gb134,0,none⟩=some (.bool x135000_1)∧w'.cell? ⟨gb134,1,none⟩=some (.slice Ao27 x135001_1.length co27)∧w'.cell? ⟨gb134,2,none⟩=some (u135002)∧w'.cell? ⟨gb136,0,none⟩=some (.bool t137)∧w'.cell? ⟨gb136,1,none⟩=some (.slice Ao23 t138.length co23)∧w'.cell? ⟨gb136,2,none⟩=some (.slice Ao24 t141.length co24)) (ds:=[19]) #[zf,zf,zf,zf,zf,zf,zf,zf,zf,zf,zf,zf,zf,zf,zf,zf,zf,zf,zf,zf] (by kernel_rfl) rfl rfl ⟨(zbq BK134.out 0).trans rfl,(zbq BK134.out 1).trans rfl,(zbq BK134.out 2).trans rfl,(zbq BK136.out 0).trans rfl,(zbq BK136.out 1).trans rfl,(zbq BK136.out 2).trans rfl⟩ (fun hHeld=>?_); refine zcf rat_product.tab6 rat_product.bits6 (fun HT_ HW_=>?_)
      generalize w25.drew=w26 at HO_135001 HO_135002 HO140 HO143 BK126 BK134 BK136 HB hHeld ⊢
      refine qpT 0 (some 16) ?_
      refine qpT 2 (some 18) ?_
      refine qpT 5 (some 21) ?_
      refine qpT 7 (some 23) ?_
      refine qpT 10 (some 26) ?_
      refine qpT 12 (some 28) ?_
      refine take_ (i:=1) (N:=some 17) (v:=?_) (a':=?_) #[zt,zt,zt,zf,zf,zt,zf,zt,zf,zf,zt,zf,zt,zf,zf,zf,zf,zf,zf,zf] rfl rfl (zb9 HT_.out HW_.out (by kernel_rfl)) (fun _ _ _ h=>h) (Or.inl ⟨by rfl,?_⟩) hHeld ?_ ?_
      rotate_left
      ·
       rintro w' ⟨s0,s1,s2,s3,s4,s5⟩
       go_simp
       with_reducible rfl
      rotate_left
      ·
       simp only [Act.put,zA1,zA2,zA3,zcb,zcw]
       rfl
      refine take_ (i:=3) (N:=some 19) (v:=?_) (a':=?_) #[zt,zt,zt,zt,zf,zt,zf,zt,zf,zf,zt,zf,zt,zf,zf,zf,zf,zf,zf,zf] rfl rfl (zb9 HT_.out HW_.out (by kernel_rfl)) (fun _ _ _ h=>h) (Or.inl ⟨by rfl,?_⟩) hHeld ?_ ?_
      rotate_left
      ·
       rintro w' ⟨s0,s1,s2,s3,s4,s5⟩
       go_simp
       with_reducible rfl
      rotate_left
      ·
       simp only [Act.put,zA1,zA2,zA3,zcb,zcw]
       rfl
      refine qpT 4 (some 20) ?_
      refine take_ (i:=6) (N:=some 22) (v:=?_) (a':=?_) #[zt,zt,zt,zt,zt,zt,zt,zt,zf,zf,zt,zf,zt,zf,zf,zf,zf,zf,zf,zf] rfl rfl (zb9 HT_.out HW_.out (by kernel_rfl)) (fun _ _ _ h=>h) (Or.inl ⟨by rfl,?_⟩) hHeld ?_ ?_
      rotate_left
      ·
       rintro w' ⟨s0,s1,s2,s3,s4,s5⟩
       go_simp
       with_reducible rfl
      rotate_left
      ·
       simp only [Act.put,zA1,zA2,zA3,zcb,zcw]
       rfl
      refine take_ (i:=8) (N:=some 24) (v:=?_) (a':=?_) #[zt,zt,zt,zt,zt,zt,zt,zt,zt,zf,zt,zf,zt,zf,zf,zf,zf,zf,zf,zf] rfl rfl (zb9 HT_.out HW_.out (by kernel_rfl)) (fun _ _ _ h=>h) (Or.inl ⟨by rfl,?_⟩) hHeld ?_ ?_
      rotate_left
      ·
       rintro w' ⟨s0,s1,s2,s3,s4,s5⟩
       go_simp
       with_reducible rfl
      rotate_left
      ·
       simp only [Act.put,zA1,zA2,zA3,zcb,zcw]
       rfl
      refine take_ (i:=11) (N:=some 27) (v:=?_) (a':=?_) #[zt,zt,zt,zt,zt,zt,zt,zt,zt,zf,zt,zt,zt,zf,zf,zf,zf,zf,zf,zf] rfl rfl (zb9 HT_.out HW_.out (by kernel_rfl)) (fun _ _ _ h=>h) (Or.inl ⟨by rfl,?_⟩) hHeld ?_ ?_
      rotate_left
      ·
       rintro w' ⟨s0,s1,s2,s3,s4,s5⟩
       go_simp
       with_reducible rfl
      rotate_left
      ·
       simp only [Act.put,zA1,zA2,zA3,zcb,zcw]
       rfl
      refine take_ (i:=13) (N:=some 29) (v:=?_) (a':=?_) #[zt,zt,zt,zt,zt,zt,zt,zt,zt,zf,zt,zt,zt,zt,zf,zf,zf,zf,zf,zf] rfl rfl (zb9 HT_.out HW_.out (by kernel_rfl)) (fun _ _ _ h=>h) (Or.inl ⟨by rfl,?_⟩) hHeld ?_ ?_
      rotate_left
      ·
       rintro w' ⟨s0,s1,s2,s3,s4,s5⟩
       go_simp
       with_reducible rfl
      rotate_left
      ·
       simp only [Act.put,zA1,zA2,zA3,zcb,zcw]
       rfl
      refine qoT 9 (some 25) (fun K hK=>?_)
      refine goes_ Tryz.func162 (by kernel_rfl) rfl #[.slice Ao27 x135001_1.length co27,.slice Ao23 t138.length co23] (by rfl) rfl rfl (by (try simp only [List.map_toArray,List.map_cons,List.map_nil]); first | done | rfl | (simp only [List.length_drop,List.length_take]; rfl)) ?_
      with_reducible refine(nat_Mul.calls k1 _ _ x135001_1 _ _ t138 t144 _ ?side1 ?side2 ?side3 ?side4 A14.out).mono ?_
      (case side1=>exact qc (Kd.R_reads' HO_135001.out).2.2)
      (case side2=>exact(Kd.R_reads' HO_135001.out).2.1)
      (case side3=>exact qc (Kd.R_reads' HO140.out).2.2)
      (case side4=>exact(Kd.R_reads' HO140.out).2.1)
      rintro e w28 ⟨v145,rfl,ho0,hb⟩
      refine⟨_,rfl,?_⟩
      have n0_:=Aside0.mk (Kd.R_elder' (qr HO_135001.out) (Kd.R_base ho0) hb)
      have n1_:=Aside0.mk (Kd.R_elder' (qr HO_135002.out) (Kd.R_base ho0) hb)
      have n2_:=Aside0.mk (Kd.R_elder' (qr HO140.out) (Kd.R_base ho0) hb)
      have n3_:=Aside0.mk (Kd.R_elder' (qr HO143.out) (Kd.R_base ho0) hb)
      have n4_:=Aside0.mk (Kd.R_lower (Kd.R_new' (Kd.R_new' (Kd.R_new' (Kd.R_new' ho0 (Kd.R_lt (qr HO_135001.out))) (Kd.R_lt (qr HO_135002.out))) (Kd.R_lt (qr HO140.out))) (Kd.R_lt (qr HO143.out))) (zbp (qb3 HB.out GE126.out GE134.out GE136.out)))
      have n5_:=Aside0.mk (zbr (g:=gb126) (o:=.cells #[.bool false,.slice none 0 0,.slice none 0 0] 27 (0,0)) (qk BK126.out) hb)
      have n6_:=Aside0.mk (zbr (g:=gb134) (o:=.cells #[.bool x135000_1,.slice Ao27 x135001_1.length co27,u135002] 27 (0,0)) (qk BK134.out) hb)
      have n7_:=Aside0.mk (zbr (g:=gb136) (o:=.cells #[.bool t137,.slice Ao23 t138.length co23,.slice Ao24 t141.length co24] 27 (0,0)) (qk BK136.out) hb)
      have n8_:=Aside0.mk (zbm (qb3 HB.out GE126.out GE134.out GE136.out) hb)
      clear HO_135001
      clear HO_135002
      clear HO140
      clear HO143
      clear BK126
      clear BK134
      clear BK136
      clear HB
      have HO_135001:=n0_
      have HO_135002:=n1_
      have HO140:=n2_
      have HO143:=n3_
      have HO146:=n4_
      have BK126:=n5_
      have BK134:=n6_
      have BK136:=n7_
      have HB:=n8_
      clear n0_ n1_ n2_ n3_ n4_ n5_ n6_ n7_ n8_
      (try clear hb)
      (try clear hb2)
      (try clear hk)
      (try clear hi)
      (try clear ho0)
      obtain⟨Ao29,co29,eo29⟩:=Kd.R_slice HO_135002.out
      (first | subst eo29 | (injection eo29 with f1_ f2_ f3_; have f4_:=f1_.symm; have f5_:=f3_.symm; clear f1_ f2_ f3_; subst f4_; subst f5_))
      refine hK.out _ _ ⟨(zbq BK134.out 0).trans rfl,(zbq BK134.out 1).trans rfl,(zbq BK134.out 2).trans rfl,(zbq BK136.out 0).trans rfl,(zbq BK136.out 1).trans rfl,(zbq BK136.out 2).trans rfl⟩ (fun hHeld=>?_)
      clear hK K
      refine qn ?_
      refine qoT 14 (some 30) (fun K hK=>?_)
      refine goes_ Tryz.func162 (by kernel_rfl) rfl #[.slice Ao29 x135002_1.length co29,.slice Ao24 t141.length co24] (by rfl) rfl rfl (by (try simp only [List.map_toArray,List.map_cons,List.map_nil]); first | done | rfl | (simp only [List.length_drop,List.length_take]; rfl)) ?_
      with_reducible refine(nat_Mul.calls k1 _ _ x135002_1 _ _ t141 t147 _ ?side1 ?side2 ?side3 ?side4 A15.out).mono ?_
      (case side1=>exact qc (Kd.R_reads' HO_135002.out).2.2)
      (case side2=>exact(Kd.R_reads' HO_135002.out).2.1)
      (case side3=>exact qc (Kd.R_reads' HO143.out).2.2)
      (case side4=>exact(Kd.R_reads' HO143.out).2.1)
      rintro e w30 ⟨v148,rfl,ho0,hb⟩
      refine⟨_,rfl,?_⟩
      have n0_:=Aside0.mk (Kd.R_elder' (qr HO_135001.out) (Kd.R_base ho0) hb)
      have n1_:=Aside0.mk (Kd.R_elder' (qr HO_135002.out) (Kd.R_base ho0) hb)
      have n2_:=Aside0.mk (Kd.R_elder' (qr HO140.out) (Kd.R_base ho0) hb)
      have n3_:=Aside0.mk (Kd.R_elder' (qr HO143.out) (Kd.R_base ho0) hb)
      have n4_:=Aside0.mk (Kd.R_elder' (qr HO146.out) (Kd.R_base ho0) hb)
      have n5_:=Aside0.mk (Kd.R_lower (Kd.R_new' (Kd.R_new' (Kd.R_new' (Kd.R_new' (Kd.R_new' ho0 (Kd.R_lt (qr HO_135001.out))) (Kd.R_lt (qr HO_135002.out))) (Kd.R_lt (qr HO140.out))) (Kd.R_lt (qr HO143.out))) (Kd.R_lt (qr HO146.out))) (zbp (qb3 HB.out GE126.out GE134.out GE136.out)))
      have n6_:=Aside0.mk (zbr (g:=gb126) (o:=.cells #[.bool false,.slice none 0 0,.slice none 0 0] 27 (0,0)) (qk BK126.out) hb)
      have n7_:=Aside0.mk (zbr (g:=gb134) (o:=.cells #[.bool x135000_1,.slice Ao27 x135001_1.length co27,.slice Ao29 x135002_1.length co29] 27 (0,0)) (qk BK134.out) hb)
      have n8_:=Aside0.mk (zbr (g:=gb136) (o:=.cells #[.bool t137,.slice Ao23 t138.length co23,.slice Ao24 t141.length co24] 27 (0,0)) (qk BK136.out) hb)
      have n9_:=Aside0.mk (zbm (qb3 HB.out GE126.out GE134.out GE136.out) hb)
      clear HO_135001
      clear HO_135002
      clear HO140
      clear HO143
      clear HO146
      clear BK126
      clear BK134
      clear BK136
      clear HB
      have HO_135001:=n0_
      have HO_135002:=n1_
      have HO140:=n2_
      have HO143:=n3_
      have HO146:=n4_
      have HO149:=n5_
      have BK126:=n6_
      have BK134:=n7_
      have BK136:=n8_
      have HB:=n9_
      clear n0_ n1_ n2_ n3_ n4_ n5_ n6_ n7_ n8_ n9_
      (try clear hb)
      (try clear hb2)
      (try clear hk)
      (try clear hi)
      (try clear ho0)
      obtain⟨Ao31,co31,eo31⟩:=Kd.R_slice HO146.out
      (first | subst eo31 | (injection eo31 with f1_ f2_ f3_; have f4_:=f1_.symm; have f5_:=f3_.symm; clear f1_ f2_ f3_; subst f4_; subst f5_))
      obtain⟨Ao32,co32,eo32⟩:=Kd.R_slice HO149.out
      (first | subst eo32 | (injection eo32 with f1_ f2_ f3_; have f4_:=f1_.symm; have f5_:=f3_.symm; clear f1_ f2_ f3_; subst f4_; subst f5_))
      refine hK.out _ _ ⟨(zbq BK134.out 0).trans rfl,(zbq BK134.out 1).trans rfl,(zbq BK134.out 2).trans rfl,(zbq BK136.out 0).trans rfl,(zbq BK136.out 1).trans rfl,(zbq BK136.out 2).trans rfl⟩ (fun hHeld=>?_)
      clear hK K
      refine qn ?_
      refine qoT 15 (some 31) (fun K hK=>?_)
      refine goes_ Tryz.func133 (by kernel_rfl) rfl #[.bool (x135000_1 != t137),.slice Ao31 t144.length co31,.slice Ao32 t147.length co32] (by rfl) rfl rfl (by (try simp only [List.map_toArray,List.map_cons,List.map_nil]); first | done | rfl | (simp only [List.length_drop,List.length_take]; rfl)) ?_
      with_reducible refine(rat_Make.calls (x135000_1 != t137) _ _ t144 _ _ t147 t150 t151 t154 t157 _ ?side1 ?side2 ?side3 ?side4 A16.out).mono ?_
      (case side1=>exact qc (Kd.R_reads' HO146.out).2.2)
      (case side2=>exact(Kd.R_reads' HO146.out).2.1)
      (case side3=>exact qc (Kd.R_reads' HO149.out).2.2)
      (case side4=>exact(Kd.R_reads' HO149.out).2.1)
      rintro e w33 ⟨v152,v155,rfl,ho0,ho1,hb⟩
      refine⟨_,rfl,?_⟩
      have n0_:=Aside0.mk (Kd.R_mono (Kd.R_told (Kd.R_told (Kd.R_old (qr HO_135001.out) hb) (Kd.R_base ho0)) (Kd.R_base ho1)) (fun _ h_=>h_.1))
      have n1_:=Aside0.mk (Kd.R_mono (Kd.R_told (Kd.R_told (Kd.R_old (qr HO_135002.out) hb) (Kd.R_base ho0)) (Kd.R_base ho1)) (fun _ h_=>h_.1))
      have n2_:=Aside0.mk (Kd.R_mono (Kd.R_told (Kd.R_told (Kd.R_old (qr HO140.out) hb) (Kd.R_base ho0)) (Kd.R_base ho1)) (fun _ h_=>h_.1))
      have n3_:=Aside0.mk (Kd.R_mono (Kd.R_told (Kd.R_told (Kd.R_old (qr HO143.out) hb) (Kd.R_base ho0)) (Kd.R_base ho1)) (fun _ h_=>h_.1))
      have n4_:=Aside0.mk (Kd.R_mono (Kd.R_told (Kd.R_told (Kd.R_old (qr HO146.out) hb) (Kd.R_base ho0)) (Kd.R_base ho1)) (fun _ h_=>h_.1))
      have n5_:=Aside0.mk (Kd.R_mono (Kd.R_told (Kd.R_told (Kd.R_old (qr HO149.out) hb) (Kd.R_base ho0)) (Kd.R_base ho1)) (fun _ h_=>h_.1))
      have n6_:=Aside0.mk (Kd.R_lower (Kd.R_new' (Kd.R_new' (Kd.R_new' (Kd.R_new' (Kd.R_new' (Kd.R_new' ho0 (Kd.R_lt (qr HO_135001.out))) (Kd.R_lt (qr HO_135002.out))) (Kd.R_lt (qr HO140.out))) (Kd.R_lt (qr HO143.out))) (Kd.R_lt (qr HO146.out))) (Kd.R_lt (qr HO149.out))) (zbp (qb3 HB.out GE126.out GE134.out GE136.out)))
      have n7_:=Aside0.mk (Kd.R_lower (Kd.R_new' (Kd.R_new' (Kd.R_new' (Kd.R_new' (Kd.R_new' (Kd.R_new' ho1 (Kd.R_lt (qr HO_135001.out))) (Kd.R_lt (qr HO_135002.out))) (Kd.R_lt (qr HO140.out))) (Kd.R_lt (qr HO143.out))) (Kd.R_lt (qr HO146.out))) (Kd.R_lt (qr HO149.out))) (zbp (qb3 HB.out GE126.out GE134.out GE136.out)))
      have n8_:=Aside0.mk (zbr (g:=gb126) (o:=.cells #[.bool false,.slice none 0 0,.slice none 0 0] 27 (0,0)) (qk BK126.out) hb)
      have n9_:=Aside0.mk (zbr (g:=gb134) (o:=.cells #[.bool x135000_1,.slice Ao27 x135001_1.length co27,.slice Ao29 x135002_1.length co29] 27 (0,0)) (qk BK134.out) hb)
      have n10_:=Aside0.mk (zbr (g:=gb136) (o:=.cells #[.bool t137,.slice Ao23 t138.length co23,.slice Ao24 t141.length co24] 27 (0,0)) (qk BK136.out) hb)
      have n11_:=Aside0.mk (zbm (qb3 HB.out GE126.out GE134.out GE136.out) hb)
      clear HO_135001
      clear HO_135002
      clear HO140
      clear HO143
      clear HO146
      clear HO149
      clear BK126
      clear BK134
      clear BK136
      clear HB
      have HO_135001:=n0_
      have HO_135002:=n1_
      have HO140:=n2_
      have HO143:=n3_
      have HO146:=n4_
      have HO149:=n5_
      have HO153:=n6_
      have HO156:=n7_
      have BK126:=n8_
      have BK134:=n9_
      have BK136:=n10_
      have HB:=n11_
      clear n0_ n1_ n2_ n3_ n4_ n5_ n6_ n7_ n8_ n9_ n10_ n11_
      (try clear hb)
      (try clear hb2)
      (try clear hk)
      (try clear hi)
      (try clear ho0)
      (try clear ho1)
      obtain⟨Ao35,co35,eo35⟩:=Kd.R_slice HO153.out
      (first | subst eo35 | (injection eo35 with f1_ f2_ f3_; have f4_:=f1_.symm; have f5_:=f3_.symm; clear f1_ f2_ f3_; subst f4_; subst f5_))
      obtain⟨Ao37,co37,eo37⟩:=Kd.R_slice HO156.out
      (first | subst eo37 | (injection eo37 with f1_ f2_ f3_; have f4_:=f1_.symm; have f5_:=f3_.symm; clear f1_ f2_ f3_; subst f4_; subst f5_))
      refine hK.out _ _ ⟨(zbq BK134.out 0).trans rfl,(zbq BK134.out 1).trans rfl,(zbq BK134.out 2).trans rfl,(zbq BK136.out 0).trans rfl,(zbq BK136.out 1).trans rfl,(zbq BK136.out 2).trans rfl⟩ (fun hHeld=>?_)
      clear hK K
      refine qn ?_
      refine qpT 16 (some 15) ?_
      refine qpT 17 (some 32) ?_
      refine qpT 18 (some 33) ?_
      refine qlT 19 none (fun K hK=>?_)
      have hs34:w33.cell? ⟨gb134,0,none⟩=some (.bool x135000_1):=(zbq BK134.out 0).trans rfl
      have hfs34:=zbA BK134.out 0
      have hns34_0:=NB126_134.out
      have hns34_2:=NB136_134.out
      have hms34_0:=NB134_126.out
      have hms34_2:=NB134_136.out
      have hs36:w33.cell? ⟨gb134,1,none⟩=some (.slice Ao27 x135001_1.length co27):=(zbq BK134.out 1).trans rfl
      have hfs36:=zbA BK134.out 1
      have hns36_0:=NB126_134.out
      have hns36_2:=NB136_134.out
      have hms36_0:=NB134_126.out
      have hms36_2:=NB134_136.out
      have hs38:w33.cell? ⟨gb134,2,none⟩=some (.slice Ao29 x135002_1.length co29):=(zbq BK134.out 2).trans rfl
      have hfs38:=zbA BK134.out 2
      have hns38_0:=NB126_134.out
      have hns38_2:=NB136_134.out
      have hms38_0:=NB134_126.out
      have hms38_2:=NB134_136.out
      refine qx ?_
      refine hK.out _ _ ?_
      clear hK K
      refine done_ (done_of HT_.out (by kernel_rfl)) ?_
      try go_wp2
      go_roundg k1
      case measure=>have:=HK1.out; omega
      case rel=>exact⟨(wrap64 (x9_1+1)),(t150),(t151),(t154),(.slice Ao35 t151.length co35),(.slice Ao37 t154.length co37),(by first | rfl | (simp; done) | (simp [*]; done)),H',⟨by have:=HK1.out; omega⟩,⟨by (with_reducible repeat (first | apply Kd.R_alloc | apply Kd.R_drewN | apply Kd.R_drew)); exact Kd.R_mono (Kd.R_far (p:=⟨gb134,2,none⟩) (Kd.R_far (p:=⟨gb134,1,none⟩) (Kd.R_far (p:=⟨gb134,0,none⟩) (Kd.R_types HO153.out BK134.out (by decide)) (fun _ hk=>hk.2) (.bool t150)) (fun _ hk=>hk.2) (.slice Ao35 t151.length co35)) (fun _ hk=>hk.2) (.slice Ao37 t154.length co37)) (fun _ hk=>hk.1.1.1.1.1.1.1)⟩,⟨by (with_reducible repeat (first | apply Kd.R_alloc | apply Kd.R_drewN | apply Kd.R_drew)); exact Kd.R_mono (Kd.R_far (p:=⟨gb134,2,none⟩) (Kd.R_far (p:=⟨gb134,1,none⟩) (Kd.R_far (p:=⟨gb134,0,none⟩) (Kd.R_types HO156.out BK134.out (by decide)) (fun _ hk=>hk.2) (.bool t150)) (fun _ hk=>hk.2) (.slice Ao35 t151.length co35)) (fun _ hk=>hk.2) (.slice Ao37 t154.length co37)) (fun _ hk=>hk.1.1.1.1.1.1.1)⟩,⟨by (with_reducible repeat (first | refine zbv ?_ _ | refine zbu ?_ | refine zbt ?_ _)); refine zbJ ?_ NB126_134.out _; (with_reducible repeat (first | refine zbv ?_ _ | refine zbu ?_ | refine zbt ?_ _)); refine zbJ ?_ NB126_134.out _; (with_reducible repeat (first | refine zbv ?_ _ | refine zbu ?_ | refine zbt ?_ _)); refine zbJ ?_ NB126_134.out _; (with_reducible repeat (first | refine zbv ?_ _ | refine zbu ?_ | refine zbt ?_ _)); exact BK126.out⟩,⟨by (with_reducible repeat (first | refine zbv ?_ _ | refine zbu ?_ | refine zbt ?_ _)); refine zbF (cs:=#[.bool t150,.slice Ao35 t151.length co35,.slice Ao29 x135002_1.length co29]) ?_ 2 _ rfl; (with_reducible repeat (first | refine zbv ?_ _ | refine zbu ?_ | refine zbt ?_ _)); refine zbF (cs:=#[.bool t150,.slice Ao27 x135001_1.length co27,.slice Ao29 x135002_1.length co29]) ?_ 1 _ rfl; (with_reducible repeat (first | refine zbv ?_ _ | refine zbu ?_ | refine zbt ?_ _)); refine zbF (cs:=#[.bool x135000_1,.slice Ao27 x135001_1.length co27,.slice Ao29 x135002_1.length co29]) ?_ 0 _ rfl; (with_reducible repeat (first | refine zbv ?_ _ | refine zbu ?_ | refine zbt ?_ _)); exact BK134.out⟩,⟨by repeat (first | (with_reducible first | exact HB.out | apply zbn | apply zbo | apply zbs | refine zbB ?_ GE126.out | refine zbB ?_ GE134.out | refine zbB ?_ GE136.out) | exact HB.out)⟩⟩
     ·
      rw [if_neg c12] at H
      exact absurd H (by simp)
    ·
     rw [if_neg c11] at H
     exact absurd H (by simp)
   ·
    rw [if_neg c10] at H
    have c10b0:decide (x9_1 < (l0.length:Int))=false:=decide_eq_false c10
    clear c10
    simp only [Option.some.injEq,Prod.mk.injEq] at H
    obtain⟨rfl,rfl,rfl⟩:=H
    have hnb39:=NB134_126.out
    have hnc39:=NB126_134.out
    have hcz40_0:wr.cell? ⟨gb134,0,none⟩=some (.bool x135000_1):=(zbq BK134.out 0).trans rfl
    have hcz40_1:wr.cell? ⟨gb134,1,none⟩=some (u135001):=(zbq BK134.out 1).trans rfl
    have hcz40_2:wr.cell? ⟨gb134,2,none⟩=some (u135002):=(zbq BK134.out 2).trans rfl
    have hfz40_0:=zbA BK134.out 0
    have hfz40_1:=zbA BK134.out 1
    have hfz40_2:=zbA BK134.out 2
    have hcz41_0:wr.cell? ⟨gb126,0,none⟩=some (.bool false):=(zbq BK126.out 0).trans rfl
    have hcz41_1:wr.cell? ⟨gb126,1,none⟩=some (.slice none 0 0):=(zbq BK126.out 1).trans rfl
    have hcz41_2:wr.cell? ⟨gb126,2,none⟩=some (.slice none 0 0):=(zbq BK126.out 2).trans rfl
    have hfz41_0:=zbA BK126.out 0
    have hfz41_1:=zbA BK126.out 1
    have hfz41_2:=zbA BK126.out 2
    obtain⟨Ao42,co42,eo42⟩:=Kd.R_slice HO_135001.out
    subst eo42
    obtain⟨Ao43,co43,eo43⟩:=Kd.R_slice HO_135002.out
    subst eo43
    go_wp2
    refine bodyPost_ret (results_cell_row rfl _ _ gb126 27 #[.bool x135000_1,.slice Ao42 x135001_1.length co42,.slice Ao43 x135002_1.length co43] (0,0) _ rfl (by (with_reducible repeat (first | refine zbv ?_ _ | refine zbu ?_ | refine zbt ?_ _)); refine zbF (cs:=#[.bool x135000_1,.slice Ao42 x135001_1.length co42,.slice none 0 0]) ?_ 2 _ rfl; (with_reducible repeat (first | refine zbv ?_ _ | refine zbu ?_ | refine zbt ?_ _)); refine zbF (cs:=#[.bool x135000_1,.slice none 0 0,.slice none 0 0]) ?_ 1 _ rfl; (with_reducible repeat (first | refine zbv ?_ _ | refine zbu ?_ | refine zbt ?_ _)); refine zbF (cs:=#[.bool false,.slice none 0 0,.slice none 0 0]) ?_ 0 _ rfl; (with_reducible repeat (first | refine zbv ?_ _ | refine zbu ?_ | refine zbt ?_ _)); exact BK126.out) Tryz.underlying27 rfl (by kernel_rfl)) rfl ?_
    exact⟨_,_,by first | rfl | (simp [zbx,zbw]<;>rfl) | (simp [*,zbx,zbw]<;>rfl),by (with_reducible repeat (first | apply Kd.R_alloc | apply Kd.R_drewN | apply Kd.R_drew)); exact Kd.R_mono (Kd.R_far (p:=⟨gb126,2,none⟩) (Kd.R_far (p:=⟨gb126,1,none⟩) (Kd.R_far (p:=⟨gb126,0,none⟩) (Kd.R_types HO_135001.out BK126.out (by decide)) (fun _ hk=>hk.2) (.bool x135000_1)) (fun _ hk=>hk.2) (.slice Ao42 x135001_1.length co42)) (fun _ hk=>hk.2) (.slice Ao43 x135002_1.length co43)) (fun _ hk=>hk.1),by (with_reducible repeat (first | apply Kd.R_alloc | apply Kd.R_drewN | apply Kd.R_drew)); exact Kd.R_mono (Kd.R_far (p:=⟨gb126,2,none⟩) (Kd.R_far (p:=⟨gb126,1,none⟩) (Kd.R_far (p:=⟨gb126,0,none⟩) (Kd.R_types HO_135002.out BK126.out (by decide)) (fun _ hk=>hk.2) (.bool x135000_1)) (fun _ hk=>hk.2) (.slice Ao42 x135001_1.length co42)) (fun _ hk=>hk.2) (.slice Ao43 x135002_1.length co43)) (fun _ hk=>hk.1),by repeat (first | (with_reducible first | exact HB.out | apply zbn | apply zbo | apply zbs | refine zbB ?_ GE126.out | refine zbB ?_ GE134.out) | exact HB.out)⟩
def rat_Neg.f (a0_0:Bool) (l0_1:List Int) (l0_2:List Int):Option (Bool×List Int×List Int):=(rat_Norm.f a0_0 l0_1 l0_2).bind fun bt173=>(if (bt173.2.1.length:Int) > 0 then (some (!bt173.1,bt173.2.1,bt173.2.2)) else (some (false,bt173.2.1,bt173.2.2)))
theorem rat_Neg.calls (a0_0:Bool) (A0_1:Option Addr) (c0_1:Nat) (l0_1:List Int) (A0_2:Option Addr) (c0_2:Nat) (l0_2:List Int) (r1:Bool) (r2:List Int) (r3:List Int) (w:World) (hr0_1:Kd.C (Kd.int .u32) w A0_1 l0_1.length l0_1) (hc0_1:l0_1.length≤c0_1) (hr0_2:Kd.C (Kd.int .u32) w A0_2 l0_2.length l0_2) (hc0_2:l0_2.length≤c0_2) (h:rat_Neg.f a0_0 l0_1 l0_2=some (r1,r2,r3)) :
  Calls Tryz.prog 105 #[.agg #[.bool a0_0,.slice A0_1 l0_1.length c0_1,.slice A0_2 l0_2.length c0_2]] w fun e w'=>∃ v1_ v2_:Value,e=.returned (.agg #[.bool r1,v1_,v2_])∧Kd.R (Kd.int .u32) 81 w' w.heap.size (fun k_=>some k_≠(v2_:Value).ownBlock) v1_ r2∧Kd.R (Kd.int .u32) 81 w' w.heap.size (fun k_=>some k_≠(v1_:Value).ownBlock) v2_ r3∧Below w.heap.size w w':=by
 have hu27:=Tryz.underlying27
 have HR0_1:=Aside0.mk hr0_1
 have HC0_1:=Aside0.mk hc0_1
 clear hr0_1 hc0_1
 have HR0_2:=Aside0.mk hr0_2
 have HC0_2:=Aside0.mk hc0_2
 clear hr0_2 hc0_2
 have HB:=Aside0.mk (Below.refl w.heap.size w)
 have H:((rat_Norm.f a0_0 l0_1 l0_2).bind fun bt173=>(if (bt173.2.1.length:Int) > 0 then (some (!bt173.1,bt173.2.1,bt173.2.2)) else (some (false,bt173.2.1,bt173.2.2))))=some (r1,r2,r3):=h
 clear h
 replace H:=Option.bind_eq_some_iff.mp H
 obtain⟨⟨t173,t174,t177⟩,A20,H⟩:=H
 replace H:(if (t174.length:Int) > 0 then (some (!t173,t174,t177)) else (some (false,t174,t177)))=some (r1,r2,r3):=H
 have A2:=Aside0.mk A20
 clear A20
 by_cases c3:(t174.length:Int) > 0
 ·
  rw [if_pos c3] at H
  have c3b0:decide (0 < (t174.length:Int))=true:=decide_eq_true c3
  have c3b1:decide (0 < t174.length)=true:=decide_eq_true (by omega)
  clear c3
  simp only [Option.some.injEq,Prod.mk.injEq] at H
  obtain⟨rfl,rfl,rfl⟩:=H
  go_enter Tryz.func105,Tryz.ntmps105
  go_wp2_with (first | ((with_reducible refine zbD (N:=1) rfl ?_); refine zbC ?hg (N:=1) ?hd (cs:=#[.bool a0_0,.slice A0_1 l0_1.length c0_1,.slice A0_2 l0_2.length c0_2]) (t:=27) ?hr ?_; (case hd=>rfl); (case hg=>rfl); (case hr=>first | (go_simp; done) | (go_simp; rfl)); intro gb171 hg w4 hbox hb; have n0_:=Aside0.mk (zbm (qb HB.out) hb); have n1_:=Aside0.mk (hbox); have n2_:=Aside0.mk ((by rw [hg]; exact(zbp (qb HB.out)):w.heap.size≤gb171)); have n3_:=Aside0.mk ((by rw [hg]; exact(zbp (qb HB.out)):w.heap.size≤gb171)); clear HB; have HB:=n0_; have BK171:=n1_; have GW171:=n2_; have GE171:=n3_; clear n0_ n1_ n2_ n3_; clear hb hbox hg) | ((with_reducible refine zbD (N:=2) rfl ?_); refine zbC ?hg (N:=2) ?hd (cs:=#[.bool false,.slice none 0 0,.slice none 0 0]) (t:=27) ?hr ?_; (case hd=>rfl); (case hg=>rfl); (case hr=>first | (go_simp; done) | (go_simp; rfl)); intro gb172 hg w5 hbox hb; have n0_:=Aside0.mk (zbr (g:=gb171) (o:=.cells #[.bool a0_0,.slice A0_1 l0_1.length c0_1,.slice A0_2 l0_2.length c0_2] 27 (0,0)) (qk BK171.out) hb); have n1_:=Aside0.mk (zbm (qb1 HB.out GE171.out) hb); have n2_:=Aside0.mk (hbox); have n3_:=Aside0.mk ((by rw [hg]; exact(zbp (qb1 HB.out GE171.out)):w.heap.size≤gb172)); have n4_:=Aside0.mk ((by rw [hg]; exact(zbp (qb1 HB.out GE171.out)):w.heap.size≤gb172)); have n5_:=Aside0.mk ((by rw [hg]; exact Nat.ne_of_lt (zbL (g:=gb171) (o:=.cells #[.bool a0_0,.slice A0_1 l0_1.length c0_1,.slice A0_2 l0_2.length c0_2] 27 (0,0)) (qk BK171.out)):gb171≠gb172)); have n6_:=Aside0.mk ((by rw [hg]; exact Nat.ne_of_gt (zbL (g:=gb171) (o:=.cells #[.bool a0_0,.slice A0_1 l0_1.length c0_1,.slice A0_2 l0_2.length c0_2] 27 (0,0)) (qk BK171.out)):gb172≠gb171)); clear BK171; clear HB; have BK171:=n0_; have HB:=n1_; have BK172:=n2_; have GW172:=n3_; have GE172:=n4_; have NB171_172:=n5_; have NB172_171:=n6_; clear n0_ n1_ n2_ n3_ n4_ n5_ n6_; clear hb hbox hg; have hnb6:=NB171_172.out; have hnc6:=NB172_171.out; obtain⟨hcz7_0,hcz7_1,hcz7_2,hfz7_0,hfz7_1,hfz7_2⟩:=qz BK171.out) | ((with_reducible refine zbz (f:=85) rfl ?_); refine zbK (some 4) rfl rfl Tryz.func85 (by kernel_rfl) rfl #[.agg #[.bool a0_0,.slice A0_1 l0_1.length c0_1,.slice A0_2 l0_2.length c0_2]] rfl (by (try simp only [List.map_toArray,List.map_cons,List.map_nil]); first | done | rfl | (simp only [List.length_drop,List.length_take]; rfl)) ?_; (with_reducible refine(rat_Norm.calls a0_0 _ _ l0_1 _ _ l0_2 t173 t174 t177 _ ?side1 ?side2 ?side3 ?side4 A2.out).mono ?_); (case side1=>exact qc (Kd.C_below HR0_1.out HB.out)); (case side2=>exact HC0_1.out); (case side3=>exact qc (Kd.C_below HR0_2.out HB.out)); (case side4=>exact HC0_2.out); rintro e w8 ⟨v175,v178,rfl,ho0,ho1,hb⟩; refine⟨_,rfl,?_⟩; have n0_:=Aside0.mk (Kd.R_lower ho0 (zbp (qb2 HB.out GE171.out GE172.out))); have n1_:=Aside0.mk (Kd.R_lower ho1 (zbp (qb2 HB.out GE171.out GE172.out))); have n2_:=Aside0.mk (zbr (g:=gb171) (o:=.cells #[.bool a0_0,.slice A0_1 l0_1.length c0_1,.slice A0_2 l0_2.length c0_2] 27 (0,0)) (qk BK171.out) hb); have n3_:=Aside0.mk (zbr (g:=gb172) (o:=.cells #[.bool false,.slice none 0 0,.slice none 0 0] 27 (0,0)) (qk BK172.out) hb); have n4_:=Aside0.mk (zbm (qb2 HB.out GE171.out GE172.out) hb); clear BK171; clear BK172; clear HB; have HO176:=n0_; have HO179:=n1_; have BK171:=n2_; have BK172:=n3_; have HB:=n4_; clear n0_ n1_ n2_ n3_ n4_; (try clear hb); (try clear hb2); (try clear hk); (try clear hi); (try clear ho0); (try clear ho1); obtain⟨hcz9_0,hcz9_1,hcz9_2,hfz9_0,hfz9_1,hfz9_2⟩:=qz BK171.out; obtain⟨Ao10,co10,eo10⟩:=Kd.R_slice HO176.out; subst eo10; obtain⟨Ao11,co11,eo11⟩:=Kd.R_slice HO179.out; subst eo11; obtain⟨hcz12_0,hcz12_1,hcz12_2,hfz12_0,hfz12_1,hfz12_2⟩:=qz BK172.out))
  refine bodyPost_ret (results_cell_row rfl _ _ gb172 27 #[.bool (!t173),.slice Ao10 t174.length co10,.slice Ao11 t177.length co11] (0,0) _ rfl (by (with_reducible repeat (first | refine zbv ?_ _ | refine zbu ?_ | refine zbt ?_ _)); refine zbF (cs:=#[.bool (!t173),.slice Ao10 t174.length co10,.slice none 0 0]) ?_ 2 _ rfl; (with_reducible repeat (first | refine zbv ?_ _ | refine zbu ?_ | refine zbt ?_ _)); refine zbF (cs:=#[.bool (!t173),.slice none 0 0,.slice none 0 0]) ?_ 1 _ rfl; (with_reducible repeat (first | refine zbv ?_ _ | refine zbu ?_ | refine zbt ?_ _)); refine zbF (cs:=#[.bool false,.slice none 0 0,.slice none 0 0]) ?_ 0 _ rfl; (with_reducible repeat (first | refine zbv ?_ _ | refine zbu ?_ | refine zbt ?_ _)); refine zbJ ?_ NB172_171.out _; (with_reducible repeat (first | refine zbv ?_ _ | refine zbu ?_ | refine zbt ?_ _)); refine zbJ ?_ NB172_171.out _; (with_reducible repeat (first | refine zbv ?_ _ | refine zbu ?_ | refine zbt ?_ _)); refine zbJ ?_ NB172_171.out _; (with_reducible repeat (first | refine zbv ?_ _ | refine zbu ?_ | refine zbt ?_ _)); refine zbJ ?_ NB172_171.out _; (with_reducible repeat (first | refine zbv ?_ _ | refine zbu ?_ | refine zbt ?_ _)); exact BK172.out) Tryz.underlying27 rfl (by kernel_rfl)) rfl ?_
  exact⟨_,_,by first | rfl | (simp [zbx,zbw]<;>rfl) | (simp [*,zbx,zbw]<;>rfl),by (with_reducible repeat (first | apply Kd.R_alloc | apply Kd.R_drewN | apply Kd.R_drew)); exact Kd.R_mono (Kd.R_far (p:=⟨gb172,2,none⟩) (Kd.R_far (p:=⟨gb172,1,none⟩) (Kd.R_far (p:=⟨gb172,0,none⟩) (Kd.R_far (p:=⟨gb171,0,none⟩) (Kd.R_far (p:=⟨gb171,2,none⟩) (Kd.R_far (p:=⟨gb171,1,none⟩) (Kd.R_far (p:=⟨gb171,0,none⟩) (Kd.R_types (Kd.R_types HO176.out BK171.out (by decide)) BK172.out (by decide)) (fun _ hk=>hk.1.2) (.bool t173)) (fun _ hk=>hk.1.2) (.slice Ao10 t174.length co10)) (fun _ hk=>hk.1.2) (.slice Ao11 t177.length co11)) (fun _ hk=>hk.1.2) (.bool (!t173))) (fun _ hk=>hk.2) (.bool (!t173))) (fun _ hk=>hk.2) (.slice Ao10 t174.length co10)) (fun _ hk=>hk.2) (.slice Ao11 t177.length co11)) (fun _ hk=>hk.1.1),by (with_reducible repeat (first | apply Kd.R_alloc | apply Kd.R_drewN | apply Kd.R_drew)); exact Kd.R_mono (Kd.R_far (p:=⟨gb172,2,none⟩) (Kd.R_far (p:=⟨gb172,1,none⟩) (Kd.R_far (p:=⟨gb172,0,none⟩) (Kd.R_far (p:=⟨gb171,0,none⟩) (Kd.R_far (p:=⟨gb171,2,none⟩) (Kd.R_far (p:=⟨gb171,1,none⟩) (Kd.R_far (p:=⟨gb171,0,none⟩) (Kd.R_types (Kd.R_types HO179.out BK171.out (by decide)) BK172.out (by decide)) (fun _ hk=>hk.1.2) (.bool t173)) (fun _ hk=>hk.1.2) (.slice Ao10 t174.length co10)) (fun _ hk=>hk.1.2) (.slice Ao11 t177.length co11)) (fun _ hk=>hk.1.2) (.bool (!t173))) (fun _ hk=>hk.2) (.bool (!t173))) (fun _ hk=>hk.2) (.slice Ao10 t174.length co10)) (fun _ hk=>hk.2) (.slice Ao11 t177.length co11)) (fun _ hk=>hk.1.1),by repeat (first | (with_reducible first | exact HB.out | apply zbn | apply zbo | apply zbs | refine zbB ?_ GE171.out | refine zbB ?_ GE172.out) | exact HB.out)⟩
 ·
  rw [if_neg c3] at H
  have c3b0:decide (0 < (t174.length:Int))=false:=decide_eq_false c3
  have c3b1:decide (0 < t174.length)=false:=decide_eq_false (by omega)
  clear c3
  simp only [Option.some.injEq,Prod.mk.injEq] at H
  obtain⟨rfl,rfl,rfl⟩:=H
  go_enter Tryz.func105,Tryz.ntmps105
  go_wp2_with (first | ((with_reducible refine zbD (N:=1) rfl ?_); refine zbC ?hg (N:=1) ?hd (cs:=#[.bool a0_0,.slice A0_1 l0_1.length c0_1,.slice A0_2 l0_2.length c0_2]) (t:=27) ?hr ?_; (case hd=>rfl); (case hg=>rfl); (case hr=>first | (go_simp; done) | (go_simp; rfl)); intro gb171 hg w13 hbox hb; have n0_:=Aside0.mk (zbm (qb HB.out) hb); have n1_:=Aside0.mk (hbox); have n2_:=Aside0.mk ((by rw [hg]; exact(zbp (qb HB.out)):w.heap.size≤gb171)); have n3_:=Aside0.mk ((by rw [hg]; exact(zbp (qb HB.out)):w.heap.size≤gb171)); clear HB; have HB:=n0_; have BK171:=n1_; have GW171:=n2_; have GE171:=n3_; clear n0_ n1_ n2_ n3_; clear hb hbox hg) | ((with_reducible refine zbD (N:=2) rfl ?_); refine zbC ?hg (N:=2) ?hd (cs:=#[.bool false,.slice none 0 0,.slice none 0 0]) (t:=27) ?hr ?_; (case hd=>rfl); (case hg=>rfl); (case hr=>first | (go_simp; done) | (go_simp; rfl)); intro gb172 hg w14 hbox hb; have n0_:=Aside0.mk (zbr (g:=gb171) (o:=.cells #[.bool a0_0,.slice A0_1 l0_1.length c0_1,.slice A0_2 l0_2.length c0_2] 27 (0,0)) (qk BK171.out) hb); have n1_:=Aside0.mk (zbm (qb1 HB.out GE171.out) hb); have n2_:=Aside0.mk (hbox); have n3_:=Aside0.mk ((by rw [hg]; exact(zbp (qb1 HB.out GE171.out)):w.heap.size≤gb172)); have n4_:=Aside0.mk ((by rw [hg]; exact(zbp (qb1 HB.out GE171.out)):w.heap.size≤gb172)); have n5_:=Aside0.mk ((by rw [hg]; exact Nat.ne_of_lt (zbL (g:=gb171) (o:=.cells #[.bool a0_0,.slice A0_1 l0_1.length c0_1,.slice A0_2 l0_2.length c0_2] 27 (0,0)) (qk BK171.out)):gb171≠gb172)); have n6_:=Aside0.mk ((by rw [hg]; exact Nat.ne_of_gt (zbL (g:=gb171) (o:=.cells #[.bool a0_0,.slice A0_1 l0_1.length c0_1,.slice A0_2 l0_2.length c0_2] 27 (0,0)) (qk BK171.out)):gb172≠gb171)); clear BK171; clear HB; have BK171:=n0_; have HB:=n1_; have BK172:=n2_; have GW172:=n3_; have GE172:=n4_; have NB171_172:=n5_; have NB172_171:=n6_; clear n0_ n1_ n2_ n3_ n4_ n5_ n6_; clear hb hbox hg; have hnb15:=NB171_172.out; have hnc15:=NB172_171.out; obtain⟨hcz16_0,hcz16_1,hcz16_2,hfz16_0,hfz16_1,hfz16_2⟩:=qz BK171.out) | ((with_reducible refine zbz (f:=85) rfl ?_); refine zbK (some 4) rfl rfl Tryz.func85 (by kernel_rfl) rfl #[.agg #[.bool a0_0,.slice A0_1 l0_1.length c0_1,.slice A0_2 l0_2.length c0_2]] rfl (by (try simp only [List.map_toArray,List.map_cons,List.map_nil]); first | done | rfl | (simp only [List.length_drop,List.length_take]; rfl)) ?_; (with_reducible refine(rat_Norm.calls a0_0 _ _ l0_1 _ _ l0_2 t173 t174 t177 _ ?side1 ?side2 ?side3 ?side4 A2.out).mono ?_); (case side1=>exact qc (Kd.C_below HR0_1.out HB.out)); (case side2=>exact HC0_1.out); (case side3=>exact qc (Kd.C_below HR0_2.out HB.out)); (case side4=>exact HC0_2.out); rintro e w17 ⟨v175,v178,rfl,ho0,ho1,hb⟩; refine⟨_,rfl,?_⟩; have n0_:=Aside0.mk (Kd.R_lower ho0 (zbp (qb2 HB.out GE171.out GE172.out))); have n1_:=Aside0.mk (Kd.R_lower ho1 (zbp (qb2 HB.out GE171.out GE172.out))); have n2_:=Aside0.mk (zbr (g:=gb171) (o:=.cells #[.bool a0_0,.slice A0_1 l0_1.length c0_1,.slice A0_2 l0_2.length c0_2] 27 (0,0)) (qk BK171.out) hb); have n3_:=Aside0.mk (zbr (g:=gb172) (o:=.cells #[.bool false,.slice none 0 0,.slice none 0 0] 27 (0,0)) (qk BK172.out) hb); have n4_:=Aside0.mk (zbm (qb2 HB.out GE171.out GE172.out) hb); clear BK171; clear BK172; clear HB; have HO176:=n0_; have HO179:=n1_; have BK171:=n2_; have BK172:=n3_; have HB:=n4_; clear n0_ n1_ n2_ n3_ n4_; (try clear hb); (try clear hb2); (try clear hk); (try clear hi); (try clear ho0); (try clear ho1); obtain⟨hcz18_0,hcz18_1,hcz18_2,hfz18_0,hfz18_1,hfz18_2⟩:=qz BK171.out; obtain⟨Ao19,co19,eo19⟩:=Kd.R_slice HO176.out; subst eo19; obtain⟨Ao20,co20,eo20⟩:=Kd.R_slice HO179.out; subst eo20; obtain⟨hcz21_0,hcz21_1,hcz21_2,hfz21_0,hfz21_1,hfz21_2⟩:=qz BK172.out))
  refine bodyPost_ret (results_cell_row rfl _ _ gb172 27 #[.bool false,.slice Ao19 t174.length co19,.slice Ao20 t177.length co20] (0,0) _ rfl (by (with_reducible repeat (first | refine zbv ?_ _ | refine zbu ?_ | refine zbt ?_ _)); refine zbF (cs:=#[.bool false,.slice Ao19 t174.length co19,.slice none 0 0]) ?_ 2 _ rfl; (with_reducible repeat (first | refine zbv ?_ _ | refine zbu ?_ | refine zbt ?_ _)); refine zbF (cs:=#[.bool false,.slice none 0 0,.slice none 0 0]) ?_ 1 _ rfl; (with_reducible repeat (first | refine zbv ?_ _ | refine zbu ?_ | refine zbt ?_ _)); refine zbF (cs:=#[.bool false,.slice none 0 0,.slice none 0 0]) ?_ 0 _ rfl; (with_reducible repeat (first | refine zbv ?_ _ | refine zbu ?_ | refine zbt ?_ _)); refine zbJ ?_ NB172_171.out _; (with_reducible repeat (first | refine zbv ?_ _ | refine zbu ?_ | refine zbt ?_ _)); refine zbJ ?_ NB172_171.out _; (with_reducible repeat (first | refine zbv ?_ _ | refine zbu ?_ | refine zbt ?_ _)); refine zbJ ?_ NB172_171.out _; (with_reducible repeat (first | refine zbv ?_ _ | refine zbu ?_ | refine zbt ?_ _)); refine zbJ ?_ NB172_171.out _; (with_reducible repeat (first | refine zbv ?_ _ | refine zbu ?_ | refine zbt ?_ _)); exact BK172.out) Tryz.underlying27 rfl (by kernel_rfl)) rfl ?_
  exact⟨_,_,by first | rfl | (simp [zbx,zbw]<;>rfl) | (simp [*,zbx,zbw]<;>rfl),by (with_reducible repeat (first | apply Kd.R_alloc | apply Kd.R_drewN | apply Kd.R_drew)); exact Kd.R_mono (Kd.R_far (p:=⟨gb172,2,none⟩) (Kd.R_far (p:=⟨gb172,1,none⟩) (Kd.R_far (p:=⟨gb172,0,none⟩) (Kd.R_far (p:=⟨gb171,0,none⟩) (Kd.R_far (p:=⟨gb171,2,none⟩) (Kd.R_far (p:=⟨gb171,1,none⟩) (Kd.R_far (p:=⟨gb171,0,none⟩) (Kd.R_types (Kd.R_types HO176.out BK171.out (by decide)) BK172.out (by decide)) (fun _ hk=>hk.1.2) (.bool t173)) (fun _ hk=>hk.1.2) (.slice Ao19 t174.length co19)) (fun _ hk=>hk.1.2) (.slice Ao20 t177.length co20)) (fun _ hk=>hk.1.2) (.bool false)) (fun _ hk=>hk.2) (.bool false)) (fun _ hk=>hk.2) (.slice Ao19 t174.length co19)) (fun _ hk=>hk.2) (.slice Ao20 t177.length co20)) (fun _ hk=>hk.1.1),by (with_reducible repeat (first | apply Kd.R_alloc | apply Kd.R_drewN | apply Kd.R_drew)); exact Kd.R_mono (Kd.R_far (p:=⟨gb172,2,none⟩) (Kd.R_far (p:=⟨gb172,1,none⟩) (Kd.R_far (p:=⟨gb172,0,none⟩) (Kd.R_far (p:=⟨gb171,0,none⟩) (Kd.R_far (p:=⟨gb171,2,none⟩) (Kd.R_far (p:=⟨gb171,1,none⟩) (Kd.R_far (p:=⟨gb171,0,none⟩) (Kd.R_types (Kd.R_types HO179.out BK171.out (by decide)) BK172.out (by decide)) (fun _ hk=>hk.1.2) (.bool t173)) (fun _ hk=>hk.1.2) (.slice Ao19 t174.length co19)) (fun _ hk=>hk.1.2) (.slice Ao20 t177.length co20)) (fun _ hk=>hk.1.2) (.bool false)) (fun _ hk=>hk.2) (.bool false)) (fun _ hk=>hk.2) (.slice Ao19 t174.length co19)) (fun _ hk=>hk.2) (.slice Ao20 t177.length co20)) (fun _ hk=>hk.1.1),by repeat (first | (with_reducible first | exact HB.out | apply zbn | apply zbo | apply zbs | refine zbB ?_ GE171.out | refine zbB ?_ GE172.out) | exact HB.out)⟩
end Go.Proofs.YtehghijlchpeaaaGreat.J
end
end
section
noncomputable section
namespace Go.Proofs.YtehghijlchpeaaaGreat.J
open Go.RowKit YtehghijlchpeaaaGreat.H YtehghijlchpeaaaGreat.L YtehghijlchpeaaaGreat.Nat1 YtehghijlchpeaaaGreatW.PrintWords YtehghijlchpeaaaGreatW.PrintLast YtehghijlchpeaaaGreatW.PrintMore
attribute [local go_sem] zbX zbZ zb2 zb1 zbQ zbR zbW zbY   -- for this text's walks alone
end Go.Proofs.YtehghijlchpeaaaGreat.J
end
end
section
noncomputable section
namespace Go.Proofs.YtehghijlchpeaaaGreat.J
open Go.RowKit YtehghijlchpeaaaGreat.H YtehghijlchpeaaaGreat.L YtehghijlchpeaaaGreat.Nat1 YtehghijlchpeaaaGreatW.PrintWords YtehghijlchpeaaaGreatW.PrintLast YtehghijlchpeaaaGreatW.PrintMore
attribute [local go_sem] zbX zbZ zb2 zb1 zbQ zbR zbW zbY   -- for this text's walks alone
def rat_Bits.f (k:Nat) (a0_0:Bool) (l0_1:List Int) (l0_2:List Int):Option (Int):=(rat_Norm.f a0_0 l0_1 l0_2).bind fun bt236=>((nat_Bits.f k bt236.2.1).bind fun t243=>((nat_Bits.f k bt236.2.2).bind fun t244=>(some (mx t243 t244))))
def rat_Bits.T2:Bool×List (List Nat×List Nat):=(true,[([],[]),([0],[0]),([1],[1]),([],[]),([3],[3]),([4,2],[4]),([2,5],[2,5]),([6,5,0,1,2,3,4,5,6],[6])])
def rat_Bits.B2:List Nat:=[0,1,3,0,8,31,63,127]
theorem rat_Bits.tab2:rtab .any (opsOf Tryz.f132 2)=rat_Bits.T2:=by kernel_rfl
theorem rat_Bits.bits2:zct rat_Bits.T2.2 rat_Bits.B2=true:=by kernel_rfl
theorem rat_Bits.calls (k:Nat) (a0_0:Bool) (A0_1:Option Addr) (c0_1:Nat) (l0_1:List Int) (A0_2:Option Addr) (c0_2:Nat) (l0_2:List Int) (r:Int) (w:World) (hr0_1:Kd.C (Kd.int .u32) w A0_1 l0_1.length l0_1) (hc0_1:l0_1.length≤c0_1) (hr0_2:Kd.C (Kd.int .u32) w A0_2 l0_2.length l0_2) (hc0_2:l0_2.length≤c0_2) (h:rat_Bits.f k a0_0 l0_1 l0_2=some r) :
  Calls Tryz.prog 132 #[.agg #[.bool a0_0,.slice A0_1 l0_1.length c0_1,.slice A0_2 l0_2.length c0_2]] w fun e w'=>e=.returned (.int .i64 r)∧Below w.heap.size w w':=by
 have hu27:=Tryz.underlying27
 have HR0_1:=Aside0.mk hr0_1
 have HC0_1:=Aside0.mk hc0_1
 clear hr0_1 hc0_1
 have HR0_2:=Aside0.mk hr0_2
 have HC0_2:=Aside0.mk hc0_2
 clear hr0_2 hc0_2
 have HB:=Aside0.mk (Below.refl w.heap.size w)
 have H:((rat_Norm.f a0_0 l0_1 l0_2).bind fun bt236=>((nat_Bits.f k bt236.2.1).bind fun t243=>((nat_Bits.f k bt236.2.2).bind fun t244=>(some (mx t243 t244)))))=some r:=h
 clear h
 replace H:=Option.bind_eq_some_iff.mp H
 obtain⟨⟨t236,t237,t240⟩,A20,H⟩:=H
 replace H:((nat_Bits.f k t237).bind fun t243=>((nat_Bits.f k t240).bind fun t244=>(some (mx t243 t244))))=some r:=H
 have A2:=Aside0.mk A20
 clear A20
 replace H:=Option.bind_eq_some_iff.mp H
 obtain⟨t243,A30,H⟩:=H
 replace H:((nat_Bits.f k t240).bind fun t244=>(some (mx t243 t244)))=some r:=H
 have A3:=Aside0.mk A30
 clear A30
 replace H:=Option.bind_eq_some_iff.mp H
 obtain⟨t244,A40,H⟩:=H
 replace H:(some (mx t243 t244))=some r:=H
 have A4:=Aside0.mk A40
 clear A40
 obtain⟨ji5,hji5⟩:∃ j_:Int,(mx t243 t244)=j_:=⟨_,rfl⟩
 replace H:(some ji5)=some r:=by first | (rw [hji5] at H; exact H) | (simp only [hji5] at H ⊢; exact H)
 (try rw [hji5] at A2)
 (try rw [hji5] at A3)
 (try rw [hji5] at A4)
 have hji5_:(if t243 < t244 then t244 else t243)=ji5:=hji5
 obtain rfl:=Option.some.inj H
 go_enter Tryz.func132,Tryz.ntmps132
 try go_wp2_with (first | ((with_reducible refine zbD (N:=1) rfl ?_); refine zbC ?hg (N:=1) ?hd (cs:=#[.bool a0_0,.slice A0_1 l0_1.length c0_1,.slice A0_2 l0_2.length c0_2]) (t:=27) ?hr ?_; (case hd=>rfl); (case hg=>rfl); (case hr=>first | (go_simp; done) | (go_simp; rfl)); intro gb235 hg w6 hbox hb; have n0_:=Aside0.mk (zbm (qb HB.out) hb); have n1_:=Aside0.mk (hbox); have n2_:=Aside0.mk ((by rw [hg]; exact(zbp (qb HB.out)):w.heap.size≤gb235)); have n3_:=Aside0.mk ((by rw [hg]; exact(zbp (qb HB.out)):w.heap.size≤gb235)); clear HB; have HB:=n0_; have BK235:=n1_; have GW235:=n2_; have GE235:=n3_; clear n0_ n1_ n2_ n3_; clear hb hbox hg; obtain⟨hcz7_0,hcz7_1,hcz7_2,hfz7_0,hfz7_1,hfz7_2⟩:=qz BK235.out) | ((with_reducible refine zbz (f:=85) rfl ?_); refine zbK (some 4) rfl rfl Tryz.func85 (by kernel_rfl) rfl #[.agg #[.bool a0_0,.slice A0_1 l0_1.length c0_1,.slice A0_2 l0_2.length c0_2]] rfl (by (try simp only [List.map_toArray,List.map_cons,List.map_nil]); first | done | rfl | (simp only [List.length_drop,List.length_take]; rfl)) ?_; (with_reducible refine(rat_Norm.calls a0_0 _ _ l0_1 _ _ l0_2 t236 t237 t240 _ ?side1 ?side2 ?side3 ?side4 A2.out).mono ?_); (case side1=>exact qc (Kd.C_below HR0_1.out HB.out)); (case side2=>exact HC0_1.out); (case side3=>exact qc (Kd.C_below HR0_2.out HB.out)); (case side4=>exact HC0_2.out); rintro e w8 ⟨v238,v241,rfl,ho0,ho1,hb⟩; refine⟨_,rfl,?_⟩; have n0_:=Aside0.mk (Kd.R_lower ho0 (zbp (qb1 HB.out GE235.out))); have n1_:=Aside0.mk (Kd.R_lower ho1 (zbp (qb1 HB.out GE235.out))); have n2_:=Aside0.mk (zbr (g:=gb235) (o:=.cells #[.bool a0_0,.slice A0_1 l0_1.length c0_1,.slice A0_2 l0_2.length c0_2] 27 (0,0)) (qk BK235.out) hb); have n3_:=Aside0.mk (zbm (qb1 HB.out GE235.out) hb); clear BK235; clear HB; have HO239:=n0_; have HO242:=n1_; have BK235:=n2_; have HB:=n3_; clear n0_ n1_ n2_ n3_; (try clear hb); (try clear hb2); (try clear hk); (try clear hi); (try clear ho0); (try clear ho1); obtain⟨hcz9_0,hcz9_1,hcz9_2,hfz9_0,hfz9_1,hfz9_2⟩:=qz BK235.out; obtain⟨Ao10,co10,eo10⟩:=Kd.R_slice HO239.out; subst eo10; obtain⟨Ao11,co11,eo11⟩:=Kd.R_slice HO242.out; subst eo11))
 have n0_:Aside0 (Kd.R (Kd.int .u32) 81 (((w8.setCell ⟨gb235,0,none⟩ (.bool t236)).setCell ⟨gb235,1,none⟩ (.slice Ao10 t237.length co10)).setCell ⟨gb235,2,none⟩ (.slice Ao11 t240.length co11)) w.heap.size (fun k_=>some k_≠(.slice Ao11 t240.length co11:Value).ownBlock) (.slice Ao10 t237.length co10) t237):=⟨by (with_reducible repeat (first | apply Kd.R_alloc | apply Kd.R_drewN | apply Kd.R_drew)); exact Kd.R_mono (Kd.R_far (p:=⟨gb235,2,none⟩) (Kd.R_far (p:=⟨gb235,1,none⟩) (Kd.R_far (p:=⟨gb235,0,none⟩) (Kd.R_types HO239.out BK235.out (by decide)) (fun _ hk=>hk.2) (.bool t236)) (fun _ hk=>hk.2) (.slice Ao10 t237.length co10)) (fun _ hk=>hk.2) (.slice Ao11 t240.length co11)) (fun _ hk=>hk.1)⟩
 have n1_:Aside0 (Kd.R (Kd.int .u32) 81 (((w8.setCell ⟨gb235,0,none⟩ (.bool t236)).setCell ⟨gb235,1,none⟩ (.slice Ao10 t237.length co10)).setCell ⟨gb235,2,none⟩ (.slice Ao11 t240.length co11)) w.heap.size (fun k_=>some k_≠(.slice Ao10 t237.length co10:Value).ownBlock) (.slice Ao11 t240.length co11) t240):=⟨by (with_reducible repeat (first | apply Kd.R_alloc | apply Kd.R_drewN | apply Kd.R_drew)); exact Kd.R_mono (Kd.R_far (p:=⟨gb235,2,none⟩) (Kd.R_far (p:=⟨gb235,1,none⟩) (Kd.R_far (p:=⟨gb235,0,none⟩) (Kd.R_types HO242.out BK235.out (by decide)) (fun _ hk=>hk.2) (.bool t236)) (fun _ hk=>hk.2) (.slice Ao10 t237.length co10)) (fun _ hk=>hk.2) (.slice Ao11 t240.length co11)) (fun _ hk=>hk.1)⟩
 have n2_:Aside0 ((((w8.setCell ⟨gb235,0,none⟩ (.bool t236)).setCell ⟨gb235,1,none⟩ (.slice Ao10 t237.length co10)).setCell ⟨gb235,2,none⟩ (.slice Ao11 t240.length co11)).heap[gb235]? = some (.cells #[.bool t236,.slice Ao10 t237.length co10,.slice Ao11 t240.length co11] 27 (0,0))):=⟨by (with_reducible repeat (first | refine zbv ?_ _ | refine zbu ?_ | refine zbt ?_ _)); refine zbF (cs:=#[.bool t236,.slice Ao10 t237.length co10,.slice A0_2 l0_2.length c0_2]) ?_ 2 _ rfl; (with_reducible repeat (first | refine zbv ?_ _ | refine zbu ?_ | refine zbt ?_ _)); refine zbF (cs:=#[.bool t236,.slice A0_1 l0_1.length c0_1,.slice A0_2 l0_2.length c0_2]) ?_ 1 _ rfl; (with_reducible repeat (first | refine zbv ?_ _ | refine zbu ?_ | refine zbt ?_ _)); refine zbF (cs:=#[.bool a0_0,.slice A0_1 l0_1.length c0_1,.slice A0_2 l0_2.length c0_2]) ?_ 0 _ rfl; (with_reducible repeat (first | refine zbv ?_ _ | refine zbu ?_ | refine zbt ?_ _)); exact BK235.out⟩
 have n3_:Aside0 (Below w.heap.size w (((w8.setCell ⟨gb235,0,none⟩ (.bool t236)).setCell ⟨gb235,1,none⟩ (.slice Ao10 t237.length co10)).setCell ⟨gb235,2,none⟩ (.slice Ao11 t240.length co11))):=⟨by repeat (first | (with_reducible first | exact HB.out | apply zbn | apply zbo | apply zbs | refine zbB ?_ GE235.out) | exact HB.out)⟩
 (try clear HO239)
 (try clear HO242)
 (try clear BK235)
 (try clear HB)
 generalize (((w8.setCell ⟨gb235,0,none⟩ (.bool t236)).setCell ⟨gb235,1,none⟩ (.slice Ao10 t237.length co10)).setCell ⟨gb235,2,none⟩ (.slice Ao11 t240.length co11))=w12 at n0_ n1_ n2_ n3_ ⊢
 have HO239:=n0_
 have HO242:=n1_
 have BK235:=n2_
 have HB:=n3_
 clear n0_ n1_ n2_ n3_
 have n0_:=Aside0.mk (Kd.R_drew HO239.out)
 have n1_:=Aside0.mk (Kd.R_drew HO242.out)
 have n2_:=Aside0.mk (zbu BK235.out)
 have n3_:=Aside0.mk (zbs HB.out)
 clear HO239
 clear HO242
 clear BK235
 clear HB
 have HO239:=n0_
 have HO242:=n1_
 have BK235:=n2_
 have HB:=n3_
 clear n0_ n1_ n2_ n3_
 refine zco (n:=8) (S:=fun w'=>w'.cell? ⟨gb235,0,none⟩=some (.bool t236)∧w'.cell? ⟨gb235,1,none⟩=some (.slice Ao10 t237.length co10)∧w'.cell? ⟨gb235,2,none⟩=some (.slice Ao11 t240.length co11)) (ds:=[]) #[zf,zf,zf,zf,zf,zf,zf,zf] (by kernel_rfl) rfl rfl ⟨(zbq BK235.out 0).trans rfl,(zbq BK235.out 1).trans rfl,(zbq BK235.out 2).trans rfl⟩ (fun hHeld=>?_); refine zcf rat_Bits.tab2 rat_Bits.bits2 (fun HT_ HW_=>?_)
 generalize w12.drew=w13 at HO239 HO242 BK235 HB hHeld ⊢
 refine qpT 0 (some 5) ?_
 refine qpT 3 (some 8) ?_
 refine take_ (i:=1) (N:=some 6) (v:=?_) (a':=?_) #[zt,zt,zf,zt,zf,zf,zf,zf] rfl rfl (zb9 HT_.out HW_.out (by kernel_rfl)) (fun _ _ _ h=>h) (Or.inl ⟨by rfl,?_⟩) hHeld ?_ ?_
 rotate_left
 ·
  rintro w' ⟨s0,s1,s2⟩
  go_simp
  with_reducible rfl
 rotate_left
 ·
  simp only [Act.put,zA1,zA2,zA3,zcb,zcw]
  rfl
 refine take_ (i:=4) (N:=some 9) (v:=?_) (a':=?_) #[zt,zt,zf,zt,zt,zf,zf,zf] rfl rfl (zb9 HT_.out HW_.out (by kernel_rfl)) (fun _ _ _ h=>h) (Or.inl ⟨by rfl,?_⟩) hHeld ?_ ?_
 rotate_left
 ·
  rintro w' ⟨s0,s1,s2⟩
  go_simp
  with_reducible rfl
 rotate_left
 ·
  simp only [Act.put,zA1,zA2,zA3,zcb,zcw]
  rfl
 refine qoT 2 (some 7) (fun K hK=>?_)
 refine goes_ Tryz.func157 (by kernel_rfl) rfl #[.slice Ao10 t237.length co10] (by rfl) rfl rfl (by (try simp only [List.map_toArray,List.map_cons,List.map_nil]); first | done | rfl | (simp only [List.length_drop,List.length_take]; rfl)) ?_
 with_reducible refine(nat_Bits.calls k _ _ t237 t243 _ ?side1 ?side2 A3.out).mono ?_
 (case side1=>exact qc (Kd.R_reads' HO239.out).2.2)
 (case side2=>exact(Kd.R_reads' HO239.out).2.1)
 rintro e w14 ⟨rfl,hb⟩
 refine⟨_,rfl,?_⟩
 have n0_:=Aside0.mk (Kd.R_below (qr HO239.out) hb)
 have n1_:=Aside0.mk (Kd.R_below (qr HO242.out) hb)
 have n2_:=Aside0.mk (zbr (g:=gb235) (o:=.cells #[.bool t236,.slice Ao10 t237.length co10,.slice Ao11 t240.length co11] 27 (0,0)) (qk BK235.out) hb)
 have n3_:=Aside0.mk (zbm (qb1 HB.out GE235.out) hb)
 clear HO239
 clear HO242
 clear BK235
 clear HB
 have HO239:=n0_
 have HO242:=n1_
 have BK235:=n2_
 have HB:=n3_
 clear n0_ n1_ n2_ n3_
 (try clear hb)
 (try clear hb2)
 (try clear hk)
 (try clear hi)
 refine hK.out _ _ ⟨(zbq BK235.out 0).trans rfl,(zbq BK235.out 1).trans rfl,(zbq BK235.out 2).trans rfl⟩ (fun hHeld=>?_)
 clear hK K
 refine qn ?_
 refine qoT 5 (some 10) (fun K hK=>?_)
 refine goes_ Tryz.func157 (by kernel_rfl) rfl #[.slice Ao11 t240.length co11] (by rfl) rfl rfl (by (try simp only [List.map_toArray,List.map_cons,List.map_nil]); first | done | rfl | (simp only [List.length_drop,List.length_take]; rfl)) ?_
 with_reducible refine(nat_Bits.calls k _ _ t240 t244 _ ?side1 ?side2 A4.out).mono ?_
 (case side1=>exact qc (Kd.R_reads' HO242.out).2.2)
 (case side2=>exact(Kd.R_reads' HO242.out).2.1)
 rintro e w15 ⟨rfl,hb⟩
 refine⟨_,rfl,?_⟩
 have n0_:=Aside0.mk (Kd.R_below (qr HO239.out) hb)
 have n1_:=Aside0.mk (Kd.R_below (qr HO242.out) hb)
 have n2_:=Aside0.mk (zbr (g:=gb235) (o:=.cells #[.bool t236,.slice Ao10 t237.length co10,.slice Ao11 t240.length co11] 27 (0,0)) (qk BK235.out) hb)
 have n3_:=Aside0.mk (zbm (qb1 HB.out GE235.out) hb)
 clear HO239
 clear HO242
 clear BK235
 clear HB
 have HO239:=n0_
 have HO242:=n1_
 have BK235:=n2_
 have HB:=n3_
 clear n0_ n1_ n2_ n3_
 (try clear hb)
 (try clear hb2)
 (try clear hk)
 (try clear hi)
 refine hK.out _ _ ⟨(zbq BK235.out 0).trans rfl,(zbq BK235.out 1).trans rfl,(zbq BK235.out 2).trans rfl⟩ (fun hHeld=>?_)
 clear hK K
 refine qn ?_
 refine qpT 6 (some 11) ?_
 refine qpT 7 (some 2) ?_
 refine done_ (done_of HT_.out (by kernel_rfl)) ?_
 try go_wp2
 go_ret
 exact⟨by first | rfl | (simp [zbx,zbw]<;>rfl) | (simp only [← hji5]; first | rfl | (simp [zbx,zbw]<;>rfl)) | (simp [*,zbx,zbw]<;>rfl),by repeat (first | (with_reducible first | exact HB.out | apply zbn | apply zbo | apply zbs | refine zbB ?_ GE235.out) | exact HB.out)⟩
end Go.Proofs.YtehghijlchpeaaaGreat.J
end
end
section
noncomputable section
namespace Go.Proofs.YtehghijlchpeaaaGreat.J
open Go.RowKit YtehghijlchpeaaaGreat.H YtehghijlchpeaaaGreat.L YtehghijlchpeaaaGreat.Nat1 YtehghijlchpeaaaGreatW.PrintWords YtehghijlchpeaaaGreatW.PrintLast YtehghijlchpeaaaGreatW.PrintMore
attribute [local go_sem] zbX zbZ zb2 zb1 zbQ zbR zbW zbY   -- for this text's walks alone
end Go.Proofs.YtehghijlchpeaaaGreat.J
end
end
section
namespace Go.Proofs.YtehghijlchpeaaaGreat.Nt
abbrev QN:=Bool×Nat×Nat
def nrm (n:Bool) (a b:Nat):QN:=if b=0∨a=0 then (false,0,1) else (n,a / Nat.gcd a b,b / Nat.gcd a b)
def ngt (r:QN):QN:=if r.2.1=0 then (false,r.2.1,r.2.2) else (!r.1,r.2.1,r.2.2)
structure red (r:QN):Prop where
 den:0 < r.2.2
 cop:Nat.gcd r.2.1 r.2.2=1
 zero:r.2.1=0→r.1=false
theorem nrm_red (n:Bool) (a b:Nat):red (nrm n a b):=by
 unfold nrm
 split
 ·
  exact⟨Nat.one_pos,by simp,fun _=>rfl⟩
 ·
  rename_i h
  have hb:0 < b:=by omega
  have hg:0 < Nat.gcd a b:=Nat.gcd_pos_of_pos_right _ hb
  refine⟨Nat.div_pos (Nat.le_of_dvd hb (Nat.gcd_dvd_right a b)) hg,by rw [Nat.gcd_div (Nat.gcd_dvd_left a b) (Nat.gcd_dvd_right a b),Nat.div_self hg],fun h0=>?_⟩
  have:=Nat.div_pos (Nat.le_of_dvd (show 0 < a by omega) (Nat.gcd_dvd_left a b)) hg
  simp only [] at h0
  omega
theorem nrm_of_red {r:QN} (h:red r):nrm r.1 r.2.1 r.2.2=r:=by
 obtain⟨n,a,b⟩:=r
 unfold nrm
 have h1:=h.den
 have h2:=h.cop
 have h3:=h.zero
 simp only [] at h1 h2 h3 ⊢
 by_cases ha:a=0
 ·
  rw [if_pos (Or.inr ha),h3 ha]
  subst ha
  rw [Nat.gcd_zero_left] at h2
  rw [h2]
 ·
  rw [if_neg (by omega),h2,Nat.div_one,Nat.div_one]
def addQ (x y:QN):QN :=
 if x.1=y.1 then nrm x.1 (x.2.1*y.2.2+y.2.1*x.2.2) (x.2.2*y.2.2)
 else if y.2.1*x.2.2≤x.2.1*y.2.2 then nrm x.1 (x.2.1*y.2.2-y.2.1*x.2.2) (x.2.2*y.2.2)
 else nrm y.1 (y.2.1*x.2.2-x.2.1*y.2.2) (x.2.2*y.2.2)
def mulQ (x y:QN):QN:=nrm (x.1 != y.1) (x.2.1*y.2.1) (x.2.2*y.2.2)
end Go.Proofs.YtehghijlchpeaaaGreat.Nt
end
section
namespace Go.Proofs.YtehghijlchpeaaaGreat.Nat1
open Go.RowKit YtehghijlchpeaaaGreatW.PrintWords YtehghijlchpeaaaGreatW.PrintLast YtehghijlchpeaaaGreatW.PrintMore L Nt
def RT (w:World) (base:Nat) (v:Value) (r:QN):Prop :=
 ∃ v1 v2:Value,v=.agg #[.bool r.1,v1,v2]∧Kd.R (Kd.int .u32) 81 w base (fun _=>True) v1 (dg B32 r.2.1)∧Kd.R (Kd.int .u32) 81 w base (fun _=>True) v2 (dg B32 r.2.2)
def RatPost (w:World) (r:QN) (e:Ending) (w':World):Prop :=
 ∃ v1_ v2_:Value,e=.returned (.agg #[.bool r.1,v1_,v2_])∧Kd.R (Kd.int .u32) 81 w' w.heap.size (fun k_=>some k_≠(v2_:Value).ownBlock) v1_ (dg B32 r.2.1)∧Kd.R (Kd.int .u32) 81 w' w.heap.size (fun k_=>some k_≠(v1_:Value).ownBlock) v2_ (dg B32 r.2.2)∧Below w.heap.size w w'
theorem RatPost.rt {w w':World} {r:QN} {e:Ending} (h:RatPost w r e w'):∃ v,e=.returned v∧RT w' w.heap.size v r∧Below w.heap.size w w':=by
 obtain⟨v1,v2,he,h1,h2,hb⟩:=h
 exact⟨_,he,⟨v1,v2,rfl,Kd.R_mono h1 (fun _ _=>trivial),Kd.R_mono h2 (fun _ _=>trivial)⟩,hb⟩
theorem mkR_eq (n:Bool) (a b:Nat):mkR n a b=if b=0 then (false,[],[],17) else ((nrm n a b).1,dg B32 (nrm n a b).2.1,dg B32 (nrm n a b).2.2,0):=by
 unfold mkR nrm
 by_cases hb:b=0
 ·
  rw [if_pos hb,if_pos hb]
 ·
  by_cases ha:a=0
  ·
   rw [if_neg hb,if_neg hb,if_pos ha,if_pos (Or.inr ha),zbT]
  ·
   rw [if_neg hb,if_neg hb,if_neg ha,if_neg (by omega)]
theorem norm_f {n:Bool} {p q:List Int} (hp:okD p) (hq:okD q):J.rat_Norm.f n p q=some ((nrm n (val B32 p) (val B32 q)).1,dg B32 (nrm n (val B32 p) (val B32 q)).2.1,dg B32 (nrm n (val B32 p) (val B32 q)).2.2):=by
 unfold J.rat_Norm.f
 rw [rat_Make.f,if_pos ⟨hp,hq⟩,Option.bind_some,mkR_eq]
 by_cases hb:val B32 q=0
 ·
  rw [if_pos hb,if_neg (by decide),H.rat_one.f,nat_Of.f,if_pos (by omega)]
  unfold nrm
  rw [if_pos (Or.inl hb),zbT]
  rfl
 ·
  rw [if_neg hb]
  simp only []
  rw [if_pos trivial]
section
variable (n:Bool) (A0:Option Addr) (c0:Nat) (l0:List Int) (A1:Option Addr) (c1:Nat) (l1:List Int) (w:World) (hr0:Kd.C (Kd.int .u32) w A0 l0.length l0) (hc0:l0.length≤c0) (hr1:Kd.C (Kd.int .u32) w A1 l1.length l1) (hc1:l1.length≤c1) (h0:okD l0) (h1:okD l1)
include hr0 hc0 hr1 hc1 h0 h1
theorem norm_q:Calls Tryz.prog 85 #[.agg #[.bool n,.slice A0 l0.length c0,.slice A1 l1.length c1]] w (RatPost w (nrm n (val B32 l0) (val B32 l1))) :=
 J.rat_Norm.calls n A0 c0 l0 A1 c1 l1 _ _ _ w hr0 hc0 hr1 hc1 (norm_f h0 h1)
omit hr0 hc0 hr1 hc1 in
theorem neg_f:J.rat_Neg.f n l0 l1=some ((ngt (nrm n (val B32 l0) (val B32 l1))).1,dg B32 (ngt (nrm n (val B32 l0) (val B32 l1))).2.1,dg B32 (ngt (nrm n (val B32 l0) (val B32 l1))).2.2):=by
 unfold J.rat_Neg.f
 rw [norm_f h0 h1,Option.bind_some]
 simp only []
 unfold ngt
 by_cases hz:(nrm n (val B32 l0) (val B32 l1)).2.1=0
 ·
  rw [if_neg (by rw [hz,zbT]; simp),if_pos hz]
 ·
  have:dg B32 (nrm n (val B32 l0) (val B32 l1)).2.1≠[]:=fun e=>hz ((zcl zby _).1 e)
  have:=List.length_pos_iff.2 this
  rw [if_pos (by omega),if_neg hz]
end
end Go.Proofs.YtehghijlchpeaaaGreat.Nat1
end
section
namespace Go.Proofs.YtehghijlchpeaaaGreat.Nat1
open Go.RowKit YtehghijlchpeaaaGreatW.PrintWords YtehghijlchpeaaaGreatW.PrintLast YtehghijlchpeaaaGreatW.PrintMore L Nt
theorem RT.below {w w':World} {base:Nat} {v:Value} {r:QN} (h:RT w base v r) (hb:Below w.heap.size w w'):RT w' base v r:=by
 obtain⟨v1,v2,he,h1,h2⟩:=h
 exact⟨v1,v2,he,Kd.R_below h1 hb,Kd.R_below h2 hb⟩
theorem RT.lower {w:World} {base base':Nat} {v:Value} {r:QN} (h:RT w base v r) (hb:base'≤base):RT w base' v r:=by
 obtain⟨v1,v2,he,h1,h2⟩:=h
 exact⟨v1,v2,he,Kd.R_lower h1 hb,Kd.R_lower h2 hb⟩
theorem RT.store3 {W:World} {base g:Nat} {v:Value} {r:QN} {cs:Array Value} (h:RT W base v r) (hg:W.heap[g]? = some (.cells cs 27 (0,0))) (a b c:Value):RT (store3 W g a b c) base v r:=by
 obtain⟨v1,v2,he,h1,h2⟩:=h
 exact⟨v1,v2,he,zcx h1 hg a b c,zcx h2 hg a b c⟩
theorem RT.args {w:World} {base:Nat} {v:Value} {r:QN} (h:RT w base v r):∃ A1 c1 A2 c2,v=.agg #[.bool r.1,.slice A1 (dg B32 r.2.1).length c1,.slice A2 (dg B32 r.2.2).length c2] ∧
  (Kd.R (Kd.int .u32) 81 w base (fun _=>True) (.slice A1 (dg B32 r.2.1).length c1) (dg B32 r.2.1)∧Kd.R (Kd.int .u32) 81 w base (fun _=>True) (.slice A2 (dg B32 r.2.2).length c2) (dg B32 r.2.2)):=by
 obtain⟨v1,v2,he,h1,h2⟩:=h
 obtain⟨A1,c1,rfl⟩:=Kd.R_slice h1
 obtain⟨A2,c2,rfl⟩:=Kd.R_slice h2
 exact⟨A1,c1,A2,c2,he,h1,h2⟩
theorem neg_q (n:Bool) (A0:Option Addr) (c0:Nat) (l0:List Int) (A1:Option Addr) (c1:Nat) (l1:List Int) (w:World) (hr0:Kd.C (Kd.int .u32) w A0 l0.length l0) (hc0:l0.length≤c0) (hr1:Kd.C (Kd.int .u32) w A1 l1.length l1) (hc1:l1.length≤c1) (h0:okD l0) (h1:okD l1) :
  Calls Tryz.prog 105 #[.agg #[.bool n,.slice A0 l0.length c0,.slice A1 l1.length c1]] w (RatPost w (ngt (nrm n (val B32 l0) (val B32 l1)))) :=
 J.rat_Neg.calls n A0 c0 l0 A1 c1 l1 _ _ _ w hr0 hc0 hr1 hc1 (neg_f n l0 l1 h0 h1)
theorem alloc3_size (W:World) (a b c:Obj):(((W.alloc a).alloc b).alloc c).heap.size=W.heap.size+1+1+1:=by simp
theorem alloc3_new (W:World) (a b c:Obj):(((W.alloc a).alloc b).alloc c).heap[W.heap.size+1+1]? = some c:=by
 have:=zbU ((W.alloc a).alloc b) c
 simpa using this
theorem alloc3_mid (W:World) (a b c:Obj):(((W.alloc a).alloc b).alloc c).heap[W.heap.size+1]? = some b:=by
 have:=zbU (W.alloc a) b
 have h2:=((Below.refl ((W.alloc a).alloc b).heap.size ((W.alloc a).alloc b)).alloc (Nat.le_refl _) c).block (W.heap.size+1) (by simp)
 rw [h2]
 simpa using this
theorem alloc3_old (W:World) (a b c:Obj):(((W.alloc a).alloc b).alloc c).heap[W.heap.size]? = some a:=by
 have:=zbU W a
 have h2:=(((Below.refl (W.alloc a).heap.size (W.alloc a)).alloc (Nat.le_refl _) b).alloc (by simp) c).block W.heap.size (by simp)
 rw [h2]
 exact this
theorem zcv (W:World) (a b c:Obj):Below W.heap.size W (((W.alloc a).alloc b).alloc c):=zbn (zbn (zbn (Below.refl _ _) _) _) _
theorem take_q (b:Bool) (W:World) (base:Nat) (v:Value) (r:QN) (h:RT W base v r) (hr:red r) (hbase:base≤W.heap.size) (h1:okD (dg B32 r.2.1)) (h2:okD (dg B32 r.2.2)) :
  Calls Tryz.prog 140 #[.agg #[.bool b],v] W fun e w'=>∃ v',e=.returned v'∧RT w' base v' (if b then ngt r else r)∧Below W.heap.size W w':=by
 have hu25:=Tryz.underlying27
 have hu92:=Tryz.underlying148
 obtain⟨A1,c1,A2,c2,rfl,R1,R2⟩:=h.args
 have HN:=Aside0.mk (fun (W':World) (hb:Below W.heap.size W W')=>neg_q r.1 A1 c1 (dg B32 r.2.1) A2 c2 (dg B32 r.2.2) W' (Kd.C_below (Kd.R_reads' R1).2.2 hb) (Kd.R_reads' R1).2.1 (Kd.C_below (Kd.R_reads' R2).2.2 hb) (Kd.R_reads' R2).2.1 h1 h2)
 rw [zbV zby,zbV zby,nrm_of_red hr] at HN
 have HR1:=Aside0.mk R1
 have HR2:=Aside0.mk R2
 clear h R1 R2 h1 h2
 go_enter Tryz.func140,Tryz.ntmps140
 cases b with
 | true =>
  go_wp2_with fail
  have hbox:=alloc3_new W (.cells #[.bool true] 148) (.cells #[.bool r.1,.slice A1 (dg B32 r.2.1).length c1,.slice A2 (dg B32 r.2.2).length c2] 27) (.cells #[.bool false,.slice none 0 0,.slice none 0 0] 27)
  have hbw:=zcv W (.cells #[.bool true] 148) (.cells #[.bool r.1,.slice A1 (dg B32 r.2.1).length c1,.slice A2 (dg B32 r.2.2).length c2] 27) (.cells #[.bool false,.slice none 0 0,.slice none 0 0] 27)
  generalize (((W.alloc (.cells #[.bool true] 148)).alloc (.cells #[.bool r.1,.slice A1 (dg B32 r.2.1).length c1,.slice A2 (dg B32 r.2.2).length c2] 27)).alloc (.cells #[.bool false,.slice none 0 0,.slice none 0 0] 27))=W3 at hbox hbw ⊢
  refine(HN.out W3 hbw).mono ?_
  rintro e w4 hp
  obtain⟨v',rfl,hRT,hB⟩:=hp.rt
  obtain⟨B1,d1,B2,d2,rfl,S1,S2⟩:=hRT.args
  have HBX:=Aside0.mk (zbr hbox hB)
  have HB:=Aside0.mk (zbm hbw hB)
  have HRT:=Aside0.mk (hRT.lower (base':=base) (Nat.le_trans hbase hbw.size))
  obtain⟨⟨x0,x1,x2⟩,y0,y1,y2⟩:=zbH HBX.out
  clear hbox hbw hRT hB S1 S2 hp
  go_wp2
  refine bodyPost_ret (results_cell_row rfl _ _ (W.heap.size+1+1) 27 _ (0,0) _ rfl (zbM HBX.out _ _ _) Tryz.underlying27 rfl (by kernel_rfl)) rfl ?_
  exact⟨_,rfl,HRT.out.store3 HBX.out _ _ _,zbN HB.out (by omega) _ _ _⟩
 | false =>
  go_wp2
  refine bodyPost_ret (results_cell_row rfl _ _ (W.heap.size+1+1) 27 _ (0,0) _ rfl (alloc3_new W _ _ _) Tryz.underlying27 rfl (by kernel_rfl)) rfl ?_
  exact⟨_,rfl,RT.below ⟨_,_,rfl,HR1.out,HR2.out⟩ (zcv W _ _ _),zcv W _ _ _⟩
end Go.Proofs.YtehghijlchpeaaaGreat.Nat1
end
section
namespace Go.Proofs.YtehghijlchpeaaaGreat.Nat1
open Go.RowKit YtehghijlchpeaaaGreatW.PrintWords YtehghijlchpeaaaGreatW.PrintLast YtehghijlchpeaaaGreatW.PrintMore L Nt
theorem made_q (n:Bool) (A0:Option Addr) (c0:Nat) (l0:List Int) (A1:Option Addr) (c1:Nat) (l1:List Int) (g:Nat) (W:World) (hg:W.heap[g]? = some (.cells #[.slice A1 l1.length c1] 25 (0,0))) (hr0:Kd.C (Kd.int .u32) W A0 l0.length l0) (hc0:l0.length≤c0) (hr1:Kd.C (Kd.int .u32) W A1 l1.length l1) (hc1:l1.length≤c1) (h0:okD l0) (h1:okD l1) (hz:val B32 l1≠0) :
  Calls Tryz.prog 163 #[.bool n,.slice A0 l0.length c0,.pointer (some ⟨g,0,none⟩)] W (RatPost W (nrm n (val B32 l0) (val B32 l1))):=by
 have hu25:=Tryz.underlying27
 have HM:=Aside0.mk (fun (W':World) (hb:Below W.heap.size W W')=>make_q n A0 c0 l0 A1 c1 l1 W' (Kd.C_below hr0 hb) hc0 (Kd.C_below hr1 hb) hc1 h0 h1)
 rw [mkR_eq,if_neg hz] at HM
 have HG:=Aside0.mk hg
 have k0:=cell_of_one (zbr hg ((Below.refl _ W).alloc (Nat.le_refl _) (.cells #[.bool false,.slice none 0 0,.slice none 0 0] 27)))
 generalize nrm n (val B32 l0) (val B32 l1)=r at *
 clear hg hr0 hr1 h0 h1 hz
 go_enter Tryz.func163,Tryz.ntmps163
 go_wp2_with fail
 have hbox:=zbU W (.cells #[.bool false,.slice none 0 0,.slice none 0 0] 27)
 have hbw:Below W.heap.size W (W.alloc (.cells #[.bool false,.slice none 0 0,.slice none 0 0] 27)):=zbn (Below.refl _ _) _
 generalize W.alloc (.cells #[.bool false,.slice none 0 0,.slice none 0 0] 27)=W1 at hbox hbw k0 ⊢
 refine(HM.out W1 hbw).mono ?_
 rintro e w2 ⟨v1,v2,rfl,R1,R2,hB⟩
 have HR2:=Aside0.mk (And.intro R1 R2)
 have HBX:=Aside0.mk (zbr hbox hB)
 have HB:=Aside0.mk (zbm hbw hB)
 have HS1:=Aside0.mk hbw.size
 obtain⟨B1,d1,rfl⟩:=Kd.R_slice R1
 obtain⟨B2,d2,rfl⟩:=Kd.R_slice R2
 have hlt:W.heap.size < w2.heap.size:=zbL HBX.out
 obtain⟨⟨x0,x1,x2⟩,y0,y1,y2⟩:=zbH HBX.out
 clear hbox hbw R1 R2 hB k0
 go_wp2
 refine bodyPost_ret (results_cell_row rfl _ _ W.heap.size 27 _ (0,0) _ rfl (zbt (zbM HBX.out _ _ _) _) Tryz.underlying27 rfl (by kernel_rfl)) rfl ?_
 exact⟨_,_,rfl,Kd.R_alloc (zcx (Kd.R_lower HR2.out.1 HS1.out) HBX.out _ _ _) _,Kd.R_alloc (zcx (Kd.R_lower HR2.out.2 HS1.out) HBX.out _ _ _) _,zbn (zbN HB.out (Nat.le_refl _) _ _ _) _⟩
end Go.Proofs.YtehghijlchpeaaaGreat.Nat1
end
