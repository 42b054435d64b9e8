/- Part 6 of the proof of ratField_holds: what it uses, in build order. -/
import Derived.Test.YtehghijlchpeaaaS34
import Derived.Below
import Derived.ChangeOld
import Derived.Lib.SmallJoins
import Derived.OpenShut
import Derived.ProofKit
import Derived.SizedLaws
import Derived.Test.YtehghijlchpeaaaRows
import Derived.WalkKit
section
namespace Go.Proofs.Ytehghijlchpeaaa.Nat1
open Go.ChangeShapes Go.WideShapes Go.ChangeAt Go.RowKit Go.Joins Go.Proofs.YtehghijlchpeaaaW.PrintWords Go.Proofs.YtehghijlchpeaaaW.PrintLast Go.Proofs.YtehghijlchpeaaaW.PrintMore Go.Proofs.Ytehghijlchpeaaa.L Go.Proofs.Ytehghijlchpeaaa.Nt
set_option linter.unusedVariables false
set_option linter.unusedSimpArgs false
set_option linter.unusedSectionVars false
theorem nat_arg {H:Type} {enc:TypeId×Value→H} {W:World} {m:Nat} {v:Value} {y:DataW H×List MemPlace} (h:DataW.trod enc Try.prog W 0 (fun _=>true) true m 23 [v]=some y) :
  ∃ (A:Option Addr) (c:Nat) (l:List Int),v=.slice A l.length c∧Kd.C (Kd.int .u32) W A l.length l∧l.length≤c∧ok B32 l:=by
 obtain⟨a,len,cap,zs,rfl,hz⟩:∃ a len cap zs,v=.slice a len cap∧((a=none∧len=0∧cap=0∧zs=[])∨∃ x,a=some x∧len≤cap∧cap≤maxLen∧zs.length=cap∧(∀ i,i < zs.length→W.cell? (x.add i)=some (.int .u32 (zs.getD i 0)))∧∀ n∈zs,(Lit.int .u32 n).wf=true):=by
  rcases open_ints Try.underlying23 Try.underlying63 (by kernel_rfl) h with ⟨hcs,_⟩ | ⟨x,l,c,zs,hcs,_,hl,hm,hz,_,hcell,hwz⟩
  ·
   injection hcs with hcs _
   exact⟨none,0,0,[],hcs,.inl ⟨rfl,rfl,rfl,rfl⟩⟩
  ·
   injection hcs with hcs _
   exact⟨some x,l,c,zs,hcs,.inr ⟨_,rfl,hl,hm,by simpa using hz,hcell,hwz⟩⟩
 obtain⟨l,rfl,hr,hm,hw,hc⟩:=za1.ofRowC hz
 refine⟨a,cap,l,rfl,Kd.C_of_reads (d:=(0:Int)) (h1:=fun _=>rfl) hr,hc,fun x hx=>?_⟩
 have:=hw x hx
 simp [Lit.wf,IntKind.min,IntKind.max,IntKind.bits,IntKind.signed] at this
 unfold B32
 omega
set_option maxRecDepth 100000 in
theorem rat_arg {H:Type} {enc:TypeId×Value→H} {W:World} {r:Reach} {b0:Nat} {v:Value} {d:DataW H} {p:List MemPlace} (hv:Value.okWide Try.prog W r b0 25 v) (h:DataW.Trod enc Try.prog W 0 (fun _=>true) true 25 v d p) :
  ∃ (n:Bool) (A1:Option Addr) (c1:Nat) (p:List Int) (A2:Option Addr) (c2:Nat) (q:List Int),v=.agg #[.bool n,.slice A1 p.length c1,.slice A2 q.length c2] ∧
   (Kd.C (Kd.int .u32) W A1 p.length p∧p.length≤c1∧ok B32 p)∧(Kd.C (Kd.int .u32) W A2 q.length q∧q.length≤c2∧ok B32 q):=by
 obtain⟨b0,b1,b2,y0,y1,y2,m,rfl,rfl,rfl,hy0,hy1,hy2⟩:=open_agg3 Try.underlying25 (by kernel_rfl) (by kernel_rfl) hv h
 obtain⟨n,e0,_⟩:=DataW.trod_bool Try.underlying4 hy0
 obtain⟨A1,c1,p,rfl,h1⟩:=nat_arg hy1
 obtain⟨A2,c2,q,rfl,h2⟩:=nat_arg hy2
 simp at e0
 subst e0
 exact⟨n,A1,c1,p,A2,c2,q,rfl,h1,h2⟩
end Go.Proofs.Ytehghijlchpeaaa.Nat1
end
section
namespace Go.Proofs.Ytehghijlchpeaaa.Ev
open Go.RowKit Go.Proofs.YtehghijlchpeaaaW.PrintWords Go.Proofs.YtehghijlchpeaaaW.PrintLast Go.Proofs.YtehghijlchpeaaaW.PrintMore Go.Proofs.Ytehghijlchpeaaa.L Go.Proofs.Ytehghijlchpeaaa.Nt Go.Proofs.Ytehghijlchpeaaa.Nat1
set_option linter.unusedVariables false
set_option linter.unusedSimpArgs false
set_option linter.unusedSectionVars false
def fewB (ls:List (List Int)):Bool:=ls.all (fun l=>decide (l.length≤60))
theorem few_loop (ls:List (List Int)) (hl:ls.length≤1000000) (j:Nat):∀ i,i+j=ls.length→Ev (fun k=>fluxionlaw03_few.l0 k ls (i:Int)) (fewB (ls.drop i)):=by
 induction j with
 | zero =>
  intro i hi
  rw [List.drop_eq_nil_of_le (by omega)]
  refine Ev.succ (Ev.congr (Ev.some _) (fun k=>?_))
  rw [fluxionlaw03_few.l0,if_neg (by omega)]
  rfl
 | succ j ih =>
  intro i hi
  have hlt:i < ls.length:=by omega
  have hr:rd_L2 ls (i:Int)=ls[i]:=by
   unfold rd_L2
   rw [Int.toNat_natCast,List.getD_eq_getElem?_getD,List.getElem?_eq_getElem hlt]
   rfl
  have e:fewB (ls.drop i)=(decide (ls[i].length≤60) && fewB (ls.drop (i+1))):=by
   rw [List.drop_eq_getElem_cons hlt]
   rfl
  rw [e]
  by_cases h:ls[i].length > 60
  ·
   rw [decide_eq_false (by omega),Bool.false_and]
   refine Ev.succ (Ev.congr (Ev.some _) (fun k=>?_))
   rw [fluxionlaw03_few.l0,if_pos (by omega),if_pos (by omega),hr,if_pos (by omega)]
  ·
   rw [decide_eq_true (by omega),Bool.true_and]
   refine Ev.succ (Ev.congr (ih (i+1) (by omega)) (fun k=>?_))
   rw [fluxionlaw03_few.l0,if_pos (by omega),if_pos (by omega),hr,if_neg (by omega),w_succ (by omega)]
end Go.Proofs.Ytehghijlchpeaaa.Ev
namespace Go.Proofs.Ytehghijlchpeaaa.Nat1
open Go.RowKit Go.Proofs.YtehghijlchpeaaaW.PrintWords Go.Proofs.YtehghijlchpeaaaW.PrintLast Go.Proofs.YtehghijlchpeaaaW.PrintMore Go.Proofs.Ytehghijlchpeaaa.L Go.Proofs.Ytehghijlchpeaaa.Nt Go.Proofs.Ytehghijlchpeaaa.Ev
abbrev SL:=Option Addr×Nat×List Int
def slV (x:SL):Value:=.slice x.1 x.2.2.length x.2.1
theorem few_q (xs:List SL) (g:Nat) (t:TypeId) (W:World) (hg:W.heap[g]? = some (.cells (xs.map slV).toArray t (0,0))) (hC:∀ x∈xs,Kd.C (Kd.int .u32) W x.1 x.2.2.length x.2.2∧x.2.2.length≤x.2.1) (hn:xs.length≤1000000) :
  Calls Try.prog 14 #[.slice (some ⟨g,0,none⟩) xs.length xs.length] W fun e w'=>e=.returned (.bool (fewB (xs.map (fun x=>x.2.2))))∧Drawn0 W w':=by
 obtain⟨k,hk⟩:=few_loop (xs.map (fun x=>x.2.2)) (by rw [List.length_map]; exact hn) xs.length 0 (by rw [List.length_map]; omega)
 have hk:fluxionlaw03_few.f k (xs.map (fun x=>x.2.2))=_:=hk k (Nat.le_refl _)
 have:=fluxionlaw03_few.calls k (some ⟨g,0,none⟩) xs.length (xs.map (fun x=>x.2.2)) _ W ⟨rfl,by rw [List.length_map]; omega,fun _=>⟨_,rfl,fun j p hj=>?_⟩⟩ (by rw [List.length_map]; exact Nat.le_refl _) hk
 ·
  rw [List.length_map,List.drop_zero] at this
  exact this
 ·
  rw [List.getElem?_map] at hj
  obtain⟨x,hx,rfl⟩:=Option.map_eq_some_iff.1 hj
  have hm:=List.mem_of_getElem? hx
  refine⟨[slV x],rfl,⟨x.1,x.2.1,rfl,(hC x hm).2,(hC x hm).1⟩,fun i u hi=>?_⟩
  match i,hi with
  | 0,hi =>
   cases hi
   have hc:=zai hg j
   rw [List.getElem?_toArray,List.getElem?_map,hx] at hc
   have ea:(⟨g,0,none⟩:Addr).add (j*1+0)=⟨g,j,none⟩:=by
    cases j with
    | zero=>rfl
    | succ j=>simp [Addr.add]
   have es:(Kd.slice 63 (Kd.int .u32)).sz=1:=rfl
   rw [es,ea,hc]
   rfl
  | i+1,hi=>simp at hi
end Go.Proofs.Ytehghijlchpeaaa.Nat1
end
section
namespace Go.Proofs.Ytehghijlchpeaaa.Nt
set_option linter.unusedVariables false
set_option linter.unusedSimpArgs false
set_option linter.unusedSectionVars false
def sgA (n:Bool) (a:Nat):Int:=if n then -(a:Int) else (a:Int)
def toR (x:QN):Rat:=mkRat (sgA x.1 x.2.1) x.2.2
theorem sgA_mul (n m:Bool) (a b:Nat):sgA (n != m) (a*b)=sgA n a*sgA m b:=by
 cases n<;>cases m<;>simp [sgA,Int.natCast_mul,Int.neg_mul,Int.mul_neg]
theorem sgA_zero (n:Bool):sgA n 0=0:=by cases n<;>rfl
theorem sgA_abs (n:Bool) (a:Nat):(sgA n a).natAbs=a:=by cases n<;>simp [sgA]
theorem sgA_mulN (n:Bool) (a b:Nat):sgA n (a*b)=sgA n a*(b:Int):=by
 cases n<;>simp [sgA,Int.natCast_mul,Int.neg_mul]
theorem toR_nrm {n:Bool} {a b:Nat} (hb:b≠0):toR (nrm n a b)=mkRat (sgA n a) b:=by
 unfold nrm
 by_cases ha:a=0
 ·
  subst ha
  rw [if_pos (Or.inr rfl),sgA_zero,Rat.zero_mkRat]
  exact Rat.zero_mkRat 1
 ·
  rw [if_neg (by omega)]
  have hg:0 < Nat.gcd a b:=Nat.gcd_pos_of_pos_right _ (Nat.pos_of_ne_zero hb)
  unfold toR
  simp only []
  have e1:=Nat.div_mul_cancel (Nat.gcd_dvd_left a b)
  have e2:=Nat.div_mul_cancel (Nat.gcd_dvd_right a b)
  have hm:=Rat.mkRat_mul_right (n:=sgA n (a / Nat.gcd a b)) (d:=b / Nat.gcd a b) (a:=Nat.gcd a b) (by omega)
  rw [← hm,← sgA_mulN,e1,e2]
theorem toR_inj {x y:QN} (hx:red x) (hy:red y) (h:toR x=toR y):x=y:=by
 have cx:(sgA x.1 x.2.1).natAbs.Coprime x.2.2:=by rw [sgA_abs]; exact hx.cop
 have cy:(sgA y.1 y.2.1).natAbs.Coprime y.2.2:=by rw [sgA_abs]; exact hy.cop
 have zx:x.2.2≠0:=by have:=hx.den; omega
 have zy:y.2.2≠0:=by have:=hy.den; omega
 have ex:toR x=⟨sgA x.1 x.2.1,x.2.2,zx,cx⟩:=(Rat.mk_eq_mkRat _ _ zx cx).symm
 have ey:toR y=⟨sgA y.1 y.2.1,y.2.2,zy,cy⟩:=(Rat.mk_eq_mkRat _ _ zy cy).symm
 rw [ex,ey] at h
 have h1:sgA x.1 x.2.1=sgA y.1 y.2.1:=congrArg Rat.num h
 have h2:x.2.2=y.2.2:=congrArg Rat.den h
 have h3:x.2.1=y.2.1:=by
  have:=congrArg Int.natAbs h1
  rwa [sgA_abs,sgA_abs] at this
 have h4:x.1=y.1:=by
  by_cases hz:x.2.1=0
  ·
   rw [hx.zero hz,hy.zero (h3 ▸ hz)]
  ·
   rw [← h3] at h1
   revert h1
   cases x.1<;>cases y.1<;>simp [sgA]<;>omega
 obtain⟨a,b,c⟩:=x
 obtain⟨a',b',c'⟩:=y
 simp only [] at h2 h3 h4
 rw [h2,h3,h4]
theorem toR_add {x y:QN} (hx:red x) (hy:red y):toR (addQ x y)=toR x+toR y:=by
 have zx:x.2.2≠0:=by have:=hx.den; omega
 have zy:y.2.2≠0:=by have:=hy.den; omega
 have zz:x.2.2*y.2.2≠0:=Nat.mul_ne_zero zx zy
 have key:toR x+toR y=mkRat (sgA x.1 x.2.1*(y.2.2:Int)+sgA y.1 y.2.1*(x.2.2:Int)) (x.2.2*y.2.2):=Rat.mkRat_add_mkRat _ _ zx zy
 rw [key,← sgA_mulN,← sgA_mulN]
 unfold addQ
 split
 ·
  rename_i h
  rw [toR_nrm zz,← h]
  congr 1
  cases x.1<;>simp [sgA,Int.natCast_add]<;>omega
 ·
  rename_i h
  have hn:y.1=!x.1:=by revert h; cases x.1<;>cases y.1<;>simp
  split
  ·
   rename_i hle
   rw [toR_nrm zz,hn]
   congr 1
   generalize x.2.1*y.2.2=u at *
   generalize y.2.1*x.2.2=v at *
   cases x.1<;>simp [sgA]<;>omega
  ·
   rename_i hle
   rw [toR_nrm zz,hn]
   congr 1
   generalize x.2.1*y.2.2=u at *
   generalize y.2.1*x.2.2=v at *
   cases x.1<;>simp [sgA]<;>omega
theorem toR_mul {x y:QN} (zx:x.2.2≠0) (zy:y.2.2≠0):toR (mulQ x y)=toR x*toR y:=by
 unfold mulQ
 rw [toR_nrm (Nat.mul_ne_zero zx zy),sgA_mul]
 exact(Rat.mkRat_mul_mkRat _ _ _ _).symm
theorem toR_ngt (x:QN):toR (ngt x)=-toR x:=by
 have e:-toR x=mkRat (-(sgA x.1 x.2.1)) x.2.2:=Rat.neg_mkRat _ _
 rw [e]
 unfold ngt toR
 split
 ·
  rename_i h
  simp only []
  rw [h,sgA_zero,sgA_zero]
  rfl
 ·
  simp only []
  congr 1
  cases x.1<;>simp [sgA]
theorem red_add (x y:QN):red (addQ x y):=by
 unfold addQ
 split
 ·
  exact nrm_red _ _ _
 ·
  split<;>exact nrm_red _ _ _
theorem red_mul (x y:QN):red (mulQ x y):=nrm_red _ _ _
theorem red_ngt {x:QN} (h:red x):red (ngt x):=by
 unfold ngt
 split
 ·
  exact⟨h.den,h.cop,fun _=>rfl⟩
 ·
  rename_i hz
  exact⟨h.den,h.cop,fun h0=>absurd h0 hz⟩
theorem red_den {x:QN} (h:red x):x.2.2≠0:=by have:=h.den; omega
theorem addQ_comm {x y:QN} (hx:red x) (hy:red y):addQ x y=addQ y x :=
 toR_inj (red_add _ _) (red_add _ _) (by rw [toR_add hx hy,toR_add hy hx,Rat.add_comm])
theorem mulQ_comm {x y:QN} (hx:red x) (hy:red y):mulQ x y=mulQ y x :=
 toR_inj (red_mul _ _) (red_mul _ _) (by rw [toR_mul (red_den hx) (red_den hy),toR_mul (red_den hy) (red_den hx),Rat.mul_comm])
theorem addQ_assoc {x y z:QN} (hx:red x) (hy:red y) (hz:red z):addQ (addQ x y) z=addQ x (addQ y z) :=
 toR_inj (red_add _ _) (red_add _ _) (by rw [toR_add (red_add _ _) hz,toR_add hx hy,toR_add hx (red_add _ _),toR_add hy hz,Rat.add_assoc])
theorem mulQ_assoc {x y z:QN} (hx:red x) (hy:red y) (hz:red z):mulQ (mulQ x y) z=mulQ x (mulQ y z) :=
 toR_inj (red_mul _ _) (red_mul _ _) (by rw [toR_mul (red_den (red_mul _ _)) (red_den hz),toR_mul (red_den hx) (red_den hy),toR_mul (red_den hx) (red_den (red_mul _ _)),toR_mul (red_den hy) (red_den hz),Rat.mul_assoc])
theorem addQ_mul {x y z:QN} (hx:red x) (hy:red y) (hz:red z):mulQ (addQ x y) z=addQ (mulQ x z) (mulQ y z) :=
 toR_inj (red_mul _ _) (red_add _ _) (by rw [toR_mul (red_den (red_add _ _)) (red_den hz),toR_add hx hy,toR_add (red_mul _ _) (red_mul _ _),toR_mul (red_den hx) (red_den hz),toR_mul (red_den hy) (red_den hz),Rat.add_mul])
theorem add_neg_self (a b:Rat):a+b + -b=a:=by rw [Rat.add_assoc,Rat.add_comm b (-b),Rat.neg_add_cancel,Rat.add_zero]
theorem addQ_sub {x y:QN} (hx:red x) (hy:red y):addQ (addQ x y) (ngt y)=x :=
 toR_inj (red_add _ _) hx (by rw [toR_add (red_add _ _) (red_ngt hy),toR_add hx hy,toR_ngt,add_neg_self])
theorem addQ_ngt {x:QN} (hx:red x):addQ x (ngt x)=(false,0,1) :=
 toR_inj (red_add _ _) ⟨Nat.one_pos,by simp,fun _=>rfl⟩ (by
  rw [toR_add hx (red_ngt hx),toR_ngt,Rat.add_comm,Rat.neg_add_cancel]
  exact(Rat.zero_mkRat 1).symm)
theorem divQ_mul {x y:QN} (hx:red x) (hy:red y) (h0:y.2.1≠0):divQ (mulQ x y) y=x:=by
 have zy:=red_den hy
 refine toR_inj (red_mul _ _) hx ?_
 have e:toR (divQ (mulQ x y) y)=toR (mulQ x y)*toR (y.1,y.2.2,y.2.1):=toR_mul (red_den (red_mul _ _)) h0
 have e2:toR y*toR (y.1,y.2.2,y.2.1)=1:=by
  have:toR y*toR (y.1,y.2.2,y.2.1)=mkRat (sgA y.1 y.2.1*sgA y.1 y.2.2) (y.2.2*y.2.1):=Rat.mkRat_mul_mkRat _ _ _ _
  rw [this,← sgA_mul,bne_self_eq_false]
  have h1:(1:Rat)=mkRat 1 1:=rfl
  rw [h1,Rat.mkRat_eq_iff (Nat.mul_ne_zero zy h0) Nat.one_ne_zero]
  simp [sgA,Int.natCast_mul,Int.mul_comm]
 rw [e,toR_mul (red_den hx) zy,Rat.mul_assoc,e2,Rat.mul_one]
end Go.Proofs.Ytehghijlchpeaaa.Nt
end
section
namespace Go.Proofs.Ytehghijlchpeaaa.Nat1
open Go.RowKit Go.Proofs.YtehghijlchpeaaaW.PrintWords Go.Proofs.YtehghijlchpeaaaW.PrintLast Go.Proofs.YtehghijlchpeaaaW.PrintMore Go.Proofs.Ytehghijlchpeaaa.L Go.Proofs.Ytehghijlchpeaaa.Nt Go.Proofs.Ytehghijlchpeaaa.Ev
set_option linter.unusedVariables false
set_option linter.unusedSimpArgs false
set_option linter.unusedSectionVars false
theorem lim_mul2 {j k a b:Nat} (ha:a < B32 ^ j) (hb:b < B32 ^ k):a*b < B32 ^ (j+k):=by
 rw [Nat.pow_add]
 exact Nat.mul_lt_mul'' ha hb
theorem lim_mul {j k:Nat} {X Y:QN} (h1:lim j X) (h2:lim k Y) (hk:0 < j+k):lim (j+k) (mulQ X Y):=lim_nrm (lim_mul2 h1.1 h2.1) (lim_mul2 h1.2 h2.2) hk
theorem lim_ngt {k:Nat} {X:QN} (h:lim k X):lim k (ngt X):=by
 unfold ngt
 split<;>exact h
theorem lim_add {j k:Nat} {X Y:QN} (h1:lim j X) (h2:lim k Y):lim (j+k+1) (addQ X Y):=by
 have e1:=lim_mul2 h1.1 h2.2
 have e2:=lim_mul2 h2.1 h1.2
 rw [Nat.add_comm k j] at e2
 have e3:=lim_mul2 h1.2 h2.2
 have e4:B32 ^ (j+k+1)=B32 ^ (j+k)*B32:=Nat.pow_succ ..
 have e5:B32 ^ (j+k)*2≤B32 ^ (j+k)*B32:=Nat.mul_le_mul_left _ (by decide)
 unfold addQ
 split
 ·
  exact lim_nrm (by omega) (by omega) (by omega)
 ·
  split
  ·
   exact lim_nrm (by omega) (by omega) (by omega)
  ·
   exact lim_nrm (by omega) (by omega) (by omega)
theorem lim_raw {n:Bool} {p q:List Int} (hp:ok B32 p) (hq:ok B32 q) (h1:p.length≤60) (h2:q.length≤60):lim 60 (nrm n (val B32 p) (val B32 q)) :=
 lim_nrm (Nat.lt_of_lt_of_le (val_lt hp) (Nat.pow_le_pow_right (by decide) h1)) (Nat.lt_of_lt_of_le (val_lt hq) (Nat.pow_le_pow_right (by decide) h2)) (by decide)
theorem RT.nr {w:World} {b:Nat} {v:Value} {X:QN} (h:RT w b v X) (rX:Nt.red X) (kX:Nat1.okQ X):NR w v X:=by
 obtain⟨A1,c1,A2,c2,rfl,R1,R2⟩:=h.args
 refine⟨X.1,A1,c1,_,A2,c2,_,rfl,⟨(Kd.R_reads' R1).2.2,(Kd.R_reads' R1).2.1,zbj kX.1⟩,⟨(Kd.R_reads' R2).2.2,(Kd.R_reads' R2).2.1,zbj kX.2⟩,?_⟩
 rw [zaz zam,zaz zam,zaT rX]
section
variable {W:World} {u v:Value} {X Y:QN} (hu:NR W u X) (hv:NR W v Y)
include hu
theorem norm_n:Calls Try.prog 16 #[u] W (RTPost W X):=by
 obtain⟨n,A1,c1,p,A2,c2,q,rfl,h1,h2,rfl⟩:=hu
 exact(norm_q n A1 c1 p A2 c2 q W h1.1 h1.2.1 h2.1 h2.2.1 h1.2.2.okD h2.2.2.okD).mono (fun e w' h=>h.rtp)
theorem neg_n:Calls Try.prog 37 #[u] W (RTPost W (ngt X)):=by
 obtain⟨n,A1,c1,p,A2,c2,q,rfl,h1,h2,rfl⟩:=hu
 exact(neg_q n A1 c1 p A2 c2 q W h1.1 h1.2.1 h2.1 h2.2.1 h1.2.2.okD h2.2.2.okD).mono (fun e w' h=>h.rtp)
theorem sign_n:Calls Try.prog 41 #[u] W fun e w'=>e=.returned (.int .i64 (sgnQ X))∧Below W.heap.size W w':=by
 obtain⟨n,A1,c1,p,A2,c2,q,rfl,h1,h2,rfl⟩:=hu
 refine J.rat_Sign.calls n A1 c1 _ A2 c2 _ _ W h1.1 h1.2.1 h2.1 h2.2.1 ?_
 unfold J.rat_Sign.f sgnQ
 rw [norm_f h1.2.2.okD h2.2.2.okD,Option.bind_some]
 simp only []
 by_cases hz:(nrm n (val B32 p) (val B32 q)).2.1=0
 ·
  rw [if_pos (by rw [hz,zaH]; rfl),if_pos hz]
 ·
  have:dg B32 (nrm n (val B32 p) (val B32 q)).2.1≠[]:=fun e=>hz ((za3 zam _).1 e)
  have:=List.length_pos_iff.2 this
  rw [if_neg (by omega),if_neg hz]
  cases (nrm n (val B32 p) (val B32 q)).1<;>rfl
include hv
theorem add_n:Calls Try.prog 31 #[u,v] W (RTPost W (addQ X Y)):=by
 obtain⟨n,A1,c1,p,A2,c2,q,rfl,h1,h2,rfl⟩:=hu
 obtain⟨m,A3,c3,r,A4,c4,s,rfl,h3,h4,rfl⟩:=hv
 have:=addR_q n A1 c1 p A2 c2 q m A3 c3 r A4 c4 s W h1.1 h1.2.1 h2.1 h2.2.1 h3.1 h3.2.1 h4.1 h4.2.1 h1.2.2 h2.2.2 h3.2.2 h4.2.2
 rw [if_neg (by decide)] at this
 exact this.mono (fun e w' h=>h.rtp)
theorem sub_n:Calls Try.prog 33 #[u,v] W (RTPost W (addQ X (ngt Y))):=by
 obtain⟨n,A1,c1,p,A2,c2,q,rfl,h1,h2,rfl⟩:=hu
 obtain⟨m,A3,c3,r,A4,c4,s,rfl,h3,h4,rfl⟩:=hv
 have:=subR_q n A1 c1 p A2 c2 q m A3 c3 r A4 c4 s W h1.1 h1.2.1 h2.1 h2.2.1 h3.1 h3.2.1 h4.1 h4.2.1 h1.2.2 h2.2.2 h3.2.2 h4.2.2
 rw [if_pos rfl] at this
 exact this.mono (fun e w' h=>h.rtp)
theorem mul_n:Calls Try.prog 35 #[u,v] W (RTPost W (mulQ X Y)):=by
 obtain⟨n,A1,c1,p,A2,c2,q,rfl,h1,h2,rfl⟩:=hu
 obtain⟨m,A3,c3,r,A4,c4,s,rfl,h3,h4,rfl⟩:=hv
 exact(mulR_q n A1 c1 p A2 c2 q m A3 c3 r A4 c4 s W h1.1 h1.2.1 h2.1 h2.2.1 h3.1 h3.2.1 h4.1 h4.2.1 h1.2.2 h2.2.2 h3.2.2 h4.2.2).mono (fun e w' h=>h.rtp)
theorem div_n:Calls Try.prog 38 #[u,v] W (MakePost W (divP X Y)):=by
 obtain⟨n,A1,c1,p,A2,c2,q,rfl,h1,h2,rfl⟩:=hu
 obtain⟨m,A3,c3,r,A4,c4,s,rfl,h3,h4,rfl⟩:=hv
 exact divR_q n A1 c1 p A2 c2 q m A3 c3 r A4 c4 s W h1.1 h1.2.1 h2.1 h2.2.1 h3.1 h3.2.1 h4.1 h4.2.1 h1.2.2 h2.2.2 h3.2.2 h4.2.2
theorem divY_n (hz:Y.2.1≠0):Calls Try.prog 38 #[u,v] W (RTE W (divQ X Y) 0):=by
 have:=div_n hu hv
 rw [divP,if_neg hz] at this
 exact this.mono (fun e w' h=>MakePost.rte h)
end
theorem okS60 {l:List Int} (h:ok B32 l) (hl:l.length≤60):okS l:=⟨h,by omega⟩
end Go.Proofs.Ytehghijlchpeaaa.Nat1
end
section
namespace Go.Proofs.Ytehghijlchpeaaa.Ev
open Go.RowKit Go.Proofs.YtehghijlchpeaaaW.PrintWords Go.Proofs.YtehghijlchpeaaaW.PrintLast Go.Proofs.YtehghijlchpeaaaW.PrintMore Go.Proofs.Ytehghijlchpeaaa.L Go.Proofs.Ytehghijlchpeaaa.Nt Go.Proofs.Ytehghijlchpeaaa.Nat1
set_option linter.unusedVariables false
set_option linter.unusedSimpArgs false
set_option linter.unusedSectionVars false
theorem equal_loop {l:List Int} (hl:l.length≤4611686018427387904) (n:Nat):∀ i,i+n=l.length→Ev (fun k=>fluxionref01_Equal.l0 k l l (i:Int)) true:=by
 induction n with
 | zero =>
  intro i hi
  refine Ev.succ (Ev.succ (Ev.congr (Ev.some _) (fun k=>?_)))
  rw [fluxionref01_Equal.l0,if_neg (by omega),fluxionref01_Equal.j1,if_neg (by rw [decide_eq_false (by omega)]; decide)]
 | succ n ih =>
  intro i hi
  refine Ev.succ (Ev.succ (Ev.succ (Ev.congr (ih (i+1) (by omega)) (fun k=>?_))))
  rw [fluxionref01_Equal.l0,if_pos (by omega),fluxionref01_Equal.j1,if_pos rfl,if_pos (by omega),if_pos (by omega),fluxionref01_Equal.j2,if_pos (by omega),if_pos (by omega),if_pos rfl,w_succ (by omega)]
theorem equal_ev {l:List Int} (hl:l.length≤4611686018427387904):Ev (fun k=>fluxionref01_Equal.f k l l) true:=equal_loop hl l.length 0 (by omega)
end Go.Proofs.Ytehghijlchpeaaa.Ev
namespace Go.Proofs.Ytehghijlchpeaaa.Nat1
open Go.RowKit Go.Proofs.YtehghijlchpeaaaW.PrintWords Go.Proofs.YtehghijlchpeaaaW.PrintLast Go.Proofs.YtehghijlchpeaaaW.PrintMore Go.Proofs.Ytehghijlchpeaaa.L Go.Proofs.Ytehghijlchpeaaa.Nt Go.Proofs.Ytehghijlchpeaaa.Ev
theorem same_n {W:World} {b1 b2:Nat} {u v:Value} {X:QN} (hu:RT W b1 u X) (hv:RT W b2 v X) (rX:red X) (kX:okQ X):Calls Try.prog 40 #[u,v] W fun e w'=>e=.returned (.bool true)∧Below W.heap.size W w':=by
 obtain⟨A1,c1,A2,c2,rfl,R1,R2⟩:=hu.args
 obtain⟨B1,d1,B2,d2,rfl,S1,S2⟩:=hv.args
 obtain⟨k1,h1⟩:=equal_ev (l:=dg B32 X.2.1) (Nat.le_trans kX.1 (by decide))
 obtain⟨k2,h2⟩:=equal_ev (l:=dg B32 X.2.2) (Nat.le_trans kX.2 (by decide))
 have h1:fluxionref01_Equal.f (k1+k2) _ _=_:=h1 (k1+k2) (by omega)
 have h2:fluxionref01_Equal.f (k1+k2) _ _=_:=h2 (k1+k2) (by omega)
 have hd:0 < (dg B32 X.2.2).length:=by
  have hz:=rX.den
  have:dg B32 X.2.2≠[]:=fun e=>by have:=(za3 zam _).1 e; omega
  exact List.length_pos_iff.2 this
 refine fluxionlaw03_same.calls (k1+k2) X.1 A1 c1 _ A2 c2 _ X.1 B1 d1 _ B2 d2 _ _ W (Kd.R_reads' R1).2.2 (Kd.R_reads' R1).2.1 (Kd.R_reads' R2).2.2 (Kd.R_reads' R2).2.1 (Kd.R_reads' S1).2.2 (Kd.R_reads' S1).2.1 (Kd.R_reads' S2).2.2 (Kd.R_reads' S2).2.1 ?_
 rw [fluxionlaw03_same.f,if_pos (by simp),if_pos rfl,if_pos rfl,if_pos (by omega),h1,Option.bind_some,if_pos rfl,h2,Option.bind_some]
end Go.Proofs.Ytehghijlchpeaaa.Nat1
end
section
namespace Go.Proofs.Ytehghijlchpeaaa.Nat1
open Go.RowKit Go.Proofs.YtehghijlchpeaaaW.PrintWords Go.Proofs.YtehghijlchpeaaaW.PrintLast Go.Proofs.YtehghijlchpeaaaW.PrintMore Go.Proofs.Ytehghijlchpeaaa.L Go.Proofs.Ytehghijlchpeaaa.Nt Go.Proofs.Ytehghijlchpeaaa.Ev
set_option linter.unusedVariables false
set_option linter.unusedSimpArgs false
set_option linter.unusedSectionVars false
def ratField.T3:Bool×List (List Nat×List Nat):=(true,[([],[]),([],[]),([0,1],[0,1]),([],[]),([],[]),([3,4,2],[3,4]),([],[]),([],[]),([6,2,5,0,1,2,6,7],[2,6]),([7,5,8,0,1,2,3,4,5,6,7,8],[5,7])])
def ratField.B3:List Nat:=[0,0,3,0,0,31,0,0,255,511]
theorem ratField.tab3:rtab .any (opsOf Try.f8 3)=ratField.T3:=by kernel_rfl
theorem ratField.bits3:waitsOk ratField.T3.2 ratField.B3=true:=by kernel_rfl
def ratField.T4:Bool×List (List Nat×List Nat):=(true,[([],[]),([],[]),([],[]),([1,2],[1,2]),([0,3,3],[0,3]),([4],[4]),([5,4],[5]),([6],[6]),([6],[6]),([6],[6]),([8,9,6,6],[6,8,9]),([7,10,10,6],[6,7,10]),([11,6],[6,11]),([6,12],[6,12]),([13,11],[13]),([14],[14]),([14],[14]),([15,16,14,14],[14,15,16]),([14],[14]),([14],[14]),([14],[14]),([19,20,17,14],[14,19,20]),([18,21,21,14],[14,18,21]),([17,22,22,14],[14,17,22]),([23,14],[14,23]),([14,24],[14,24]),([25,23],[25]),([26],[26]),([26],[26]),([27,28,26,26],[26,27,28]),([26],[26]),([26],[26]),([26],[26]),([31,32,29,26],[26,31,32]),([30,33,33,26],[26,30,33]),([29,34,34,26],[26,29,34]),([35,26],[26,35]),([26,36],[26,36])])
def ratField.B4:List Nat:=[0,0,0,6,15,31,63,127,127,127,895,2047,4095,8191,16383,32767,32767,131071,32767,32767,32767,1835007,4194303,8388607,16777215,33554431,67108863,134217727,134217727,536870911,134217727,134217727,134217727,7516192767,17179869183,34359738367,68719476735,137438953471]
theorem ratField.tab4:rtab .any (opsOf Try.f8 4)=ratField.T4:=by kernel_rfl
theorem ratField.bits4:waitsOk ratField.T4.2 ratField.B4=true:=by kernel_rfl
def ratField.T6:Bool×List (List Nat×List Nat):=(true,[([],[]),([],[]),([0,1],[0,1]),([],[]),([],[]),([3,4,2],[3,4]),([],[]),([],[]),([6,7,5],[6,7]),([5,8,8],[5,8]),([2,9,9],[2,9]),([10],[10]),([11,10],[11]),([12],[12]),([12],[12]),([13,14,12,12],[12,13,14]),([12],[12]),([16,15,12],[12,16]),([15,17,17,12],[12,15,17]),([18,12],[12,18]),([12,19],[12,19]),([20,18],[20]),([21],[21]),([21],[21]),([23,21,21],[21,23]),([22,24,24,21],[21,22,24]),([25,25,21],[21,25]),([26,21],[21,26]),([21,27],[21,27])])
def ratField.B6:List Nat:=[0,0,3,0,0,31,0,0,255,511,1023,2047,4095,8191,8191,32767,8191,131071,262143,524287,1048575,2097151,4194303,4194303,12582911,33554431,67108863,134217727,268435455]
theorem ratField.tab6:rtab .any (opsOf Try.f8 6)=ratField.T6:=by kernel_rfl
theorem ratField.bits6:waitsOk ratField.T6.2 ratField.B6=true:=by kernel_rfl
def ratField.T10:Bool×List (List Nat×List Nat):=(true,[([],[]),([0],[0]),([1],[1]),([2],[2]),([2],[2]),([4,2,2],[2,4]),([3,5,5,2],[2,3,5]),([6,2],[2,6]),([2,7],[2,7])])
def ratField.B10:List Nat:=[0,1,3,7,7,23,63,127,255]
theorem ratField.tab10:rtab .any (opsOf Try.f8 10)=ratField.T10:=by kernel_rfl
theorem ratField.bits10:waitsOk ratField.T10.2 ratField.B10=true:=by kernel_rfl
set_option maxHeartbeats 8000000 in
set_option maxRecDepth 100000 in
theorem ratField_q (n1:Bool) (Aa1:Option Addr) (ca1:Nat) (p1:List Int) (Ab1:Option Addr) (cb1:Nat) (q1:List Int) (n2:Bool) (Aa2:Option Addr) (ca2:Nat) (p2:List Int) (Ab2:Option Addr) (cb2:Nat) (q2:List Int) (n3:Bool) (Aa3:Option Addr) (ca3:Nat) (p3:List Int) (Ab3:Option Addr) (cb3:Nat) (q3:List Int) (w:World) (hr_p1:Kd.C (Kd.int .u32) w Aa1 p1.length p1) (hc_p1:p1.length≤ca1) (ho_p1:ok B32 p1) (hr_q1:Kd.C (Kd.int .u32) w Ab1 q1.length q1) (hc_q1:q1.length≤cb1) (ho_q1:ok B32 q1) (hr_p2:Kd.C (Kd.int .u32) w Aa2 p2.length p2) (hc_p2:p2.length≤ca2) (ho_p2:ok B32 p2) (hr_q2:Kd.C (Kd.int .u32) w Ab2 q2.length q2) (hc_q2:q2.length≤cb2) (ho_q2:ok B32 q2) (hr_p3:Kd.C (Kd.int .u32) w Aa3 p3.length p3) (hc_p3:p3.length≤ca3) (ho_p3:ok B32 p3) (hr_q3:Kd.C (Kd.int .u32) w Ab3 q3.length q3) (hc_q3:q3.length≤cb3) (ho_q3:ok B32 q3) :
  Calls Try.prog 8 #[.agg #[.bool n1,.slice Aa1 p1.length ca1,.slice Ab1 q1.length cb1],.agg #[.bool n2,.slice Aa2 p2.length ca2,.slice Ab2 q2.length cb2],.agg #[.bool n3,.slice Aa3 p3.length ca3,.slice Ab3 q3.length cb3]] w fun e w'=>e=.returned (.bool true)∧Below w.heap.size w w':=by
 have hu25:=Try.underlying25
 have HF0:=Aside0.mk (fun (g:Nat) (t:TypeId) (W:World) hg (hb:Below w.heap.size w W)=>few_q [(Aa1,ca1,p1),(Ab1,cb1,q1),(Aa2,ca2,p2),(Ab2,cb2,q2),(Aa3,ca3,p3),(Ab3,cb3,q3)] g t W hg (by
  intro x hx
  simp only [List.mem_cons,List.not_mem_nil,or_false] at hx
  rcases hx with rfl | rfl | rfl | rfl | rfl | rfl
  ·
   exact⟨Kd.C_below hr_p1 hb,hc_p1⟩
  ·
   exact⟨Kd.C_below hr_q1 hb,hc_q1⟩
  ·
   exact⟨Kd.C_below hr_p2 hb,hc_p2⟩
  ·
   exact⟨Kd.C_below hr_q2 hb,hc_q2⟩
  ·
   exact⟨Kd.C_below hr_p3 hb,hc_p3⟩
  ·
   exact⟨Kd.C_below hr_q3 hb,hc_q3⟩
  ) (by simp))
 cases hfb:fewB [p1,q1,p2,q2,p3,q3] with
 | false =>
  simp only [List.map_cons,List.map_nil,hfb] at HF0
  clear hfb hr_p1 ho_p1 hr_q1 ho_q1 hr_p2 ho_p2 hr_q2 ho_q2 hr_p3 ho_p3 hr_q3 ho_q3
  go_enter Try.func8,Try.ntmps8
  go_wp2_with fail
  have hg:=zbp (((w.alloc (.cells #[.bool n1,.slice Aa1 p1.length ca1,.slice Ab1 q1.length cb1] 25)).alloc (.cells #[.bool n2,.slice Aa2 p2.length ca2,.slice Ab2 q2.length cb2] 25)).alloc (.cells #[.bool n3,.slice Aa3 p3.length ca3,.slice Ab3 q3.length cb3] 25)) (.cells #[.slice Aa1 p1.length ca1,.slice Ab1 q1.length cb1,.slice Aa2 p2.length ca2,.slice Ab2 q2.length cb2,.slice Aa3 p3.length ca3,.slice Ab3 q3.length cb3] 23)
  rw [show (((w.alloc (.cells #[.bool n1,.slice Aa1 p1.length ca1,.slice Ab1 q1.length cb1] 25)).alloc (.cells #[.bool n2,.slice Aa2 p2.length ca2,.slice Ab2 q2.length cb2] 25)).alloc (.cells #[.bool n3,.slice Aa3 p3.length ca3,.slice Ab3 q3.length cb3] 25)).heap.size=w.heap.size+1+1+1 by simp] at hg
  have hbw:Below w.heap.size w ((((w.alloc (.cells #[.bool n1,.slice Aa1 p1.length ca1,.slice Ab1 q1.length cb1] 25)).alloc (.cells #[.bool n2,.slice Aa2 p2.length ca2,.slice Ab2 q2.length cb2] 25)).alloc (.cells #[.bool n3,.slice Aa3 p3.length ca3,.slice Ab3 q3.length cb3] 25)).alloc (.cells #[.slice Aa1 p1.length ca1,.slice Ab1 q1.length cb1,.slice Aa2 p2.length ca2,.slice Ab2 q2.length cb2,.slice Aa3 p3.length ca3,.slice Ab3 q3.length cb3] 23)):=zab (zab (zab (zab (Below.refl _ _) _) _) _) _
  generalize (((w.alloc (.cells #[.bool n1,.slice Aa1 p1.length ca1,.slice Ab1 q1.length cb1] 25)).alloc (.cells #[.bool n2,.slice Aa2 p2.length ca2,.slice Ab2 q2.length cb2] 25)).alloc (.cells #[.bool n3,.slice Aa3 p3.length ca3,.slice Ab3 q3.length cb3] 25)).alloc (.cells #[.slice Aa1 p1.length ca1,.slice Ab1 q1.length cb1,.slice Aa2 p2.length ca2,.slice Ab2 q2.length cb2,.slice Aa3 p3.length ca3,.slice Ab3 q3.length cb3] 23)=W1 at hg hbw ⊢
  refine(HF0.out _ _ W1 hg hbw).mono ?_
  rintro e w2 ⟨rfl,hd⟩
  obtain⟨m,rfl⟩:=hd.out
  have HB:=Aside0.mk (zaa hbw m)
  clear hg hbw hd
  go_wp2_with fail
  refine(known_q _).mono ?_
  rintro e w3 ⟨rfl,hB⟩
  have HB2:=Aside0.mk (zag HB.out hB)
  clear hB
  go_wp2
  go_ret
  exact⟨rfl,HB2.out⟩
 | true =>
  have hl:p1.length≤60∧q1.length≤60∧p2.length≤60∧q2.length≤60∧p3.length≤60∧q3.length≤60:=by simpa [fewB] using hfb
  have HP1:=Aside0.mk (show ∀ W:World,Below w.heap.size w W→NR W (.agg #[.bool n1,.slice Aa1 p1.length ca1,.slice Ab1 q1.length cb1]) (nrm n1 (val B32 p1) (val B32 q1)) from fun W hb=>⟨_,_,_,_,_,_,_,rfl,⟨Kd.C_below hr_p1 hb,hc_p1,okS60 ho_p1 hl.1⟩,⟨Kd.C_below hr_q1 hb,hc_q1,okS60 ho_q1 hl.2.1⟩,rfl⟩)
  have HL1:=Aside0.mk (lim_raw (n:=n1) ho_p1 ho_q1 hl.1 hl.2.1)
  have HD1:=Aside0.mk (nrm_red n1 (val B32 p1) (val B32 q1))
  have HP2:=Aside0.mk (show ∀ W:World,Below w.heap.size w W→NR W (.agg #[.bool n2,.slice Aa2 p2.length ca2,.slice Ab2 q2.length cb2]) (nrm n2 (val B32 p2) (val B32 q2)) from fun W hb=>⟨_,_,_,_,_,_,_,rfl,⟨Kd.C_below hr_p2 hb,hc_p2,okS60 ho_p2 hl.2.2.1⟩,⟨Kd.C_below hr_q2 hb,hc_q2,okS60 ho_q2 hl.2.2.2.1⟩,rfl⟩)
  have HL2:=Aside0.mk (lim_raw (n:=n2) ho_p2 ho_q2 hl.2.2.1 hl.2.2.2.1)
  have HD2:=Aside0.mk (nrm_red n2 (val B32 p2) (val B32 q2))
  have HP3:=Aside0.mk (show ∀ W:World,Below w.heap.size w W→NR W (.agg #[.bool n3,.slice Aa3 p3.length ca3,.slice Ab3 q3.length cb3]) (nrm n3 (val B32 p3) (val B32 q3)) from fun W hb=>⟨_,_,_,_,_,_,_,rfl,⟨Kd.C_below hr_p3 hb,hc_p3,okS60 ho_p3 hl.2.2.2.2.1⟩,⟨Kd.C_below hr_q3 hb,hc_q3,okS60 ho_q3 hl.2.2.2.2.2⟩,rfl⟩)
  have HL3:=Aside0.mk (lim_raw (n:=n3) ho_p3 ho_q3 hl.2.2.2.2.1 hl.2.2.2.2.2)
  have HD3:=Aside0.mk (nrm_red n3 (val B32 p3) (val B32 q3))
  generalize nrm n1 (val B32 p1) (val B32 q1)=X1 at HP1 HL1 HD1
  generalize nrm n2 (val B32 p2) (val B32 q2)=X2 at HP2 HL2 HD2
  generalize nrm n3 (val B32 p3) (val B32 q3)=X3 at HP3 HL3 HD3
  have HEQ:=Aside0.mk (And.intro (addQ_comm HD2.out HD1.out) (And.intro (mulQ_comm HD2.out HD1.out) (And.intro (addQ_assoc HD1.out HD2.out HD3.out) (And.intro (mulQ_assoc HD1.out HD2.out HD3.out) (And.intro (addQ_mul HD1.out HD2.out HD3.out) (And.intro (addQ_sub HD1.out HD2.out) (And.intro (addQ_ngt HD1.out) (fun hz=>divQ_mul HD1.out HD2.out hz))))))))
  have LS:=Aside0.mk (lim_add HL1.out HL2.out)
  have DS:=Aside0.mk (show red (addQ X1 X2) from red_add _ _)
  obtain⟨S,hS⟩:∃ X:QN,X=addQ X1 X2:=⟨_,rfl⟩
  rw [← hS] at LS DS
  rw [← hS] at HEQ
  have LM:=Aside0.mk (lim_mul HL1.out HL2.out (by decide))
  have DM:=Aside0.mk (show red (mulQ X1 X2) from red_mul _ _)
  obtain⟨M,hM⟩:∃ X:QN,X=mulQ X1 X2:=⟨_,rfl⟩
  rw [← hM] at LM DM
  rw [← hM] at HEQ
  have LT3:=Aside0.mk (lim_add LS.out HL3.out)
  have DT3:=Aside0.mk (show red (addQ S X3) from red_add _ _)
  obtain⟨T3,hT3⟩:∃ X:QN,X=addQ S X3:=⟨_,rfl⟩
  rw [← hT3] at LT3 DT3
  have LY3:=Aside0.mk (lim_add HL2.out HL3.out)
  have DY3:=Aside0.mk (show red (addQ X2 X3) from red_add _ _)
  obtain⟨Y3,hY3⟩:∃ X:QN,X=addQ X2 X3:=⟨_,rfl⟩
  rw [← hY3] at LY3 DY3
  have LP3:=Aside0.mk (lim_mul LM.out HL3.out (by decide))
  have DP3:=Aside0.mk (show red (mulQ M X3) from red_mul _ _)
  obtain⟨P3,hP3⟩:∃ X:QN,X=mulQ M X3:=⟨_,rfl⟩
  rw [← hP3] at LP3 DP3
  have LQ3:=Aside0.mk (lim_mul HL2.out HL3.out (by decide))
  have DQ3:=Aside0.mk (show red (mulQ X2 X3) from red_mul _ _)
  obtain⟨Q3,hQ3⟩:∃ X:QN,X=mulQ X2 X3:=⟨_,rfl⟩
  rw [← hQ3] at LQ3 DQ3
  have LD3:=Aside0.mk (lim_mul LS.out HL3.out (by decide))
  have DD3:=Aside0.mk (show red (mulQ S X3) from red_mul _ _)
  obtain⟨D3,hD3⟩:∃ X:QN,X=mulQ S X3:=⟨_,rfl⟩
  rw [← hD3] at LD3 DD3
  have LR3:=Aside0.mk (lim_mul HL1.out HL3.out (by decide))
  have DR3:=Aside0.mk (show red (mulQ X1 X3) from red_mul _ _)
  obtain⟨R3,hR3⟩:∃ X:QN,X=mulQ X1 X3:=⟨_,rfl⟩
  rw [← hR3] at LR3 DR3
  have LG1:=Aside0.mk (lim_ngt HL1.out)
  have DG1:=Aside0.mk (show red (ngt X1) from red_ngt HD1.out)
  obtain⟨G1,hG1⟩:∃ X:QN,X=ngt X1:=⟨_,rfl⟩
  rw [← hG1] at LG1 DG1
  rw [← hT3,← hY3,← hP3,← hQ3,← hD3,← hR3,← hG1] at HEQ
  have A12:=Aside0.mk (show ∀ (W:World) (u v:Value),NR W u X1→NR W v X2→Calls Try.prog 31 #[u,v] W (RTPost W S) from fun W u v hu hv=>by have h:=add_n hu hv; rwa [← hS] at h)
  have M12:=Aside0.mk (show ∀ (W:World) (u v:Value),NR W u X1→NR W v X2→Calls Try.prog 35 #[u,v] W (RTPost W M) from fun W u v hu hv=>by have h:=mul_n hu hv; rwa [← hM] at h)
  have A21:=Aside0.mk (show ∀ (W:World) (u v:Value),NR W u X2→NR W v X1→Calls Try.prog 31 #[u,v] W (RTPost W S) from fun W u v hu hv=>by have h:=add_n hu hv; rwa [HEQ.out.1] at h)
  have M21:=Aside0.mk (show ∀ (W:World) (u v:Value),NR W u X2→NR W v X1→Calls Try.prog 35 #[u,v] W (RTPost W M) from fun W u v hu hv=>by have h:=mul_n hu hv; rwa [HEQ.out.2.1] at h)
  have AS3:=Aside0.mk (show ∀ (W:World) (u v:Value),NR W u S→NR W v X3→Calls Try.prog 31 #[u,v] W (RTPost W T3) from fun W u v hu hv=>by have h:=add_n hu hv; rwa [← hT3] at h)
  have A23:=Aside0.mk (show ∀ (W:World) (u v:Value),NR W u X2→NR W v X3→Calls Try.prog 31 #[u,v] W (RTPost W Y3) from fun W u v hu hv=>by have h:=add_n hu hv; rwa [← hY3] at h)
  have A1Y:=Aside0.mk (show ∀ (W:World) (u v:Value),NR W u X1→NR W v Y3→Calls Try.prog 31 #[u,v] W (RTPost W T3) from fun W u v hu hv=>by have h:=add_n hu hv; rwa [← HEQ.out.2.2.1] at h)
  have MM3:=Aside0.mk (show ∀ (W:World) (u v:Value),NR W u M→NR W v X3→Calls Try.prog 35 #[u,v] W (RTPost W P3) from fun W u v hu hv=>by have h:=mul_n hu hv; rwa [← hP3] at h)
  have M23:=Aside0.mk (show ∀ (W:World) (u v:Value),NR W u X2→NR W v X3→Calls Try.prog 35 #[u,v] W (RTPost W Q3) from fun W u v hu hv=>by have h:=mul_n hu hv; rwa [← hQ3] at h)
  have M1Q:=Aside0.mk (show ∀ (W:World) (u v:Value),NR W u X1→NR W v Q3→Calls Try.prog 35 #[u,v] W (RTPost W P3) from fun W u v hu hv=>by have h:=mul_n hu hv; rwa [← HEQ.out.2.2.2.1] at h)
  have MS3:=Aside0.mk (show ∀ (W:World) (u v:Value),NR W u S→NR W v X3→Calls Try.prog 35 #[u,v] W (RTPost W D3) from fun W u v hu hv=>by have h:=mul_n hu hv; rwa [← hD3] at h)
  have M13:=Aside0.mk (show ∀ (W:World) (u v:Value),NR W u X1→NR W v X3→Calls Try.prog 35 #[u,v] W (RTPost W R3) from fun W u v hu hv=>by have h:=mul_n hu hv; rwa [← hR3] at h)
  have ARQ:=Aside0.mk (show ∀ (W:World) (u v:Value),NR W u R3→NR W v Q3→Calls Try.prog 31 #[u,v] W (RTPost W D3) from fun W u v hu hv=>by have h:=add_n hu hv; rwa [← HEQ.out.2.2.2.2.1] at h)
  have SS2:=Aside0.mk (show ∀ (W:World) (u v:Value),NR W u S→NR W v X2→Calls Try.prog 33 #[u,v] W (RTPost W X1) from fun W u v hu hv=>by have h:=sub_n hu hv; rwa [HEQ.out.2.2.2.2.2.1] at h)
  have A1G:=Aside0.mk (show ∀ (W:World) (u v:Value),NR W u X1→NR W v G1→Calls Try.prog 31 #[u,v] W (RTPost W (false,0,1)) from fun W u v hu hv=>by have h:=add_n hu hv; rwa [HEQ.out.2.2.2.2.2.2.1] at h)
  have NG:=Aside0.mk (show ∀ (W:World) (u:Value),NR W u X1→Calls Try.prog 37 #[u] W (RTPost W G1) from fun W u hu=>by have h:=neg_n hu; rwa [← hG1] at h)
  have DV:=Aside0.mk (show X2.2.1≠0→∀ (W:World) (u v:Value),NR W u M→NR W v X2→Calls Try.prog 38 #[u,v] W (RTE W X1 0) from fun hz W u v hu hv=>by have h:=divY_n hu hv hz; rwa [HEQ.out.2.2.2.2.2.2.2 hz] at h)
  have KS:=Aside0.mk (And.intro DS.out (lim_ok LS.out (by decide)))
  have KM:=Aside0.mk (And.intro DM.out (lim_ok LM.out (by decide)))
  have KT3:=Aside0.mk (And.intro DT3.out (lim_ok LT3.out (by decide)))
  have KY3:=Aside0.mk (And.intro DY3.out (lim_ok LY3.out (by decide)))
  have KP3:=Aside0.mk (And.intro DP3.out (lim_ok LP3.out (by decide)))
  have KQ3:=Aside0.mk (And.intro DQ3.out (lim_ok LQ3.out (by decide)))
  have KD3:=Aside0.mk (And.intro DD3.out (lim_ok LD3.out (by decide)))
  have KR3:=Aside0.mk (And.intro DR3.out (lim_ok LR3.out (by decide)))
  have KG1:=Aside0.mk (And.intro DG1.out (lim_ok LG1.out (by decide)))
  have KX1:=Aside0.mk (And.intro HD1.out (lim_ok HL1.out (by decide)))
  have K0:=Aside0.mk (show red ((false,0,1):QN)∧okQ ((false,0,1):QN) from ⟨⟨by decide,by decide,by decide⟩,okQ_small (by decide) (by decide)⟩)
  have SG0:=Aside0.mk (show ∀ (W:World) (u:Value),NR W u (false,0,1)→Calls Try.prog 41 #[u] W fun e w'=>e=.returned (.int .i64 0)∧Below W.heap.size W w' from fun W u hu=>sign_n hu)
  clear HEQ LS DS hS LM DM hM LT3 DT3 hT3 LY3 DY3 hY3 LP3 DP3 hP3 LQ3 DQ3 hQ3 LD3 DD3 hD3 LR3 DR3 hR3 LG1 DG1 hG1 HL1 HL2 HL3 HD1 HD2 HD3
  simp only [List.map_cons,List.map_nil,hfb] at HF0
  clear hfb hl hr_p1 ho_p1 hr_q1 ho_q1 hr_p2 ho_p2 hr_q2 ho_q2 hr_p3 ho_p3 hr_q3 ho_q3
  go_enter Try.func8,Try.ntmps8
  go_wp2_with fail
  have hg:=zbp (((w.alloc (.cells #[.bool n1,.slice Aa1 p1.length ca1,.slice Ab1 q1.length cb1] 25)).alloc (.cells #[.bool n2,.slice Aa2 p2.length ca2,.slice Ab2 q2.length cb2] 25)).alloc (.cells #[.bool n3,.slice Aa3 p3.length ca3,.slice Ab3 q3.length cb3] 25)) (.cells #[.slice Aa1 p1.length ca1,.slice Ab1 q1.length cb1,.slice Aa2 p2.length ca2,.slice Ab2 q2.length cb2,.slice Aa3 p3.length ca3,.slice Ab3 q3.length cb3] 23)
  rw [show (((w.alloc (.cells #[.bool n1,.slice Aa1 p1.length ca1,.slice Ab1 q1.length cb1] 25)).alloc (.cells #[.bool n2,.slice Aa2 p2.length ca2,.slice Ab2 q2.length cb2] 25)).alloc (.cells #[.bool n3,.slice Aa3 p3.length ca3,.slice Ab3 q3.length cb3] 25)).heap.size=w.heap.size+1+1+1 by simp] at hg
  have hx1:=zae (zae (zae (zbp w (.cells #[.bool n1,.slice Aa1 p1.length ca1,.slice Ab1 q1.length cb1] 25)) (.cells #[.bool n2,.slice Aa2 p2.length ca2,.slice Ab2 q2.length cb2] 25)) (.cells #[.bool n3,.slice Aa3 p3.length ca3,.slice Ab3 q3.length cb3] 25)) (.cells #[.slice Aa1 p1.length ca1,.slice Ab1 q1.length cb1,.slice Aa2 p2.length ca2,.slice Ab2 q2.length cb2,.slice Aa3 p3.length ca3,.slice Ab3 q3.length cb3] 23)
  have hx2:=zae (zae (zbp (w.alloc (.cells #[.bool n1,.slice Aa1 p1.length ca1,.slice Ab1 q1.length cb1] 25)) (.cells #[.bool n2,.slice Aa2 p2.length ca2,.slice Ab2 q2.length cb2] 25)) (.cells #[.bool n3,.slice Aa3 p3.length ca3,.slice Ab3 q3.length cb3] 25)) (.cells #[.slice Aa1 p1.length ca1,.slice Ab1 q1.length cb1,.slice Aa2 p2.length ca2,.slice Ab2 q2.length cb2,.slice Aa3 p3.length ca3,.slice Ab3 q3.length cb3] 23)
  rw [show (w.alloc (.cells #[.bool n1,.slice Aa1 p1.length ca1,.slice Ab1 q1.length cb1] 25)).heap.size=w.heap.size+1 by simp] at hx2
  have hx3:=zae (zbp ((w.alloc (.cells #[.bool n1,.slice Aa1 p1.length ca1,.slice Ab1 q1.length cb1] 25)).alloc (.cells #[.bool n2,.slice Aa2 p2.length ca2,.slice Ab2 q2.length cb2] 25)) (.cells #[.bool n3,.slice Aa3 p3.length ca3,.slice Ab3 q3.length cb3] 25)) (.cells #[.slice Aa1 p1.length ca1,.slice Ab1 q1.length cb1,.slice Aa2 p2.length ca2,.slice Ab2 q2.length cb2,.slice Aa3 p3.length ca3,.slice Ab3 q3.length cb3] 23)
  rw [show ((w.alloc (.cells #[.bool n1,.slice Aa1 p1.length ca1,.slice Ab1 q1.length cb1] 25)).alloc (.cells #[.bool n2,.slice Aa2 p2.length ca2,.slice Ab2 q2.length cb2] 25)).heap.size=w.heap.size+1+1 by simp] at hx3
  have hbw:Below w.heap.size w ((((w.alloc (.cells #[.bool n1,.slice Aa1 p1.length ca1,.slice Ab1 q1.length cb1] 25)).alloc (.cells #[.bool n2,.slice Aa2 p2.length ca2,.slice Ab2 q2.length cb2] 25)).alloc (.cells #[.bool n3,.slice Aa3 p3.length ca3,.slice Ab3 q3.length cb3] 25)).alloc (.cells #[.slice Aa1 p1.length ca1,.slice Ab1 q1.length cb1,.slice Aa2 p2.length ca2,.slice Ab2 q2.length cb2,.slice Aa3 p3.length ca3,.slice Ab3 q3.length cb3] 23)):=zab (zab (zab (zab (Below.refl _ _) _) _) _) _
  generalize (((w.alloc (.cells #[.bool n1,.slice Aa1 p1.length ca1,.slice Ab1 q1.length cb1] 25)).alloc (.cells #[.bool n2,.slice Aa2 p2.length ca2,.slice Ab2 q2.length cb2] 25)).alloc (.cells #[.bool n3,.slice Aa3 p3.length ca3,.slice Ab3 q3.length cb3] 25)).alloc (.cells #[.slice Aa1 p1.length ca1,.slice Ab1 q1.length cb1,.slice Aa2 p2.length ca2,.slice Ab2 q2.length cb2,.slice Aa3 p3.length ca3,.slice Ab3 q3.length cb3] 23)=W1 at hg hbw hx1 hx2 hx3 ⊢
  refine(HF0.out _ _ W1 hg hbw).mono ?_
  rintro e w2 ⟨rfl,hd⟩
  obtain⟨m,rfl⟩:=hd.out
  have HB2:=Aside0.mk (zaa hbw m)
  have HX1:=Aside0.mk (zaf hx1 m)
  obtain⟨⟨x10,x11,x12⟩,y10,y11,y12⟩:=zat HX1.out
  have HX2:=Aside0.mk (zaf hx2 m)
  obtain⟨⟨x20,x21,x22⟩,y20,y21,y22⟩:=zat HX2.out
  have HX3:=Aside0.mk (zaf hx3 m)
  obtain⟨⟨x30,x31,x32⟩,y30,y31,y32⟩:=zat HX3.out
  clear hg hbw hd HF0 hx1 hx2 hx3
  go_wp2_with fail
  generalize W1.drewN m=W2 at HB2 HX1 HX2 HX3 ⊢
  clear x10 x11 x12 y10 y11 y12
  clear x20 x21 x22 y20 y21 y22
  clear x30 x31 x32 y30 y31 y32
  have HF:Aside0 (∀ w':World,Below W2.heap.size W2 w'→(w'.cell? ⟨w.heap.size,0,none⟩=some (.bool n1)∧w'.cell? ⟨w.heap.size,1,none⟩=some (.slice Aa1 p1.length ca1)∧w'.cell? ⟨w.heap.size,2,none⟩=some (.slice Ab1 q1.length cb1)∧w'.cell? ⟨w.heap.size+1,0,none⟩=some (.bool n2)∧w'.cell? ⟨w.heap.size+1,1,none⟩=some (.slice Aa2 p2.length ca2)∧w'.cell? ⟨w.heap.size+1,2,none⟩=some (.slice Ab2 q2.length cb2)∧w'.cell? ⟨w.heap.size+1+1,0,none⟩=some (.bool n3)∧w'.cell? ⟨w.heap.size+1+1,1,none⟩=some (.slice Aa3 p3.length ca3)∧w'.cell? ⟨w.heap.size+1+1,2,none⟩=some (.slice Ab3 q3.length cb3))∧Below w.heap.size w w'):=⟨fun W hb=>⟨⟨(zai (zal HX1.out hb) 0).trans rfl,(zai (zal HX1.out hb) 1).trans rfl,(zai (zal HX1.out hb) 2).trans rfl,(zai (zal HX2.out hb) 0).trans rfl,(zai (zal HX2.out hb) 1).trans rfl,(zai (zal HX2.out hb) 2).trans rfl,(zai (zal HX3.out hb) 0).trans rfl,(zai (zal HX3.out hb) 1).trans rfl,(zai (zal HX3.out hb) 2).trans rfl⟩,zag HB2.out hb⟩⟩
  refine start_ (n:=10) (S:=fun w'=>(w'.cell? ⟨w.heap.size,0,none⟩=some (.bool n1)∧w'.cell? ⟨w.heap.size,1,none⟩=some (.slice Aa1 p1.length ca1)∧w'.cell? ⟨w.heap.size,2,none⟩=some (.slice Ab1 q1.length cb1)∧w'.cell? ⟨w.heap.size+1,0,none⟩=some (.bool n2)∧w'.cell? ⟨w.heap.size+1,1,none⟩=some (.slice Aa2 p2.length ca2)∧w'.cell? ⟨w.heap.size+1,2,none⟩=some (.slice Ab2 q2.length cb2)∧w'.cell? ⟨w.heap.size+1+1,0,none⟩=some (.bool n3)∧w'.cell? ⟨w.heap.size+1+1,1,none⟩=some (.slice Aa3 p3.length ca3)∧w'.cell? ⟨w.heap.size+1+1,2,none⟩=some (.slice Ab3 q3.length cb3))) (ds:=[8,9]) #[false,false,false,false,false,false,false,false,false,false] (by kernel_rfl) rfl rfl ((HF.out _ (zac (Below.refl _ _))).1) (fun hHeld=>?_)
  have hb0:=Aside0.mk (show Below W2.heap.size W2 W2.drew from zac (Below.refl _ _))
  generalize W2.drew=V0 at hb0 hHeld ⊢
  refine with_tabW ratField.tab3 ratField.bits3 (fun HT_ HW_=>?_)
  refine take_ (i:=0) (N:=some 27) (v:=?_) (a':=?_) #[true,false,false,false,false,false,false,false,false,false] rfl rfl (zaQ HT_.out HW_.out (by kernel_rfl)) (fun _ _ _ h=>h) (Or.inl ⟨by rfl,?_⟩) hHeld ?_ ?_
  rotate_left
  ·
   intro w' s0
   go_simp
   with_reducible rfl
  rotate_left
  ·
   simp only [Act.put,List.setIfInBounds_toArray,List.set_cons_zero,List.set_cons_succ,zaq,zar]
   rfl
  refine take_ (i:=1) (N:=some 28) (v:=?_) (a':=?_) #[true,true,false,false,false,false,false,false,false,false] rfl rfl (zaQ HT_.out HW_.out (by kernel_rfl)) (fun _ _ _ h=>h) (Or.inl ⟨by rfl,?_⟩) hHeld ?_ ?_
  rotate_left
  ·
   intro w' s0
   go_simp
   with_reducible rfl
  rotate_left
  ·
   simp only [Act.put,List.setIfInBounds_toArray,List.set_cons_zero,List.set_cons_succ,zaq,zar]
   rfl
  refine take_ (i:=3) (N:=some 30) (v:=?_) (a':=?_) #[true,true,false,true,false,false,false,false,false,false] rfl rfl (zaQ HT_.out HW_.out (by kernel_rfl)) (fun _ _ _ h=>h) (Or.inl ⟨by rfl,?_⟩) hHeld ?_ ?_
  rotate_left
  ·
   intro w' s0
   go_simp
   with_reducible rfl
  rotate_left
  ·
   simp only [Act.put,List.setIfInBounds_toArray,List.set_cons_zero,List.set_cons_succ,zaq,zar]
   rfl
  refine take_ (i:=4) (N:=some 31) (v:=?_) (a':=?_) #[true,true,false,true,true,false,false,false,false,false] rfl rfl (zaQ HT_.out HW_.out (by kernel_rfl)) (fun _ _ _ h=>h) (Or.inl ⟨by rfl,?_⟩) hHeld ?_ ?_
  rotate_left
  ·
   intro w' s0
   go_simp
   with_reducible rfl
  rotate_left
  ·
   simp only [Act.put,List.setIfInBounds_toArray,List.set_cons_zero,List.set_cons_succ,zaq,zar]
   rfl
  refine join_ (σ:=Option Addr×Nat×Option Addr×Nat×Option Addr×Nat×Option Addr×Nat×Nat×Nat) 2 #[true,true,true,true,true,true,true,true,false,false] (fun s=>[(29,.agg #[.bool S.1,.slice s.1 (dg B32 S.2.1).length s.2.1,.slice s.2.2.1 (dg B32 S.2.2).length s.2.2.2.1]),(32,.agg #[.bool M.1,.slice s.2.2.2.2.1 (dg B32 M.2.1).length s.2.2.2.2.2.1,.slice s.2.2.2.2.2.2.1 (dg B32 M.2.2).length s.2.2.2.2.2.2.2.1]),(7,.pointer (some ⟨s.2.2.2.2.2.2.2.2.1,0,none⟩)),(8,.pointer (some ⟨s.2.2.2.2.2.2.2.2.2,0,none⟩))]) (fun s w'=>(w'.cell? ⟨w.heap.size,0,none⟩=some (.bool n1)∧w'.cell? ⟨w.heap.size,1,none⟩=some (.slice Aa1 p1.length ca1)∧w'.cell? ⟨w.heap.size,2,none⟩=some (.slice Ab1 q1.length cb1)∧w'.cell? ⟨w.heap.size+1,0,none⟩=some (.bool n2)∧w'.cell? ⟨w.heap.size+1,1,none⟩=some (.slice Aa2 p2.length ca2)∧w'.cell? ⟨w.heap.size+1,2,none⟩=some (.slice Ab2 q2.length cb2)∧w'.cell? ⟨w.heap.size+1+1,0,none⟩=some (.bool n3)∧w'.cell? ⟨w.heap.size+1+1,1,none⟩=some (.slice Aa3 p3.length ca3)∧w'.cell? ⟨w.heap.size+1+1,2,none⟩=some (.slice Ab3 q3.length cb3))∧(RT w' w.heap.size (.agg #[.bool S.1,.slice s.1 (dg B32 S.2.1).length s.2.1,.slice s.2.2.1 (dg B32 S.2.2).length s.2.2.2.1]) S)∧(RT w' w.heap.size (.agg #[.bool M.1,.slice s.2.2.2.2.1 (dg B32 M.2.1).length s.2.2.2.2.2.1,.slice s.2.2.2.2.2.2.1 (dg B32 M.2.2).length s.2.2.2.2.2.2.2.1]) M)∧(w'.heap[s.2.2.2.2.2.2.2.2.1]? = some (.cells #[.bool false,.slice none 0 0,.slice none 0 0] 25 (0,0))∧W2.heap.size≤s.2.2.2.2.2.2.2.2.1)∧(w'.heap[s.2.2.2.2.2.2.2.2.2]? = some (.cells #[.bool false,.slice none 0 0,.slice none 0 0] 25 (0,0))∧W2.heap.size≤s.2.2.2.2.2.2.2.2.2)∧(s.2.2.2.2.2.2.2.2.1≠s.2.2.2.2.2.2.2.2.2)∧Below W2.heap.size W2 w') ?_ ?_
  rotate_left
  ·
   intro hJ2_5_6_7
   refine join_ (σ:=Option Addr×Nat×Option Addr×Nat×Option Addr×Nat×Option Addr×Nat×Nat) 3 #[true,true,true,true,true,true,true,false,false,false] (fun s=>[(29,.agg #[.bool S.1,.slice s.1 (dg B32 S.2.1).length s.2.1,.slice s.2.2.1 (dg B32 S.2.2).length s.2.2.2.1]),(32,.agg #[.bool M.1,.slice s.2.2.2.2.1 (dg B32 M.2.1).length s.2.2.2.2.2.1,.slice s.2.2.2.2.2.2.1 (dg B32 M.2.2).length s.2.2.2.2.2.2.2.1]),(7,.pointer (some ⟨s.2.2.2.2.2.2.2.2,0,none⟩))]) (fun s w'=>(w'.cell? ⟨w.heap.size,0,none⟩=some (.bool n1)∧w'.cell? ⟨w.heap.size,1,none⟩=some (.slice Aa1 p1.length ca1)∧w'.cell? ⟨w.heap.size,2,none⟩=some (.slice Ab1 q1.length cb1)∧w'.cell? ⟨w.heap.size+1,0,none⟩=some (.bool n2)∧w'.cell? ⟨w.heap.size+1,1,none⟩=some (.slice Aa2 p2.length ca2)∧w'.cell? ⟨w.heap.size+1,2,none⟩=some (.slice Ab2 q2.length cb2)∧w'.cell? ⟨w.heap.size+1+1,0,none⟩=some (.bool n3)∧w'.cell? ⟨w.heap.size+1+1,1,none⟩=some (.slice Aa3 p3.length ca3)∧w'.cell? ⟨w.heap.size+1+1,2,none⟩=some (.slice Ab3 q3.length cb3))∧(RT w' w.heap.size (.agg #[.bool S.1,.slice s.1 (dg B32 S.2.1).length s.2.1,.slice s.2.2.1 (dg B32 S.2.2).length s.2.2.2.1]) S)∧(RT w' w.heap.size (.agg #[.bool M.1,.slice s.2.2.2.2.1 (dg B32 M.2.1).length s.2.2.2.2.2.1,.slice s.2.2.2.2.2.2.1 (dg B32 M.2.2).length s.2.2.2.2.2.2.2.1]) M)∧(w'.heap[s.2.2.2.2.2.2.2.2]? = some (.cells #[.bool false,.slice none 0 0,.slice none 0 0] 25 (0,0))∧W2.heap.size≤s.2.2.2.2.2.2.2.2)∧Below W2.heap.size W2 w') ?_ ?_
   rotate_left
   ·
    intro hJ2_5_6
    refine join_ (σ:=Option Addr×Nat×Option Addr×Nat×Option Addr×Nat×Option Addr×Nat×Nat) 3 #[true,true,true,true,true,true,false,true,false,false] (fun s=>[(29,.agg #[.bool S.1,.slice s.1 (dg B32 S.2.1).length s.2.1,.slice s.2.2.1 (dg B32 S.2.2).length s.2.2.2.1]),(32,.agg #[.bool M.1,.slice s.2.2.2.2.1 (dg B32 M.2.1).length s.2.2.2.2.2.1,.slice s.2.2.2.2.2.2.1 (dg B32 M.2.2).length s.2.2.2.2.2.2.2.1]),(8,.pointer (some ⟨s.2.2.2.2.2.2.2.2,0,none⟩))]) (fun s w'=>(w'.cell? ⟨w.heap.size,0,none⟩=some (.bool n1)∧w'.cell? ⟨w.heap.size,1,none⟩=some (.slice Aa1 p1.length ca1)∧w'.cell? ⟨w.heap.size,2,none⟩=some (.slice Ab1 q1.length cb1)∧w'.cell? ⟨w.heap.size+1,0,none⟩=some (.bool n2)∧w'.cell? ⟨w.heap.size+1,1,none⟩=some (.slice Aa2 p2.length ca2)∧w'.cell? ⟨w.heap.size+1,2,none⟩=some (.slice Ab2 q2.length cb2)∧w'.cell? ⟨w.heap.size+1+1,0,none⟩=some (.bool n3)∧w'.cell? ⟨w.heap.size+1+1,1,none⟩=some (.slice Aa3 p3.length ca3)∧w'.cell? ⟨w.heap.size+1+1,2,none⟩=some (.slice Ab3 q3.length cb3))∧(RT w' w.heap.size (.agg #[.bool S.1,.slice s.1 (dg B32 S.2.1).length s.2.1,.slice s.2.2.1 (dg B32 S.2.2).length s.2.2.2.1]) S)∧(RT w' w.heap.size (.agg #[.bool M.1,.slice s.2.2.2.2.1 (dg B32 M.2.1).length s.2.2.2.2.2.1,.slice s.2.2.2.2.2.2.1 (dg B32 M.2.2).length s.2.2.2.2.2.2.2.1]) M)∧(w'.heap[s.2.2.2.2.2.2.2.2]? = some (.cells #[.bool false,.slice none 0 0,.slice none 0 0] 25 (0,0))∧W2.heap.size≤s.2.2.2.2.2.2.2.2)∧Below W2.heap.size W2 w') ?_ ?_
    rotate_left
    ·
     intro hJ2_5_7
     refine join_ (σ:=Option Addr×Nat×Option Addr×Nat×Nat×Nat) 3 #[true,true,true,true,true,false,true,true,false,false] (fun s=>[(29,.agg #[.bool S.1,.slice s.1 (dg B32 S.2.1).length s.2.1,.slice s.2.2.1 (dg B32 S.2.2).length s.2.2.2.1]),(7,.pointer (some ⟨s.2.2.2.2.1,0,none⟩)),(8,.pointer (some ⟨s.2.2.2.2.2,0,none⟩))]) (fun s w'=>(w'.cell? ⟨w.heap.size,0,none⟩=some (.bool n1)∧w'.cell? ⟨w.heap.size,1,none⟩=some (.slice Aa1 p1.length ca1)∧w'.cell? ⟨w.heap.size,2,none⟩=some (.slice Ab1 q1.length cb1)∧w'.cell? ⟨w.heap.size+1,0,none⟩=some (.bool n2)∧w'.cell? ⟨w.heap.size+1,1,none⟩=some (.slice Aa2 p2.length ca2)∧w'.cell? ⟨w.heap.size+1,2,none⟩=some (.slice Ab2 q2.length cb2)∧w'.cell? ⟨w.heap.size+1+1,0,none⟩=some (.bool n3)∧w'.cell? ⟨w.heap.size+1+1,1,none⟩=some (.slice Aa3 p3.length ca3)∧w'.cell? ⟨w.heap.size+1+1,2,none⟩=some (.slice Ab3 q3.length cb3))∧(RT w' w.heap.size (.agg #[.bool S.1,.slice s.1 (dg B32 S.2.1).length s.2.1,.slice s.2.2.1 (dg B32 S.2.2).length s.2.2.2.1]) S)∧(w'.heap[s.2.2.2.2.1]? = some (.cells #[.bool false,.slice none 0 0,.slice none 0 0] 25 (0,0))∧W2.heap.size≤s.2.2.2.2.1)∧(w'.heap[s.2.2.2.2.2]? = some (.cells #[.bool false,.slice none 0 0,.slice none 0 0] 25 (0,0))∧W2.heap.size≤s.2.2.2.2.2)∧(s.2.2.2.2.1≠s.2.2.2.2.2)∧Below W2.heap.size W2 w') ?_ ?_
     rotate_left
     ·
      intro hJ2_6_7
      refine join_ (σ:=Option Addr×Nat×Option Addr×Nat×Option Addr×Nat×Option Addr×Nat) 4 #[true,true,true,true,true,true,false,false,false,false] (fun s=>[(29,.agg #[.bool S.1,.slice s.1 (dg B32 S.2.1).length s.2.1,.slice s.2.2.1 (dg B32 S.2.2).length s.2.2.2.1]),(32,.agg #[.bool M.1,.slice s.2.2.2.2.1 (dg B32 M.2.1).length s.2.2.2.2.2.1,.slice s.2.2.2.2.2.2.1 (dg B32 M.2.2).length s.2.2.2.2.2.2.2])]) (fun s w'=>(w'.cell? ⟨w.heap.size,0,none⟩=some (.bool n1)∧w'.cell? ⟨w.heap.size,1,none⟩=some (.slice Aa1 p1.length ca1)∧w'.cell? ⟨w.heap.size,2,none⟩=some (.slice Ab1 q1.length cb1)∧w'.cell? ⟨w.heap.size+1,0,none⟩=some (.bool n2)∧w'.cell? ⟨w.heap.size+1,1,none⟩=some (.slice Aa2 p2.length ca2)∧w'.cell? ⟨w.heap.size+1,2,none⟩=some (.slice Ab2 q2.length cb2)∧w'.cell? ⟨w.heap.size+1+1,0,none⟩=some (.bool n3)∧w'.cell? ⟨w.heap.size+1+1,1,none⟩=some (.slice Aa3 p3.length ca3)∧w'.cell? ⟨w.heap.size+1+1,2,none⟩=some (.slice Ab3 q3.length cb3))∧(RT w' w.heap.size (.agg #[.bool S.1,.slice s.1 (dg B32 S.2.1).length s.2.1,.slice s.2.2.1 (dg B32 S.2.2).length s.2.2.2.1]) S)∧(RT w' w.heap.size (.agg #[.bool M.1,.slice s.2.2.2.2.1 (dg B32 M.2.1).length s.2.2.2.2.2.1,.slice s.2.2.2.2.2.2.1 (dg B32 M.2.2).length s.2.2.2.2.2.2.2]) M)∧Below W2.heap.size W2 w') ?_ ?_
      rotate_left
      ·
       intro hJ2_5
       refine join_ (σ:=Option Addr×Nat×Option Addr×Nat×Nat) 4 #[true,true,true,true,true,false,true,false,false,false] (fun s=>[(29,.agg #[.bool S.1,.slice s.1 (dg B32 S.2.1).length s.2.1,.slice s.2.2.1 (dg B32 S.2.2).length s.2.2.2.1]),(7,.pointer (some ⟨s.2.2.2.2,0,none⟩))]) (fun s w'=>(w'.cell? ⟨w.heap.size,0,none⟩=some (.bool n1)∧w'.cell? ⟨w.heap.size,1,none⟩=some (.slice Aa1 p1.length ca1)∧w'.cell? ⟨w.heap.size,2,none⟩=some (.slice Ab1 q1.length cb1)∧w'.cell? ⟨w.heap.size+1,0,none⟩=some (.bool n2)∧w'.cell? ⟨w.heap.size+1,1,none⟩=some (.slice Aa2 p2.length ca2)∧w'.cell? ⟨w.heap.size+1,2,none⟩=some (.slice Ab2 q2.length cb2)∧w'.cell? ⟨w.heap.size+1+1,0,none⟩=some (.bool n3)∧w'.cell? ⟨w.heap.size+1+1,1,none⟩=some (.slice Aa3 p3.length ca3)∧w'.cell? ⟨w.heap.size+1+1,2,none⟩=some (.slice Ab3 q3.length cb3))∧(RT w' w.heap.size (.agg #[.bool S.1,.slice s.1 (dg B32 S.2.1).length s.2.1,.slice s.2.2.1 (dg B32 S.2.2).length s.2.2.2.1]) S)∧(w'.heap[s.2.2.2.2]? = some (.cells #[.bool false,.slice none 0 0,.slice none 0 0] 25 (0,0))∧W2.heap.size≤s.2.2.2.2)∧Below W2.heap.size W2 w') ?_ ?_
       rotate_left
       ·
        intro hJ2_6
        refine join_ (σ:=Option Addr×Nat×Option Addr×Nat×Nat) 4 #[true,true,true,true,true,false,false,true,false,false] (fun s=>[(29,.agg #[.bool S.1,.slice s.1 (dg B32 S.2.1).length s.2.1,.slice s.2.2.1 (dg B32 S.2.2).length s.2.2.2.1]),(8,.pointer (some ⟨s.2.2.2.2,0,none⟩))]) (fun s w'=>(w'.cell? ⟨w.heap.size,0,none⟩=some (.bool n1)∧w'.cell? ⟨w.heap.size,1,none⟩=some (.slice Aa1 p1.length ca1)∧w'.cell? ⟨w.heap.size,2,none⟩=some (.slice Ab1 q1.length cb1)∧w'.cell? ⟨w.heap.size+1,0,none⟩=some (.bool n2)∧w'.cell? ⟨w.heap.size+1,1,none⟩=some (.slice Aa2 p2.length ca2)∧w'.cell? ⟨w.heap.size+1,2,none⟩=some (.slice Ab2 q2.length cb2)∧w'.cell? ⟨w.heap.size+1+1,0,none⟩=some (.bool n3)∧w'.cell? ⟨w.heap.size+1+1,1,none⟩=some (.slice Aa3 p3.length ca3)∧w'.cell? ⟨w.heap.size+1+1,2,none⟩=some (.slice Ab3 q3.length cb3))∧(RT w' w.heap.size (.agg #[.bool S.1,.slice s.1 (dg B32 S.2.1).length s.2.1,.slice s.2.2.1 (dg B32 S.2.2).length s.2.2.2.1]) S)∧(w'.heap[s.2.2.2.2]? = some (.cells #[.bool false,.slice none 0 0,.slice none 0 0] 25 (0,0))∧W2.heap.size≤s.2.2.2.2)∧Below W2.heap.size W2 w') ?_ ?_
        rotate_left
        ·
         intro hJ2_7
         refine join_ (σ:=Nat×Nat) 4 #[true,true,false,true,true,false,true,true,false,false] (fun s=>[(7,.pointer (some ⟨s.1,0,none⟩)),(8,.pointer (some ⟨s.2,0,none⟩))]) (fun s w'=>(w'.cell? ⟨w.heap.size,0,none⟩=some (.bool n1)∧w'.cell? ⟨w.heap.size,1,none⟩=some (.slice Aa1 p1.length ca1)∧w'.cell? ⟨w.heap.size,2,none⟩=some (.slice Ab1 q1.length cb1)∧w'.cell? ⟨w.heap.size+1,0,none⟩=some (.bool n2)∧w'.cell? ⟨w.heap.size+1,1,none⟩=some (.slice Aa2 p2.length ca2)∧w'.cell? ⟨w.heap.size+1,2,none⟩=some (.slice Ab2 q2.length cb2)∧w'.cell? ⟨w.heap.size+1+1,0,none⟩=some (.bool n3)∧w'.cell? ⟨w.heap.size+1+1,1,none⟩=some (.slice Aa3 p3.length ca3)∧w'.cell? ⟨w.heap.size+1+1,2,none⟩=some (.slice Ab3 q3.length cb3))∧(w'.heap[s.1]? = some (.cells #[.bool false,.slice none 0 0,.slice none 0 0] 25 (0,0))∧W2.heap.size≤s.1)∧(w'.heap[s.2]? = some (.cells #[.bool false,.slice none 0 0,.slice none 0 0] 25 (0,0))∧W2.heap.size≤s.2)∧(s.1≠s.2)∧Below W2.heap.size W2 w') ?_ ?_
         rotate_left
         ·
          intro hJ6_7
          refine join_ (σ:=Option Addr×Nat×Option Addr×Nat) 5 #[true,true,true,true,true,false,false,false,false,false] (fun s=>[(29,.agg #[.bool S.1,.slice s.1 (dg B32 S.2.1).length s.2.1,.slice s.2.2.1 (dg B32 S.2.2).length s.2.2.2])]) (fun s w'=>(w'.cell? ⟨w.heap.size,0,none⟩=some (.bool n1)∧w'.cell? ⟨w.heap.size,1,none⟩=some (.slice Aa1 p1.length ca1)∧w'.cell? ⟨w.heap.size,2,none⟩=some (.slice Ab1 q1.length cb1)∧w'.cell? ⟨w.heap.size+1,0,none⟩=some (.bool n2)∧w'.cell? ⟨w.heap.size+1,1,none⟩=some (.slice Aa2 p2.length ca2)∧w'.cell? ⟨w.heap.size+1,2,none⟩=some (.slice Ab2 q2.length cb2)∧w'.cell? ⟨w.heap.size+1+1,0,none⟩=some (.bool n3)∧w'.cell? ⟨w.heap.size+1+1,1,none⟩=some (.slice Aa3 p3.length ca3)∧w'.cell? ⟨w.heap.size+1+1,2,none⟩=some (.slice Ab3 q3.length cb3))∧(RT w' w.heap.size (.agg #[.bool S.1,.slice s.1 (dg B32 S.2.1).length s.2.1,.slice s.2.2.1 (dg B32 S.2.2).length s.2.2.2]) S)∧Below W2.heap.size W2 w') ?_ ?_
          rotate_left
          ·
           intro hJ2
           refine join_ (σ:=Nat) 5 #[true,true,false,true,true,false,true,false,false,false] (fun s=>[(7,.pointer (some ⟨s,0,none⟩))]) (fun s w'=>(w'.cell? ⟨w.heap.size,0,none⟩=some (.bool n1)∧w'.cell? ⟨w.heap.size,1,none⟩=some (.slice Aa1 p1.length ca1)∧w'.cell? ⟨w.heap.size,2,none⟩=some (.slice Ab1 q1.length cb1)∧w'.cell? ⟨w.heap.size+1,0,none⟩=some (.bool n2)∧w'.cell? ⟨w.heap.size+1,1,none⟩=some (.slice Aa2 p2.length ca2)∧w'.cell? ⟨w.heap.size+1,2,none⟩=some (.slice Ab2 q2.length cb2)∧w'.cell? ⟨w.heap.size+1+1,0,none⟩=some (.bool n3)∧w'.cell? ⟨w.heap.size+1+1,1,none⟩=some (.slice Aa3 p3.length ca3)∧w'.cell? ⟨w.heap.size+1+1,2,none⟩=some (.slice Ab3 q3.length cb3))∧(w'.heap[s]? = some (.cells #[.bool false,.slice none 0 0,.slice none 0 0] 25 (0,0))∧W2.heap.size≤s)∧Below W2.heap.size W2 w') ?_ ?_
           rotate_left
           ·
            intro hJ6
            refine join_ (σ:=Nat) 5 #[true,true,false,true,true,false,false,true,false,false] (fun s=>[(8,.pointer (some ⟨s,0,none⟩))]) (fun s w'=>(w'.cell? ⟨w.heap.size,0,none⟩=some (.bool n1)∧w'.cell? ⟨w.heap.size,1,none⟩=some (.slice Aa1 p1.length ca1)∧w'.cell? ⟨w.heap.size,2,none⟩=some (.slice Ab1 q1.length cb1)∧w'.cell? ⟨w.heap.size+1,0,none⟩=some (.bool n2)∧w'.cell? ⟨w.heap.size+1,1,none⟩=some (.slice Aa2 p2.length ca2)∧w'.cell? ⟨w.heap.size+1,2,none⟩=some (.slice Ab2 q2.length cb2)∧w'.cell? ⟨w.heap.size+1+1,0,none⟩=some (.bool n3)∧w'.cell? ⟨w.heap.size+1+1,1,none⟩=some (.slice Aa3 p3.length ca3)∧w'.cell? ⟨w.heap.size+1+1,2,none⟩=some (.slice Ab3 q3.length cb3))∧(w'.heap[s]? = some (.cells #[.bool false,.slice none 0 0,.slice none 0 0] 25 (0,0))∧W2.heap.size≤s)∧Below W2.heap.size W2 w') ?_ ?_
            rotate_left
            ·
             intro hJ7
             refine three_ (i:=2) (j:=6) (k:=7) (Ni:=some 29) (Nj:=some 7) (Nk:=some 8) #[true,true,true,true,true,false,false,false,false,false] #[true,true,false,true,true,false,true,false,false,false] #[true,true,false,true,true,false,false,true,false,false] rfl rfl rfl rfl rfl rfl (three_of HT_.out (by kernel_rfl)) (by decide) (by decide) (by decide) (fun K hK=>?_) (fun K hK=>?_) (fun K hK=>?_)
             ·
              skip
              refine za7 Try.func31 (by kernel_rfl) rfl #[.agg #[.bool n1,.slice Aa1 p1.length ca1,.slice Ab1 q1.length cb1],.agg #[.bool n2,.slice Aa2 p2.length ca2,.slice Ab2 q2.length cb2]] (by rfl) rfl rfl (by (try simp only [List.map_toArray,List.map_cons,List.map_nil]); first | done | rfl) ?_
              refine(A12.out V0 _ _ (HP1.out V0 (HF.out _ hb0.out).2) (HP2.out V0 (HF.out _ hb0.out).2)).mono ?_
              rintro e Vn ⟨_,rfl,⟨m1,m2,rfl,R1,R2⟩,hB⟩
              refine⟨_,rfl,?_⟩
              obtain⟨A2,c2,rfl⟩:=Kd.R_slice R1
              obtain⟨B2,d2,rfl⟩:=Kd.R_slice R2
              have new:RT Vn w.heap.size (.agg #[.bool S.1,.slice A2 (dg B32 S.2.1).length c2,.slice B2 (dg B32 S.2.2).length d2]) S:=⟨_,_,rfl,Kd.R_lower R1 (HF.out _ hb0.out).2.size,Kd.R_lower R2 (HF.out _ hb0.out).2.size⟩
              have hbn:=Aside0.mk (zag hb0.out hB)
              refine hK.out _ _ ((HF.out _ hbn.out).1) (fun hHeld=>?_)
              clear hK K
              refine zaS (a':=?_) ?_ ?_
              rotate_left
              ·
               show Act.put _ (some 29) _=_
               simp only [Act.put,List.setIfInBounds_toArray,List.set_cons_zero,List.set_cons_succ,zaq,zar]
               rfl
              exact zaS (by first | (simp only [putAll,Act.put,List.setIfInBounds_toArray,List.set_cons_zero,List.set_cons_succ]; done) | (simp only [putAll,Act.put,List.setIfInBounds_toArray,List.set_cons_zero,List.set_cons_succ]; rfl)) (hJ2 (A2,c2,B2,d2) _ ⟨(HF.out _ hbn.out).1,new,hbn.out⟩)
             ·
              skip
              refine value_ (w1:=?_) (v:=?_) (by rfl) rfl ?_ ?_
              rotate_left 2
              ·
               go_simp
               constructor
               ·
                rfl
               ·
                rfl
              have hB:Below V0.heap.size V0 (V0.alloc (.cells #[.bool false,.slice none 0 0,.slice none 0 0] 25 (0,0))):=zab (Below.refl _ _) _
              have hN:=zbp V0 (.cells #[.bool false,.slice none 0 0,.slice none 0 0] 25 (0,0))
              have hbn:=Aside0.mk (zag hb0.out hB)
              refine hK.out _ _ ((HF.out _ hbn.out).1) (fun hHeld=>?_)
              clear hK K
              refine zaS (a':=?_) ?_ ?_
              rotate_left
              ·
               show Act.put _ (some 7) _=_
               simp only [Act.put,List.setIfInBounds_toArray,List.set_cons_zero,List.set_cons_succ,zaq,zar]
               rfl
              exact zaS (by first | (simp only [putAll,Act.put,List.setIfInBounds_toArray,List.set_cons_zero,List.set_cons_succ]; done) | (simp only [putAll,Act.put,List.setIfInBounds_toArray,List.set_cons_zero,List.set_cons_succ]; rfl)) (hJ6 (V0.heap.size) _ ⟨(HF.out _ hbn.out).1,⟨hN,hb0.out.size⟩,hbn.out⟩)
             ·
              skip
              refine value_ (w1:=?_) (v:=?_) (by rfl) rfl ?_ ?_
              rotate_left 2
              ·
               go_simp
               constructor
               ·
                rfl
               ·
                rfl
              have hB:Below V0.heap.size V0 (V0.alloc (.cells #[.bool false,.slice none 0 0,.slice none 0 0] 25 (0,0))):=zab (Below.refl _ _) _
              have hN:=zbp V0 (.cells #[.bool false,.slice none 0 0,.slice none 0 0] 25 (0,0))
              have hbn:=Aside0.mk (zag hb0.out hB)
              refine hK.out _ _ ((HF.out _ hbn.out).1) (fun hHeld=>?_)
              clear hK K
              refine zaS (a':=?_) ?_ ?_
              rotate_left
              ·
               show Act.put _ (some 8) _=_
               simp only [Act.put,List.setIfInBounds_toArray,List.set_cons_zero,List.set_cons_succ,zaq,zar]
               rfl
              exact zaS (by first | (simp only [putAll,Act.put,List.setIfInBounds_toArray,List.set_cons_zero,List.set_cons_succ]; done) | (simp only [putAll,Act.put,List.setIfInBounds_toArray,List.set_cons_zero,List.set_cons_succ]; rfl)) (hJ7 (V0.heap.size) _ ⟨(HF.out _ hbn.out).1,⟨hN,hb0.out.size⟩,hbn.out⟩)
            ·
             skip
             rintro g7 V ⟨hHeld,kK7,hb⟩
             have K7:=Aside0.mk kK7
             have hbv:=Aside0.mk hb
             clear hb kK7
             refine zaS (a':=?_) ?_ ?_
             rotate_left
             ·
              simp only [putAll,Act.put,List.setIfInBounds_toArray,List.set_cons_zero,List.set_cons_succ]
              rfl
             refine two_ (i:=2) (j:=6) (Ni:=some 29) (Nj:=some 7) #[true,true,true,true,true,false,false,true,false,false] #[true,true,false,true,true,false,true,true,false,false] rfl rfl rfl rfl (two_of HT_.out (by kernel_rfl)) (by decide) (by decide) (fun K hK=>?_) (fun K hK=>?_)
             ·
              skip
              refine za7 Try.func31 (by kernel_rfl) rfl #[.agg #[.bool n1,.slice Aa1 p1.length ca1,.slice Ab1 q1.length cb1],.agg #[.bool n2,.slice Aa2 p2.length ca2,.slice Ab2 q2.length cb2]] (by rfl) rfl rfl (by (try simp only [List.map_toArray,List.map_cons,List.map_nil]); first | done | rfl) ?_
              refine(A12.out V _ _ (HP1.out V (HF.out _ hbv.out).2) (HP2.out V (HF.out _ hbv.out).2)).mono ?_
              rintro e Vn ⟨_,rfl,⟨m1,m2,rfl,R1,R2⟩,hB⟩
              refine⟨_,rfl,?_⟩
              obtain⟨A2,c2,rfl⟩:=Kd.R_slice R1
              obtain⟨B2,d2,rfl⟩:=Kd.R_slice R2
              have new:RT Vn w.heap.size (.agg #[.bool S.1,.slice A2 (dg B32 S.2.1).length c2,.slice B2 (dg B32 S.2.2).length d2]) S:=⟨_,_,rfl,Kd.R_lower R1 (HF.out _ hbv.out).2.size,Kd.R_lower R2 (HF.out _ hbv.out).2.size⟩
              have hbn:=Aside0.mk (zag hbv.out hB)
              refine hK.out _ _ ((HF.out _ hbn.out).1) (fun hHeld=>?_)
              clear hK K
              refine zaS (a':=?_) ?_ ?_
              rotate_left
              ·
               show Act.put _ (some 29) _=_
               simp only [Act.put,List.setIfInBounds_toArray,List.set_cons_zero,List.set_cons_succ,zaq,zar]
               rfl
              exact zaS (by first | (simp only [putAll,Act.put,List.setIfInBounds_toArray,List.set_cons_zero,List.set_cons_succ]; done) | (simp only [putAll,Act.put,List.setIfInBounds_toArray,List.set_cons_zero,List.set_cons_succ]; rfl)) (hJ2_7 (A2,c2,B2,d2,g7) _ ⟨(HF.out _ hbn.out).1,new,⟨zal K7.out.1 hB,K7.out.2⟩,hbn.out⟩)
             ·
              skip
              refine value_ (w1:=?_) (v:=?_) (by rfl) rfl ?_ ?_
              rotate_left 2
              ·
               go_simp
               constructor
               ·
                rfl
               ·
                rfl
              have hB:Below V.heap.size V (V.alloc (.cells #[.bool false,.slice none 0 0,.slice none 0 0] 25 (0,0))):=zab (Below.refl _ _) _
              have hN:=zbp V (.cells #[.bool false,.slice none 0 0,.slice none 0 0] 25 (0,0))
              have hbn:=Aside0.mk (zag hbv.out hB)
              refine hK.out _ _ ((HF.out _ hbn.out).1) (fun hHeld=>?_)
              clear hK K
              refine zaS (a':=?_) ?_ ?_
              rotate_left
              ·
               show Act.put _ (some 7) _=_
               simp only [Act.put,List.setIfInBounds_toArray,List.set_cons_zero,List.set_cons_succ,zaq,zar]
               rfl
              exact zaS (by first | (simp only [putAll,Act.put,List.setIfInBounds_toArray,List.set_cons_zero,List.set_cons_succ]; done) | (simp only [putAll,Act.put,List.setIfInBounds_toArray,List.set_cons_zero,List.set_cons_succ]; rfl)) (hJ6_7 (V.heap.size,g7) _ ⟨(HF.out _ hbn.out).1,⟨hN,hbv.out.size⟩,⟨zal K7.out.1 hB,K7.out.2⟩,(Nat.ne_of_lt (zaD K7.out.1)).symm,hbn.out⟩)
           ·
            skip
            rintro g6 V ⟨hHeld,kK6,hb⟩
            have K6:=Aside0.mk kK6
            have hbv:=Aside0.mk hb
            clear hb kK6
            refine zaS (a':=?_) ?_ ?_
            rotate_left
            ·
             simp only [putAll,Act.put,List.setIfInBounds_toArray,List.set_cons_zero,List.set_cons_succ]
             rfl
            refine two_ (i:=2) (j:=7) (Ni:=some 29) (Nj:=some 8) #[true,true,true,true,true,false,true,false,false,false] #[true,true,false,true,true,false,true,true,false,false] rfl rfl rfl rfl (two_of HT_.out (by kernel_rfl)) (by decide) (by decide) (fun K hK=>?_) (fun K hK=>?_)
            ·
             skip
             refine za7 Try.func31 (by kernel_rfl) rfl #[.agg #[.bool n1,.slice Aa1 p1.length ca1,.slice Ab1 q1.length cb1],.agg #[.bool n2,.slice Aa2 p2.length ca2,.slice Ab2 q2.length cb2]] (by rfl) rfl rfl (by (try simp only [List.map_toArray,List.map_cons,List.map_nil]); first | done | rfl) ?_
             refine(A12.out V _ _ (HP1.out V (HF.out _ hbv.out).2) (HP2.out V (HF.out _ hbv.out).2)).mono ?_
             rintro e Vn ⟨_,rfl,⟨m1,m2,rfl,R1,R2⟩,hB⟩
             refine⟨_,rfl,?_⟩
             obtain⟨A2,c2,rfl⟩:=Kd.R_slice R1
             obtain⟨B2,d2,rfl⟩:=Kd.R_slice R2
             have new:RT Vn w.heap.size (.agg #[.bool S.1,.slice A2 (dg B32 S.2.1).length c2,.slice B2 (dg B32 S.2.2).length d2]) S:=⟨_,_,rfl,Kd.R_lower R1 (HF.out _ hbv.out).2.size,Kd.R_lower R2 (HF.out _ hbv.out).2.size⟩
             have hbn:=Aside0.mk (zag hbv.out hB)
             refine hK.out _ _ ((HF.out _ hbn.out).1) (fun hHeld=>?_)
             clear hK K
             refine zaS (a':=?_) ?_ ?_
             rotate_left
             ·
              show Act.put _ (some 29) _=_
              simp only [Act.put,List.setIfInBounds_toArray,List.set_cons_zero,List.set_cons_succ,zaq,zar]
              rfl
             exact zaS (by first | (simp only [putAll,Act.put,List.setIfInBounds_toArray,List.set_cons_zero,List.set_cons_succ]; done) | (simp only [putAll,Act.put,List.setIfInBounds_toArray,List.set_cons_zero,List.set_cons_succ]; rfl)) (hJ2_6 (A2,c2,B2,d2,g6) _ ⟨(HF.out _ hbn.out).1,new,⟨zal K6.out.1 hB,K6.out.2⟩,hbn.out⟩)
            ·
             skip
             refine value_ (w1:=?_) (v:=?_) (by rfl) rfl ?_ ?_
             rotate_left 2
             ·
              go_simp
              constructor
              ·
               rfl
              ·
               rfl
             have hB:Below V.heap.size V (V.alloc (.cells #[.bool false,.slice none 0 0,.slice none 0 0] 25 (0,0))):=zab (Below.refl _ _) _
             have hN:=zbp V (.cells #[.bool false,.slice none 0 0,.slice none 0 0] 25 (0,0))
             have hbn:=Aside0.mk (zag hbv.out hB)
             refine hK.out _ _ ((HF.out _ hbn.out).1) (fun hHeld=>?_)
             clear hK K
             refine zaS (a':=?_) ?_ ?_
             rotate_left
             ·
              show Act.put _ (some 8) _=_
              simp only [Act.put,List.setIfInBounds_toArray,List.set_cons_zero,List.set_cons_succ,zaq,zar]
              rfl
             exact zaS (by first | (simp only [putAll,Act.put,List.setIfInBounds_toArray,List.set_cons_zero,List.set_cons_succ]; done) | (simp only [putAll,Act.put,List.setIfInBounds_toArray,List.set_cons_zero,List.set_cons_succ]; rfl)) (hJ6_7 (g6,V.heap.size) _ ⟨(HF.out _ hbn.out).1,⟨zal K6.out.1 hB,K6.out.2⟩,⟨hN,hbv.out.size⟩,Nat.ne_of_lt (zaD K6.out.1),hbn.out⟩)
          ·
           skip
           rintro⟨A2,c2,B2,d2⟩ V ⟨hHeld,kK2,hb⟩
           have K2:=Aside0.mk kK2
           have hbv:=Aside0.mk hb
           clear hb kK2
           refine zaS (a':=?_) ?_ ?_
           rotate_left
           ·
            simp only [putAll,Act.put,List.setIfInBounds_toArray,List.set_cons_zero,List.set_cons_succ]
            rfl
           refine three_ (i:=5) (j:=6) (k:=7) (Ni:=some 32) (Nj:=some 7) (Nk:=some 8) #[true,true,true,true,true,true,false,false,false,false] #[true,true,true,true,true,false,true,false,false,false] #[true,true,true,true,true,false,false,true,false,false] rfl rfl rfl rfl rfl rfl (three_of HT_.out (by kernel_rfl)) (by decide) (by decide) (by decide) (fun K hK=>?_) (fun K hK=>?_) (fun K hK=>?_)
           ·
            skip
            refine za7 Try.func35 (by kernel_rfl) rfl #[.agg #[.bool n1,.slice Aa1 p1.length ca1,.slice Ab1 q1.length cb1],.agg #[.bool n2,.slice Aa2 p2.length ca2,.slice Ab2 q2.length cb2]] (by rfl) rfl rfl (by (try simp only [List.map_toArray,List.map_cons,List.map_nil]); first | done | rfl) ?_
            refine(M12.out V _ _ (HP1.out V (HF.out _ hbv.out).2) (HP2.out V (HF.out _ hbv.out).2)).mono ?_
            rintro e Vn ⟨_,rfl,⟨m1,m2,rfl,R1,R2⟩,hB⟩
            refine⟨_,rfl,?_⟩
            obtain⟨A5,c5,rfl⟩:=Kd.R_slice R1
            obtain⟨B5,d5,rfl⟩:=Kd.R_slice R2
            have new:RT Vn w.heap.size (.agg #[.bool M.1,.slice A5 (dg B32 M.2.1).length c5,.slice B5 (dg B32 M.2.2).length d5]) M:=⟨_,_,rfl,Kd.R_lower R1 (HF.out _ hbv.out).2.size,Kd.R_lower R2 (HF.out _ hbv.out).2.size⟩
            have hbn:=Aside0.mk (zag hbv.out hB)
            refine hK.out _ _ ((HF.out _ hbn.out).1) (fun hHeld=>?_)
            clear hK K
            refine zaS (a':=?_) ?_ ?_
            rotate_left
            ·
             show Act.put _ (some 32) _=_
             simp only [Act.put,List.setIfInBounds_toArray,List.set_cons_zero,List.set_cons_succ,zaq,zar]
             rfl
            exact zaS (by first | (simp only [putAll,Act.put,List.setIfInBounds_toArray,List.set_cons_zero,List.set_cons_succ]; done) | (simp only [putAll,Act.put,List.setIfInBounds_toArray,List.set_cons_zero,List.set_cons_succ]; rfl)) (hJ2_5 (A2,c2,B2,d2,A5,c5,B5,d5) _ ⟨(HF.out _ hbn.out).1,K2.out.below hB,new,hbn.out⟩)
           ·
            skip
            refine value_ (w1:=?_) (v:=?_) (by rfl) rfl ?_ ?_
            rotate_left 2
            ·
             go_simp
             constructor
             ·
              rfl
             ·
              rfl
            have hB:Below V.heap.size V (V.alloc (.cells #[.bool false,.slice none 0 0,.slice none 0 0] 25 (0,0))):=zab (Below.refl _ _) _
            have hN:=zbp V (.cells #[.bool false,.slice none 0 0,.slice none 0 0] 25 (0,0))
            have hbn:=Aside0.mk (zag hbv.out hB)
            refine hK.out _ _ ((HF.out _ hbn.out).1) (fun hHeld=>?_)
            clear hK K
            refine zaS (a':=?_) ?_ ?_
            rotate_left
            ·
             show Act.put _ (some 7) _=_
             simp only [Act.put,List.setIfInBounds_toArray,List.set_cons_zero,List.set_cons_succ,zaq,zar]
             rfl
            exact zaS (by first | (simp only [putAll,Act.put,List.setIfInBounds_toArray,List.set_cons_zero,List.set_cons_succ]; done) | (simp only [putAll,Act.put,List.setIfInBounds_toArray,List.set_cons_zero,List.set_cons_succ]; rfl)) (hJ2_6 (A2,c2,B2,d2,V.heap.size) _ ⟨(HF.out _ hbn.out).1,K2.out.below hB,⟨hN,hbv.out.size⟩,hbn.out⟩)
           ·
            skip
            refine value_ (w1:=?_) (v:=?_) (by rfl) rfl ?_ ?_
            rotate_left 2
            ·
             go_simp
             constructor
             ·
              rfl
             ·
              rfl
            have hB:Below V.heap.size V (V.alloc (.cells #[.bool false,.slice none 0 0,.slice none 0 0] 25 (0,0))):=zab (Below.refl _ _) _
            have hN:=zbp V (.cells #[.bool false,.slice none 0 0,.slice none 0 0] 25 (0,0))
            have hbn:=Aside0.mk (zag hbv.out hB)
            refine hK.out _ _ ((HF.out _ hbn.out).1) (fun hHeld=>?_)
            clear hK K
            refine zaS (a':=?_) ?_ ?_
            rotate_left
            ·
             show Act.put _ (some 8) _=_
             simp only [Act.put,List.setIfInBounds_toArray,List.set_cons_zero,List.set_cons_succ,zaq,zar]
             rfl
            exact zaS (by first | (simp only [putAll,Act.put,List.setIfInBounds_toArray,List.set_cons_zero,List.set_cons_succ]; done) | (simp only [putAll,Act.put,List.setIfInBounds_toArray,List.set_cons_zero,List.set_cons_succ]; rfl)) (hJ2_7 (A2,c2,B2,d2,V.heap.size) _ ⟨(HF.out _ hbn.out).1,K2.out.below hB,⟨hN,hbv.out.size⟩,hbn.out⟩)
         ·
          skip
          rintro⟨g6,g7⟩ V ⟨hHeld,kK6,kK7,kE6_7,hb⟩
          have K6:=Aside0.mk kK6
          have K7:=Aside0.mk kK7
          have E6_7:=Aside0.mk kE6_7
          have hbv:=Aside0.mk hb
          clear hb kK6 kK7 kE6_7
          refine zaS (a':=?_) ?_ ?_
          rotate_left
          ·
           simp only [putAll,Act.put,List.setIfInBounds_toArray,List.set_cons_zero,List.set_cons_succ]
           rfl
          refine one_ (i:=2) (N:=some 29) #[true,true,true,true,true,false,true,true,false,false] rfl rfl (zaO HT_.out (by kernel_rfl)) (by decide) (fun K hK=>?_)
          refine za7 Try.func31 (by kernel_rfl) rfl #[.agg #[.bool n1,.slice Aa1 p1.length ca1,.slice Ab1 q1.length cb1],.agg #[.bool n2,.slice Aa2 p2.length ca2,.slice Ab2 q2.length cb2]] (by rfl) rfl rfl (by (try simp only [List.map_toArray,List.map_cons,List.map_nil]); first | done | rfl) ?_
          refine(A12.out V _ _ (HP1.out V (HF.out _ hbv.out).2) (HP2.out V (HF.out _ hbv.out).2)).mono ?_
          rintro e Vn ⟨_,rfl,⟨m1,m2,rfl,R1,R2⟩,hB⟩
          refine⟨_,rfl,?_⟩
          obtain⟨A2,c2,rfl⟩:=Kd.R_slice R1
          obtain⟨B2,d2,rfl⟩:=Kd.R_slice R2
          have new:RT Vn w.heap.size (.agg #[.bool S.1,.slice A2 (dg B32 S.2.1).length c2,.slice B2 (dg B32 S.2.2).length d2]) S:=⟨_,_,rfl,Kd.R_lower R1 (HF.out _ hbv.out).2.size,Kd.R_lower R2 (HF.out _ hbv.out).2.size⟩
          have hbn:=Aside0.mk (zag hbv.out hB)
          refine hK.out _ _ ((HF.out _ hbn.out).1) (fun hHeld=>?_)
          clear hK K
          refine zaS (a':=?_) ?_ ?_
          rotate_left
          ·
           show Act.put _ (some 29) _=_
           simp only [Act.put,List.setIfInBounds_toArray,List.set_cons_zero,List.set_cons_succ,zaq,zar]
           rfl
          exact zaS (by first | (simp only [putAll,Act.put,List.setIfInBounds_toArray,List.set_cons_zero,List.set_cons_succ]; done) | (simp only [putAll,Act.put,List.setIfInBounds_toArray,List.set_cons_zero,List.set_cons_succ]; rfl)) (hJ2_6_7 (A2,c2,B2,d2,g6,g7) _ ⟨(HF.out _ hbn.out).1,new,⟨zal K6.out.1 hB,K6.out.2⟩,⟨zal K7.out.1 hB,K7.out.2⟩,E6_7.out,hbn.out⟩)
        ·
         skip
         rintro⟨A2,c2,B2,d2,g7⟩ V ⟨hHeld,kK2,kK7,hb⟩
         have K2:=Aside0.mk kK2
         have K7:=Aside0.mk kK7
         have hbv:=Aside0.mk hb
         clear hb kK2 kK7
         refine zaS (a':=?_) ?_ ?_
         rotate_left
         ·
          simp only [putAll,Act.put,List.setIfInBounds_toArray,List.set_cons_zero,List.set_cons_succ]
          rfl
         refine two_ (i:=5) (j:=6) (Ni:=some 32) (Nj:=some 7) #[true,true,true,true,true,true,false,true,false,false] #[true,true,true,true,true,false,true,true,false,false] rfl rfl rfl rfl (two_of HT_.out (by kernel_rfl)) (by decide) (by decide) (fun K hK=>?_) (fun K hK=>?_)
         ·
          skip
          refine za7 Try.func35 (by kernel_rfl) rfl #[.agg #[.bool n1,.slice Aa1 p1.length ca1,.slice Ab1 q1.length cb1],.agg #[.bool n2,.slice Aa2 p2.length ca2,.slice Ab2 q2.length cb2]] (by rfl) rfl rfl (by (try simp only [List.map_toArray,List.map_cons,List.map_nil]); first | done | rfl) ?_
          refine(M12.out V _ _ (HP1.out V (HF.out _ hbv.out).2) (HP2.out V (HF.out _ hbv.out).2)).mono ?_
          rintro e Vn ⟨_,rfl,⟨m1,m2,rfl,R1,R2⟩,hB⟩
          refine⟨_,rfl,?_⟩
          obtain⟨A5,c5,rfl⟩:=Kd.R_slice R1
          obtain⟨B5,d5,rfl⟩:=Kd.R_slice R2
          have new:RT Vn w.heap.size (.agg #[.bool M.1,.slice A5 (dg B32 M.2.1).length c5,.slice B5 (dg B32 M.2.2).length d5]) M:=⟨_,_,rfl,Kd.R_lower R1 (HF.out _ hbv.out).2.size,Kd.R_lower R2 (HF.out _ hbv.out).2.size⟩
          have hbn:=Aside0.mk (zag hbv.out hB)
          refine hK.out _ _ ((HF.out _ hbn.out).1) (fun hHeld=>?_)
          clear hK K
          refine zaS (a':=?_) ?_ ?_
          rotate_left
          ·
           show Act.put _ (some 32) _=_
           simp only [Act.put,List.setIfInBounds_toArray,List.set_cons_zero,List.set_cons_succ,zaq,zar]
           rfl
          exact zaS (by first | (simp only [putAll,Act.put,List.setIfInBounds_toArray,List.set_cons_zero,List.set_cons_succ]; done) | (simp only [putAll,Act.put,List.setIfInBounds_toArray,List.set_cons_zero,List.set_cons_succ]; rfl)) (hJ2_5_7 (A2,c2,B2,d2,A5,c5,B5,d5,g7) _ ⟨(HF.out _ hbn.out).1,K2.out.below hB,new,⟨zal K7.out.1 hB,K7.out.2⟩,hbn.out⟩)
         ·
          skip
          refine value_ (w1:=?_) (v:=?_) (by rfl) rfl ?_ ?_
          rotate_left 2
          ·
           go_simp
           constructor
           ·
            rfl
           ·
            rfl
          have hB:Below V.heap.size V (V.alloc (.cells #[.bool false,.slice none 0 0,.slice none 0 0] 25 (0,0))):=zab (Below.refl _ _) _
          have hN:=zbp V (.cells #[.bool false,.slice none 0 0,.slice none 0 0] 25 (0,0))
          have hbn:=Aside0.mk (zag hbv.out hB)
          refine hK.out _ _ ((HF.out _ hbn.out).1) (fun hHeld=>?_)
          clear hK K
          refine zaS (a':=?_) ?_ ?_
          rotate_left
          ·
           show Act.put _ (some 7) _=_
           simp only [Act.put,List.setIfInBounds_toArray,List.set_cons_zero,List.set_cons_succ,zaq,zar]
           rfl
          exact zaS (by first | (simp only [putAll,Act.put,List.setIfInBounds_toArray,List.set_cons_zero,List.set_cons_succ]; done) | (simp only [putAll,Act.put,List.setIfInBounds_toArray,List.set_cons_zero,List.set_cons_succ]; rfl)) (hJ2_6_7 (A2,c2,B2,d2,V.heap.size,g7) _ ⟨(HF.out _ hbn.out).1,K2.out.below hB,⟨hN,hbv.out.size⟩,⟨zal K7.out.1 hB,K7.out.2⟩,(Nat.ne_of_lt (zaD K7.out.1)).symm,hbn.out⟩)
       ·
        skip
        rintro⟨A2,c2,B2,d2,g6⟩ V ⟨hHeld,kK2,kK6,hb⟩
        have K2:=Aside0.mk kK2
        have K6:=Aside0.mk kK6
        have hbv:=Aside0.mk hb
        clear hb kK2 kK6
        refine zaS (a':=?_) ?_ ?_
        rotate_left
        ·
         simp only [putAll,Act.put,List.setIfInBounds_toArray,List.set_cons_zero,List.set_cons_succ]
         rfl
        refine two_ (i:=5) (j:=7) (Ni:=some 32) (Nj:=some 8) #[true,true,true,true,true,true,true,false,false,false] #[true,true,true,true,true,false,true,true,false,false] rfl rfl rfl rfl (two_of HT_.out (by kernel_rfl)) (by decide) (by decide) (fun K hK=>?_) (fun K hK=>?_)
        ·
         skip
         refine za7 Try.func35 (by kernel_rfl) rfl #[.agg #[.bool n1,.slice Aa1 p1.length ca1,.slice Ab1 q1.length cb1],.agg #[.bool n2,.slice Aa2 p2.length ca2,.slice Ab2 q2.length cb2]] (by rfl) rfl rfl (by (try simp only [List.map_toArray,List.map_cons,List.map_nil]); first | done | rfl) ?_
         refine(M12.out V _ _ (HP1.out V (HF.out _ hbv.out).2) (HP2.out V (HF.out _ hbv.out).2)).mono ?_
         rintro e Vn ⟨_,rfl,⟨m1,m2,rfl,R1,R2⟩,hB⟩
         refine⟨_,rfl,?_⟩
         obtain⟨A5,c5,rfl⟩:=Kd.R_slice R1
         obtain⟨B5,d5,rfl⟩:=Kd.R_slice R2
         have new:RT Vn w.heap.size (.agg #[.bool M.1,.slice A5 (dg B32 M.2.1).length c5,.slice B5 (dg B32 M.2.2).length d5]) M:=⟨_,_,rfl,Kd.R_lower R1 (HF.out _ hbv.out).2.size,Kd.R_lower R2 (HF.out _ hbv.out).2.size⟩
         have hbn:=Aside0.mk (zag hbv.out hB)
         refine hK.out _ _ ((HF.out _ hbn.out).1) (fun hHeld=>?_)
         clear hK K
         refine zaS (a':=?_) ?_ ?_
         rotate_left
         ·
          show Act.put _ (some 32) _=_
          simp only [Act.put,List.setIfInBounds_toArray,List.set_cons_zero,List.set_cons_succ,zaq,zar]
          rfl
         exact zaS (by first | (simp only [putAll,Act.put,List.setIfInBounds_toArray,List.set_cons_zero,List.set_cons_succ]; done) | (simp only [putAll,Act.put,List.setIfInBounds_toArray,List.set_cons_zero,List.set_cons_succ]; rfl)) (hJ2_5_6 (A2,c2,B2,d2,A5,c5,B5,d5,g6) _ ⟨(HF.out _ hbn.out).1,K2.out.below hB,new,⟨zal K6.out.1 hB,K6.out.2⟩,hbn.out⟩)
        ·
         skip
         refine value_ (w1:=?_) (v:=?_) (by rfl) rfl ?_ ?_
         rotate_left 2
         ·
          go_simp
          constructor
          ·
           rfl
          ·
           rfl
         have hB:Below V.heap.size V (V.alloc (.cells #[.bool false,.slice none 0 0,.slice none 0 0] 25 (0,0))):=zab (Below.refl _ _) _
         have hN:=zbp V (.cells #[.bool false,.slice none 0 0,.slice none 0 0] 25 (0,0))
         have hbn:=Aside0.mk (zag hbv.out hB)
         refine hK.out _ _ ((HF.out _ hbn.out).1) (fun hHeld=>?_)
         clear hK K
         refine zaS (a':=?_) ?_ ?_
         rotate_left
         ·
          show Act.put _ (some 8) _=_
          simp only [Act.put,List.setIfInBounds_toArray,List.set_cons_zero,List.set_cons_succ,zaq,zar]
          rfl
         exact zaS (by first | (simp only [putAll,Act.put,List.setIfInBounds_toArray,List.set_cons_zero,List.set_cons_succ]; done) | (simp only [putAll,Act.put,List.setIfInBounds_toArray,List.set_cons_zero,List.set_cons_succ]; rfl)) (hJ2_6_7 (A2,c2,B2,d2,g6,V.heap.size) _ ⟨(HF.out _ hbn.out).1,K2.out.below hB,⟨zal K6.out.1 hB,K6.out.2⟩,⟨hN,hbv.out.size⟩,Nat.ne_of_lt (zaD K6.out.1),hbn.out⟩)
      ·
       skip
       rintro⟨A2,c2,B2,d2,A5,c5,B5,d5⟩ V ⟨hHeld,kK2,kK5,hb⟩
       have K2:=Aside0.mk kK2
       have K5:=Aside0.mk kK5
       have hbv:=Aside0.mk hb
       clear hb kK2 kK5
       refine zaS (a':=?_) ?_ ?_
       rotate_left
       ·
        simp only [putAll,Act.put,List.setIfInBounds_toArray,List.set_cons_zero,List.set_cons_succ]
        rfl
       refine two_ (i:=6) (j:=7) (Ni:=some 7) (Nj:=some 8) #[true,true,true,true,true,true,true,false,false,false] #[true,true,true,true,true,true,false,true,false,false] rfl rfl rfl rfl (two_of HT_.out (by kernel_rfl)) (by decide) (by decide) (fun K hK=>?_) (fun K hK=>?_)
       ·
        skip
        refine value_ (w1:=?_) (v:=?_) (by rfl) rfl ?_ ?_
        rotate_left 2
        ·
         go_simp
         constructor
         ·
          rfl
         ·
          rfl
        have hB:Below V.heap.size V (V.alloc (.cells #[.bool false,.slice none 0 0,.slice none 0 0] 25 (0,0))):=zab (Below.refl _ _) _
        have hN:=zbp V (.cells #[.bool false,.slice none 0 0,.slice none 0 0] 25 (0,0))
        have hbn:=Aside0.mk (zag hbv.out hB)
        refine hK.out _ _ ((HF.out _ hbn.out).1) (fun hHeld=>?_)
        clear hK K
        refine zaS (a':=?_) ?_ ?_
        rotate_left
        ·
         show Act.put _ (some 7) _=_
         simp only [Act.put,List.setIfInBounds_toArray,List.set_cons_zero,List.set_cons_succ,zaq,zar]
         rfl
        exact zaS (by first | (simp only [putAll,Act.put,List.setIfInBounds_toArray,List.set_cons_zero,List.set_cons_succ]; done) | (simp only [putAll,Act.put,List.setIfInBounds_toArray,List.set_cons_zero,List.set_cons_succ]; rfl)) (hJ2_5_6 (A2,c2,B2,d2,A5,c5,B5,d5,V.heap.size) _ ⟨(HF.out _ hbn.out).1,K2.out.below hB,K5.out.below hB,⟨hN,hbv.out.size⟩,hbn.out⟩)
       ·
        skip
        refine value_ (w1:=?_) (v:=?_) (by rfl) rfl ?_ ?_
        rotate_left 2
        ·
         go_simp
         constructor
         ·
          rfl
         ·
          rfl
        have hB:Below V.heap.size V (V.alloc (.cells #[.bool false,.slice none 0 0,.slice none 0 0] 25 (0,0))):=zab (Below.refl _ _) _
        have hN:=zbp V (.cells #[.bool false,.slice none 0 0,.slice none 0 0] 25 (0,0))
        have hbn:=Aside0.mk (zag hbv.out hB)
        refine hK.out _ _ ((HF.out _ hbn.out).1) (fun hHeld=>?_)
        clear hK K
        refine zaS (a':=?_) ?_ ?_
        rotate_left
        ·
         show Act.put _ (some 8) _=_
         simp only [Act.put,List.setIfInBounds_toArray,List.set_cons_zero,List.set_cons_succ,zaq,zar]
         rfl
        exact zaS (by first | (simp only [putAll,Act.put,List.setIfInBounds_toArray,List.set_cons_zero,List.set_cons_succ]; done) | (simp only [putAll,Act.put,List.setIfInBounds_toArray,List.set_cons_zero,List.set_cons_succ]; rfl)) (hJ2_5_7 (A2,c2,B2,d2,A5,c5,B5,d5,V.heap.size) _ ⟨(HF.out _ hbn.out).1,K2.out.below hB,K5.out.below hB,⟨hN,hbv.out.size⟩,hbn.out⟩)
     ·
      skip
      rintro⟨A2,c2,B2,d2,g6,g7⟩ V ⟨hHeld,kK2,kK6,kK7,kE6_7,hb⟩
      have K2:=Aside0.mk kK2
      have K6:=Aside0.mk kK6
      have K7:=Aside0.mk kK7
      have E6_7:=Aside0.mk kE6_7
      have hbv:=Aside0.mk hb
      clear hb kK2 kK6 kK7 kE6_7
      refine zaS (a':=?_) ?_ ?_
      rotate_left
      ·
       simp only [putAll,Act.put,List.setIfInBounds_toArray,List.set_cons_zero,List.set_cons_succ]
       rfl
      refine one_ (i:=5) (N:=some 32) #[true,true,true,true,true,true,true,true,false,false] rfl rfl (zaO HT_.out (by kernel_rfl)) (by decide) (fun K hK=>?_)
      refine za7 Try.func35 (by kernel_rfl) rfl #[.agg #[.bool n1,.slice Aa1 p1.length ca1,.slice Ab1 q1.length cb1],.agg #[.bool n2,.slice Aa2 p2.length ca2,.slice Ab2 q2.length cb2]] (by rfl) rfl rfl (by (try simp only [List.map_toArray,List.map_cons,List.map_nil]); first | done | rfl) ?_
      refine(M12.out V _ _ (HP1.out V (HF.out _ hbv.out).2) (HP2.out V (HF.out _ hbv.out).2)).mono ?_
      rintro e Vn ⟨_,rfl,⟨m1,m2,rfl,R1,R2⟩,hB⟩
      refine⟨_,rfl,?_⟩
      obtain⟨A5,c5,rfl⟩:=Kd.R_slice R1
      obtain⟨B5,d5,rfl⟩:=Kd.R_slice R2
      have new:RT Vn w.heap.size (.agg #[.bool M.1,.slice A5 (dg B32 M.2.1).length c5,.slice B5 (dg B32 M.2.2).length d5]) M:=⟨_,_,rfl,Kd.R_lower R1 (HF.out _ hbv.out).2.size,Kd.R_lower R2 (HF.out _ hbv.out).2.size⟩
      have hbn:=Aside0.mk (zag hbv.out hB)
      refine hK.out _ _ ((HF.out _ hbn.out).1) (fun hHeld=>?_)
      clear hK K
      refine zaS (a':=?_) ?_ ?_
      rotate_left
      ·
       show Act.put _ (some 32) _=_
       simp only [Act.put,List.setIfInBounds_toArray,List.set_cons_zero,List.set_cons_succ,zaq,zar]
       rfl
      exact zaS (by first | (simp only [putAll,Act.put,List.setIfInBounds_toArray,List.set_cons_zero,List.set_cons_succ]; done) | (simp only [putAll,Act.put,List.setIfInBounds_toArray,List.set_cons_zero,List.set_cons_succ]; rfl)) (hJ2_5_6_7 (A2,c2,B2,d2,A5,c5,B5,d5,g6,g7) _ ⟨(HF.out _ hbn.out).1,K2.out.below hB,new,⟨zal K6.out.1 hB,K6.out.2⟩,⟨zal K7.out.1 hB,K7.out.2⟩,E6_7.out,hbn.out⟩)
    ·
     skip
     rintro⟨A2,c2,B2,d2,A5,c5,B5,d5,g7⟩ V ⟨hHeld,kK2,kK5,kK7,hb⟩
     have K2:=Aside0.mk kK2
     have K5:=Aside0.mk kK5
     have K7:=Aside0.mk kK7
     have hbv:=Aside0.mk hb
     clear hb kK2 kK5 kK7
     refine zaS (a':=?_) ?_ ?_
     rotate_left
     ·
      simp only [putAll,Act.put,List.setIfInBounds_toArray,List.set_cons_zero,List.set_cons_succ]
      rfl
     refine one_ (i:=6) (N:=some 7) #[true,true,true,true,true,true,true,true,false,false] rfl rfl (zaO HT_.out (by kernel_rfl)) (by decide) (fun K hK=>?_)
     refine value_ (w1:=?_) (v:=?_) (by rfl) rfl ?_ ?_
     rotate_left 2
     ·
      go_simp
      constructor
      ·
       rfl
      ·
       rfl
     have hB:Below V.heap.size V (V.alloc (.cells #[.bool false,.slice none 0 0,.slice none 0 0] 25 (0,0))):=zab (Below.refl _ _) _
     have hN:=zbp V (.cells #[.bool false,.slice none 0 0,.slice none 0 0] 25 (0,0))
     have hbn:=Aside0.mk (zag hbv.out hB)
     refine hK.out _ _ ((HF.out _ hbn.out).1) (fun hHeld=>?_)
     clear hK K
     refine zaS (a':=?_) ?_ ?_
     rotate_left
     ·
      show Act.put _ (some 7) _=_
      simp only [Act.put,List.setIfInBounds_toArray,List.set_cons_zero,List.set_cons_succ,zaq,zar]
      rfl
     exact zaS (by first | (simp only [putAll,Act.put,List.setIfInBounds_toArray,List.set_cons_zero,List.set_cons_succ]; done) | (simp only [putAll,Act.put,List.setIfInBounds_toArray,List.set_cons_zero,List.set_cons_succ]; rfl)) (hJ2_5_6_7 (A2,c2,B2,d2,A5,c5,B5,d5,V.heap.size,g7) _ ⟨(HF.out _ hbn.out).1,K2.out.below hB,K5.out.below hB,⟨hN,hbv.out.size⟩,⟨zal K7.out.1 hB,K7.out.2⟩,(Nat.ne_of_lt (zaD K7.out.1)).symm,hbn.out⟩)
   ·
    skip
    rintro⟨A2,c2,B2,d2,A5,c5,B5,d5,g6⟩ V ⟨hHeld,kK2,kK5,kK6,hb⟩
    have K2:=Aside0.mk kK2
    have K5:=Aside0.mk kK5
    have K6:=Aside0.mk kK6
    have hbv:=Aside0.mk hb
    clear hb kK2 kK5 kK6
    refine zaS (a':=?_) ?_ ?_
    rotate_left
    ·
     simp only [putAll,Act.put,List.setIfInBounds_toArray,List.set_cons_zero,List.set_cons_succ]
     rfl
    refine one_ (i:=7) (N:=some 8) #[true,true,true,true,true,true,true,true,false,false] rfl rfl (zaO HT_.out (by kernel_rfl)) (by decide) (fun K hK=>?_)
    refine value_ (w1:=?_) (v:=?_) (by rfl) rfl ?_ ?_
    rotate_left 2
    ·
     go_simp
     constructor
     ·
      rfl
     ·
      rfl
    have hB:Below V.heap.size V (V.alloc (.cells #[.bool false,.slice none 0 0,.slice none 0 0] 25 (0,0))):=zab (Below.refl _ _) _
    have hN:=zbp V (.cells #[.bool false,.slice none 0 0,.slice none 0 0] 25 (0,0))
    have hbn:=Aside0.mk (zag hbv.out hB)
    refine hK.out _ _ ((HF.out _ hbn.out).1) (fun hHeld=>?_)
    clear hK K
    refine zaS (a':=?_) ?_ ?_
    rotate_left
    ·
     show Act.put _ (some 8) _=_
     simp only [Act.put,List.setIfInBounds_toArray,List.set_cons_zero,List.set_cons_succ,zaq,zar]
     rfl
    exact zaS (by first | (simp only [putAll,Act.put,List.setIfInBounds_toArray,List.set_cons_zero,List.set_cons_succ]; done) | (simp only [putAll,Act.put,List.setIfInBounds_toArray,List.set_cons_zero,List.set_cons_succ]; rfl)) (hJ2_5_6_7 (A2,c2,B2,d2,A5,c5,B5,d5,g6,V.heap.size) _ ⟨(HF.out _ hbn.out).1,K2.out.below hB,K5.out.below hB,⟨zal K6.out.1 hB,K6.out.2⟩,⟨hN,hbv.out.size⟩,Nat.ne_of_lt (zaD K6.out.1),hbn.out⟩)
  rintro⟨A2,c2,B2,d2,A5,c5,B5,d5,g6,g7⟩ V ⟨hHeld,kK2,kK5,kK6,kK7,kE6_7,hb⟩
  have K2:=Aside0.mk kK2
  have K5:=Aside0.mk kK5
  have K6:=Aside0.mk kK6
  have K7:=Aside0.mk kK7
  have E6_7:=Aside0.mk kE6_7
  have hbv:=Aside0.mk hb
  clear hb kK2 kK5 kK6 kK7 kE6_7
  refine zaS (a':=?_) ?_ ?_
  rotate_left
  ·
   simp only [putAll,Act.put,List.setIfInBounds_toArray,List.set_cons_zero,List.set_cons_succ]
   rfl
  refine last_ (i:=8) (N:=none) #[true,true,true,true,true,true,true,true,true,false] rfl rfl (zaO HT_.out (by kernel_rfl)) (by decide) (fun K hK=>?_)
  obtain⟨⟨z0,z1,z2⟩,z3,z4,z5⟩:=zat K6.out.1
  obtain⟨⟨z6,z7,z8⟩,z9,z10,z11⟩:=zat K7.out.1
  have ne1:=E6_7.out
  have ne2:=ne1.symm
  refine skip_ (w1:=?_) (by rfl) rfl ?_ ?_
  rotate_left
  ·
   go_simp
   rfl
  refine hK.out _ _ ?_
  clear hK K
  refine last_ (i:=9) (N:=none) #[true,true,true,true,true,true,true,true,true,true] rfl rfl (zaO HT_.out (by kernel_rfl)) (by decide) (fun K hK=>?_)
  refine skip_ (w1:=?_) (by rfl) rfl ?_ ?_
  rotate_left
  ·
   go_simp
   rfl
  refine hK.out _ _ ?_
  clear hK K
  refine done_ (done_of HT_.out (by kernel_rfl)) ?_
  clear hHeld z0 z1 z2 z3 z4 z5 z6 z7 z8 z9 z10 z11 ne1 ne2
  rw [store3_eq,store3_eq]
  have hg6:=(zbk E6_7.out (.bool M.1) (.slice A5 (dg B32 M.2.1).length c5) (.slice B5 (dg B32 M.2.2).length d5)).trans (zaK (K6.out.1) (.bool S.1) (.slice A2 (dg B32 S.2.1).length c2) (.slice B2 (dg B32 S.2.2).length d2))
  have hg7:=zaK ((zbk E6_7.out.symm (.bool S.1) (.slice A2 (dg B32 S.2.1).length c2) (.slice B2 (dg B32 S.2.2).length d2)).trans (K7.out.1)) (.bool M.1) (.slice A5 (dg B32 M.2.1).length c5) (.slice B5 (dg B32 M.2.2).length d5)
  have hq2:=((K2.out.store3 K6.out.1 (.bool S.1) (.slice A2 (dg B32 S.2.1).length c2) (.slice B2 (dg B32 S.2.2).length d2)).store3 ((zbk E6_7.out.symm (.bool S.1) (.slice A2 (dg B32 S.2.1).length c2) (.slice B2 (dg B32 S.2.2).length d2)).trans (K7.out.1)) (.bool M.1) (.slice A5 (dg B32 M.2.1).length c5) (.slice B5 (dg B32 M.2.2).length d5))
  have hq5:=((K5.out.store3 K6.out.1 (.bool S.1) (.slice A2 (dg B32 S.2.1).length c2) (.slice B2 (dg B32 S.2.2).length d2)).store3 ((zbk E6_7.out.symm (.bool S.1) (.slice A2 (dg B32 S.2.1).length c2) (.slice B2 (dg B32 S.2.2).length d2)).trans (K7.out.1)) (.bool M.1) (.slice A5 (dg B32 M.2.1).length c5) (.slice B5 (dg B32 M.2.2).length d5))
  have hb8:Below W2.heap.size W2 (store3 (store3 V g6 (.bool S.1) (.slice A2 (dg B32 S.2.1).length c2) (.slice B2 (dg B32 S.2.2).length d2)) g7 (.bool M.1) (.slice A5 (dg B32 M.2.1).length c5) (.slice B5 (dg B32 M.2.2).length d5)):=zaL (zaL (hbv.out) K6.out.2 (.bool S.1) (.slice A2 (dg B32 S.2.1).length c2) (.slice B2 (dg B32 S.2.2).length d2)) K7.out.2 (.bool M.1) (.slice A5 (dg B32 M.2.1).length c5) (.slice B5 (dg B32 M.2.2).length d5)
  generalize store3 (store3 V g6 (.bool S.1) (.slice A2 (dg B32 S.2.1).length c2) (.slice B2 (dg B32 S.2.2).length d2)) g7 (.bool M.1) (.slice A5 (dg B32 M.2.1).length c5) (.slice B5 (dg B32 M.2.2).length d5)=W8 at hg6 hg7 hq2 hq5 hb8 ⊢
  clear hbv K2 K5 K6 K7 E6_7
  have HG:Aside0 (∀ w':World,Below W8.heap.size W8 w'→(w'.cell? ⟨w.heap.size,0,none⟩=some (.bool n1)∧w'.cell? ⟨w.heap.size,1,none⟩=some (.slice Aa1 p1.length ca1)∧w'.cell? ⟨w.heap.size,2,none⟩=some (.slice Ab1 q1.length cb1)∧w'.cell? ⟨w.heap.size+1,0,none⟩=some (.bool n2)∧w'.cell? ⟨w.heap.size+1,1,none⟩=some (.slice Aa2 p2.length ca2)∧w'.cell? ⟨w.heap.size+1,2,none⟩=some (.slice Ab2 q2.length cb2)∧w'.cell? ⟨w.heap.size+1+1,0,none⟩=some (.bool n3)∧w'.cell? ⟨w.heap.size+1+1,1,none⟩=some (.slice Aa3 p3.length ca3)∧w'.cell? ⟨w.heap.size+1+1,2,none⟩=some (.slice Ab3 q3.length cb3)∧w'.cell? ⟨g6,0,none⟩=some (.bool S.1)∧w'.cell? ⟨g6,1,none⟩=some (.slice A2 (dg B32 S.2.1).length c2)∧w'.cell? ⟨g6,2,none⟩=some (.slice B2 (dg B32 S.2.2).length d2)∧w'.cell? ⟨g7,0,none⟩=some (.bool M.1)∧w'.cell? ⟨g7,1,none⟩=some (.slice A5 (dg B32 M.2.1).length c5)∧w'.cell? ⟨g7,2,none⟩=some (.slice B5 (dg B32 M.2.2).length d5))∧RT w' w.heap.size (.agg #[.bool S.1,.slice A2 (dg B32 S.2.1).length c2,.slice B2 (dg B32 S.2.2).length d2]) S∧RT w' w.heap.size (.agg #[.bool M.1,.slice A5 (dg B32 M.2.1).length c5,.slice B5 (dg B32 M.2.2).length d5]) M∧Below w.heap.size w w'):=⟨fun W hb=>⟨⟨(zai (zal (zal HX1.out hb8) hb) 0).trans rfl,(zai (zal (zal HX1.out hb8) hb) 1).trans rfl,(zai (zal (zal HX1.out hb8) hb) 2).trans rfl,(zai (zal (zal HX2.out hb8) hb) 0).trans rfl,(zai (zal (zal HX2.out hb8) hb) 1).trans rfl,(zai (zal (zal HX2.out hb8) hb) 2).trans rfl,(zai (zal (zal HX3.out hb8) hb) 0).trans rfl,(zai (zal (zal HX3.out hb8) hb) 1).trans rfl,(zai (zal (zal HX3.out hb8) hb) 2).trans rfl,(zai (zal hg6 hb) 0).trans rfl,(zai (zal hg6 hb) 1).trans rfl,(zai (zal hg6 hb) 2).trans rfl,(zai (zal hg7 hb) 0).trans rfl,(zai (zal hg7 hb) 1).trans rfl,(zai (zal hg7 hb) 2).trans rfl⟩,hq2.below hb,hq5.below hb,zag (HF.out _ hb8).2 hb⟩⟩
  clear hg6 hg7 hq2 hq5 hb8 HF HX1 HX2 HX3 HB2 hb0
  go_wp2_with fail
  refine start_ (n:=38) (S:=fun w'=>(w'.cell? ⟨w.heap.size,0,none⟩=some (.bool n1)∧w'.cell? ⟨w.heap.size,1,none⟩=some (.slice Aa1 p1.length ca1)∧w'.cell? ⟨w.heap.size,2,none⟩=some (.slice Ab1 q1.length cb1)∧w'.cell? ⟨w.heap.size+1,0,none⟩=some (.bool n2)∧w'.cell? ⟨w.heap.size+1,1,none⟩=some (.slice Aa2 p2.length ca2)∧w'.cell? ⟨w.heap.size+1,2,none⟩=some (.slice Ab2 q2.length cb2)∧w'.cell? ⟨w.heap.size+1+1,0,none⟩=some (.bool n3)∧w'.cell? ⟨w.heap.size+1+1,1,none⟩=some (.slice Aa3 p3.length ca3)∧w'.cell? ⟨w.heap.size+1+1,2,none⟩=some (.slice Ab3 q3.length cb3)∧w'.cell? ⟨g6,0,none⟩=some (.bool S.1)∧w'.cell? ⟨g6,1,none⟩=some (.slice A2 (dg B32 S.2.1).length c2)∧w'.cell? ⟨g6,2,none⟩=some (.slice B2 (dg B32 S.2.2).length d2)∧w'.cell? ⟨g7,0,none⟩=some (.bool M.1)∧w'.cell? ⟨g7,1,none⟩=some (.slice A5 (dg B32 M.2.1).length c5)∧w'.cell? ⟨g7,2,none⟩=some (.slice B5 (dg B32 M.2.2).length d5))) (ds:=[]) #[false,false,false,false,false,false,false,false,false,false,false,false,false,false,false,false,false,false,false,false,false,false,false,false,false,false,false,false,false,false,false,false,false,false,false,false,false,false] (by kernel_rfl) rfl rfl ((HG.out _ (zac (Below.refl _ _))).1) (fun hHeld=>?_)
  refine with_tabW ratField.tab4 ratField.bits4 (fun HT_ HW_=>?_)
  have hb0:=Aside0.mk (show Below W8.heap.size W8 W8.drew from zac (Below.refl _ _))
  generalize W8.drew=V0 at hb0 hHeld ⊢
  refine take_ (i:=0) (N:=some 33) (v:=?_) (a':=?_) #[true,false,false,false,false,false,false,false,false,false,false,false,false,false,false,false,false,false,false,false,false,false,false,false,false,false,false,false,false,false,false,false,false,false,false,false,false,false] rfl rfl (zaQ HT_.out HW_.out (by kernel_rfl)) (fun _ _ _ h=>h) (Or.inl ⟨by rfl,?_⟩) hHeld ?_ ?_
  rotate_left
  ·
   intro w' s0
   go_simp
   with_reducible rfl
  rotate_left
  ·
   simp only [Act.put,List.setIfInBounds_toArray,List.set_cons_zero,List.set_cons_succ,zaq,zar]
   rfl
  refine take_ (i:=1) (N:=some 34) (v:=?_) (a':=?_) #[true,true,false,false,false,false,false,false,false,false,false,false,false,false,false,false,false,false,false,false,false,false,false,false,false,false,false,false,false,false,false,false,false,false,false,false,false,false] rfl rfl (zaQ HT_.out HW_.out (by kernel_rfl)) (fun _ _ _ h=>h) (Or.inl ⟨by rfl,?_⟩) hHeld ?_ ?_
  rotate_left
  ·
   intro w' s0
   go_simp
   with_reducible rfl
  rotate_left
  ·
   simp only [Act.put,List.setIfInBounds_toArray,List.set_cons_zero,List.set_cons_succ,zaq,zar]
   rfl
  refine take_ (i:=2) (N:=some 35) (v:=?_) (a':=?_) #[true,true,true,false,false,false,false,false,false,false,false,false,false,false,false,false,false,false,false,false,false,false,false,false,false,false,false,false,false,false,false,false,false,false,false,false,false,false] rfl rfl (zaQ HT_.out HW_.out (by kernel_rfl)) (fun _ _ _ h=>h) (Or.inl ⟨by rfl,?_⟩) hHeld ?_ ?_
  rotate_left
  ·
   intro w' s0
   go_simp
   with_reducible rfl
  rotate_left
  ·
   simp only [Act.put,List.setIfInBounds_toArray,List.set_cons_zero,List.set_cons_succ,zaq,zar]
   rfl
  refine one_ (i:=3) (N:=some 36) #[true,true,true,true,false,false,false,false,false,false,false,false,false,false,false,false,false,false,false,false,false,false,false,false,false,false,false,false,false,false,false,false,false,false,false,false,false,false] rfl rfl (zaO HT_.out (by kernel_rfl)) (by decide) (fun K hK=>?_)
  refine za7 Try.func31 (by kernel_rfl) rfl #[.agg #[.bool n2,.slice Aa2 p2.length ca2,.slice Ab2 q2.length cb2],.agg #[.bool n1,.slice Aa1 p1.length ca1,.slice Ab1 q1.length cb1]] (by rfl) rfl rfl (by (try simp only [List.map_toArray,List.map_cons,List.map_nil]); first | done | rfl) ?_
  refine(A21.out V0 _ _ (HP2.out V0 (HG.out _ hb0.out).2.2.2) (HP1.out V0 (HG.out _ hb0.out).2.2.2)).mono ?_
  rintro e V1 ⟨v3,rfl,hR,hB⟩
  refine⟨_,rfl,?_⟩
  have R1:=Aside0.mk hR
  have hb1:=Aside0.mk (zag hb0.out hB)
  clear hB hb0 hR
  refine hK.out _ _ ((HG.out _ hb1.out).1) (fun hHeld=>?_)
  clear hK K
  refine zaS (a':=?_) ?_ ?_
  rotate_left
  ·
   show Act.put _ (some 36) _=_
   simp only [Act.put,List.setIfInBounds_toArray,List.set_cons_zero,List.set_cons_succ,zaq,zar]
   rfl
  refine one_ (i:=4) (N:=some 37) #[true,true,true,true,true,false,false,false,false,false,false,false,false,false,false,false,false,false,false,false,false,false,false,false,false,false,false,false,false,false,false,false,false,false,false,false,false,false] rfl rfl (zaO HT_.out (by kernel_rfl)) (by decide) (fun K hK=>?_)
  refine za7 Try.func40 (by kernel_rfl) rfl #[.agg #[.bool S.1,.slice A2 (dg B32 S.2.1).length c2,.slice B2 (dg B32 S.2.2).length d2],v3] (by rfl) rfl rfl (by (try simp only [List.map_toArray,List.map_cons,List.map_nil]); first | done | rfl) ?_
  refine(same_n (HG.out _ hb1.out).2.1 R1.out KS.out.1 KS.out.2).mono ?_
  rintro e V2 ⟨rfl,hB⟩
  refine⟨_,rfl,?_⟩
  clear R1
  have hb2:=Aside0.mk (zag hb1.out hB)
  clear hB hb1
  refine hK.out _ _ ((HG.out _ hb2.out).1) (fun hHeld=>?_)
  clear hK K
  refine zaS (a':=?_) ?_ ?_
  rotate_left
  ·
   show Act.put _ (some 37) _=_
   simp only [Act.put,List.setIfInBounds_toArray,List.set_cons_zero,List.set_cons_succ,zaq,zar]
   rfl
  refine zaA (i:=5) (N:=some 38) (v:=?_) (a':=?_) #[true,true,true,true,true,true,false,false,false,false,false,false,false,false,false,false,false,false,false,false,false,false,false,false,false,false,false,false,false,false,false,false,false,false,false,false,false,false] rfl rfl (zay HT_.out (by kernel_rfl)) (fun _ _ _ h=>h) (Or.inl ⟨by rfl,?_⟩) ?_ ?_
  rotate_left
  ·
   intro w'
   go_simp
   with_reducible rfl
  rotate_left
  ·
   simp only [Act.put,List.setIfInBounds_toArray,List.set_cons_zero,List.set_cons_succ,zaq,zar]
   rfl
  refine zaA (i:=6) (N:=some 39) (v:=?_) (a':=?_) #[true,true,true,true,true,true,true,false,false,false,false,false,false,false,false,false,false,false,false,false,false,false,false,false,false,false,false,false,false,false,false,false,false,false,false,false,false,false] rfl rfl (zay HT_.out (by kernel_rfl)) (fun _ _ _ h=>h) (Or.inl ⟨by rfl,?_⟩) ?_ ?_
  rotate_left
  ·
   intro w'
   go_simp
   with_reducible rfl
  rotate_left
  ·
   simp only [Act.put,List.setIfInBounds_toArray,List.set_cons_zero,List.set_cons_succ,zaq,zar]
   rfl
  refine take_ (i:=7) (N:=some 40) (v:=?_) (a':=?_) #[true,true,true,true,true,true,true,true,false,false,false,false,false,false,false,false,false,false,false,false,false,false,false,false,false,false,false,false,false,false,false,false,false,false,false,false,false,false] rfl rfl (zaQ HT_.out HW_.out (by kernel_rfl)) (fun _ _ _ h=>h) (Or.inl ⟨by rfl,?_⟩) hHeld ?_ ?_
  rotate_left
  ·
   intro w' s0
   go_simp
   with_reducible rfl
  rotate_left
  ·
   simp only [Act.put,List.setIfInBounds_toArray,List.set_cons_zero,List.set_cons_succ,zaq,zar]
   rfl
  refine take_ (i:=8) (N:=some 41) (v:=?_) (a':=?_) #[true,true,true,true,true,true,true,true,true,false,false,false,false,false,false,false,false,false,false,false,false,false,false,false,false,false,false,false,false,false,false,false,false,false,false,false,false,false] rfl rfl (zaQ HT_.out HW_.out (by kernel_rfl)) (fun _ _ _ h=>h) (Or.inl ⟨by rfl,?_⟩) hHeld ?_ ?_
  rotate_left
  ·
   intro w' s0
   go_simp
   with_reducible rfl
  rotate_left
  ·
   simp only [Act.put,List.setIfInBounds_toArray,List.set_cons_zero,List.set_cons_succ,zaq,zar]
   rfl
  refine take_ (i:=9) (N:=some 42) (v:=?_) (a':=?_) #[true,true,true,true,true,true,true,true,true,true,false,false,false,false,false,false,false,false,false,false,false,false,false,false,false,false,false,false,false,false,false,false,false,false,false,false,false,false] rfl rfl (zaQ HT_.out HW_.out (by kernel_rfl)) (fun _ _ _ h=>h) (Or.inl ⟨by rfl,?_⟩) hHeld ?_ ?_
  rotate_left
  ·
   intro w' s0
   go_simp
   with_reducible rfl
  rotate_left
  ·
   simp only [Act.put,List.setIfInBounds_toArray,List.set_cons_zero,List.set_cons_succ,zaq,zar]
   rfl
  refine one_ (i:=10) (N:=some 43) #[true,true,true,true,true,true,true,true,true,true,true,false,false,false,false,false,false,false,false,false,false,false,false,false,false,false,false,false,false,false,false,false,false,false,false,false,false,false] rfl rfl (zaO HT_.out (by kernel_rfl)) (by decide) (fun K hK=>?_)
  refine za7 Try.func35 (by kernel_rfl) rfl #[.agg #[.bool n2,.slice Aa2 p2.length ca2,.slice Ab2 q2.length cb2],.agg #[.bool n1,.slice Aa1 p1.length ca1,.slice Ab1 q1.length cb1]] (by rfl) rfl rfl (by (try simp only [List.map_toArray,List.map_cons,List.map_nil]); first | done | rfl) ?_
  refine(M21.out V2 _ _ (HP2.out V2 (HG.out _ hb2.out).2.2.2) (HP1.out V2 (HG.out _ hb2.out).2.2.2)).mono ?_
  rintro e V3 ⟨v10,rfl,hR,hB⟩
  refine⟨_,rfl,?_⟩
  have R1:=Aside0.mk hR
  have hb3:=Aside0.mk (zag hb2.out hB)
  clear hB hb2 hR
  refine hK.out _ _ ((HG.out _ hb3.out).1) (fun hHeld=>?_)
  clear hK K
  refine zaS (a':=?_) ?_ ?_
  rotate_left
  ·
   show Act.put _ (some 43) _=_
   simp only [Act.put,List.setIfInBounds_toArray,List.set_cons_zero,List.set_cons_succ,zaq,zar]
   rfl
  refine one_ (i:=11) (N:=some 44) #[true,true,true,true,true,true,true,true,true,true,true,true,false,false,false,false,false,false,false,false,false,false,false,false,false,false,false,false,false,false,false,false,false,false,false,false,false,false] rfl rfl (zaO HT_.out (by kernel_rfl)) (by decide) (fun K hK=>?_)
  refine za7 Try.func40 (by kernel_rfl) rfl #[.agg #[.bool M.1,.slice A5 (dg B32 M.2.1).length c5,.slice B5 (dg B32 M.2.2).length d5],v10] (by rfl) rfl rfl (by (try simp only [List.map_toArray,List.map_cons,List.map_nil]); first | done | rfl) ?_
  refine(same_n (HG.out _ hb3.out).2.2.1 R1.out KM.out.1 KM.out.2).mono ?_
  rintro e V4 ⟨rfl,hB⟩
  refine⟨_,rfl,?_⟩
  clear R1
  have hb4:=Aside0.mk (zag hb3.out hB)
  clear hB hb3
  refine hK.out _ _ ((HG.out _ hb4.out).1) (fun hHeld=>?_)
  clear hK K
  refine zaS (a':=?_) ?_ ?_
  rotate_left
  ·
   show Act.put _ (some 44) _=_
   simp only [Act.put,List.setIfInBounds_toArray,List.set_cons_zero,List.set_cons_succ,zaq,zar]
   rfl
  refine zaA (i:=12) (N:=some 45) (v:=?_) (a':=?_) #[true,true,true,true,true,true,true,true,true,true,true,true,true,false,false,false,false,false,false,false,false,false,false,false,false,false,false,false,false,false,false,false,false,false,false,false,false,false] rfl rfl (zay HT_.out (by kernel_rfl)) (fun _ _ _ h=>h) (Or.inl ⟨by rfl,?_⟩) ?_ ?_
  rotate_left
  ·
   intro w'
   go_simp
   with_reducible rfl
  rotate_left
  ·
   simp only [Act.put,List.setIfInBounds_toArray,List.set_cons_zero,List.set_cons_succ,zaq,zar]
   rfl
  refine zaA (i:=13) (N:=some 46) (v:=?_) (a':=?_) #[true,true,true,true,true,true,true,true,true,true,true,true,true,true,false,false,false,false,false,false,false,false,false,false,false,false,false,false,false,false,false,false,false,false,false,false,false,false] rfl rfl (zay HT_.out (by kernel_rfl)) (fun _ _ _ h=>h) (Or.inl ⟨by rfl,?_⟩) ?_ ?_
  rotate_left
  ·
   intro w'
   go_simp
   with_reducible rfl
  rotate_left
  ·
   simp only [Act.put,List.setIfInBounds_toArray,List.set_cons_zero,List.set_cons_succ,zaq,zar]
   rfl
  refine zaA (i:=14) (N:=some 47) (v:=?_) (a':=?_) #[true,true,true,true,true,true,true,true,true,true,true,true,true,true,true,false,false,false,false,false,false,false,false,false,false,false,false,false,false,false,false,false,false,false,false,false,false,false] rfl rfl (zay HT_.out (by kernel_rfl)) (fun _ _ _ h=>h) (Or.inl ⟨by rfl,?_⟩) ?_ ?_
  rotate_left
  ·
   intro w'
   go_simp
   with_reducible rfl
  rotate_left
  ·
   simp only [Act.put,List.setIfInBounds_toArray,List.set_cons_zero,List.set_cons_succ,zaq,zar]
   rfl
  refine take_ (i:=15) (N:=some 48) (v:=?_) (a':=?_) #[true,true,true,true,true,true,true,true,true,true,true,true,true,true,true,true,false,false,false,false,false,false,false,false,false,false,false,false,false,false,false,false,false,false,false,false,false,false] rfl rfl (zaQ HT_.out HW_.out (by kernel_rfl)) (fun _ _ _ h=>h) (Or.inl ⟨by rfl,?_⟩) hHeld ?_ ?_
  rotate_left
  ·
   intro w' s0
   go_simp
   with_reducible rfl
  rotate_left
  ·
   simp only [Act.put,List.setIfInBounds_toArray,List.set_cons_zero,List.set_cons_succ,zaq,zar]
   rfl
  refine take_ (i:=16) (N:=some 49) (v:=?_) (a':=?_) #[true,true,true,true,true,true,true,true,true,true,true,true,true,true,true,true,true,false,false,false,false,false,false,false,false,false,false,false,false,false,false,false,false,false,false,false,false,false] rfl rfl (zaQ HT_.out HW_.out (by kernel_rfl)) (fun _ _ _ h=>h) (Or.inl ⟨by rfl,?_⟩) hHeld ?_ ?_
  rotate_left
  ·
   intro w' s0
   go_simp
   with_reducible rfl
  rotate_left
  ·
   simp only [Act.put,List.setIfInBounds_toArray,List.set_cons_zero,List.set_cons_succ,zaq,zar]
   rfl
  refine take_ (i:=18) (N:=some 51) (v:=?_) (a':=?_) #[true,true,true,true,true,true,true,true,true,true,true,true,true,true,true,true,true,false,true,false,false,false,false,false,false,false,false,false,false,false,false,false,false,false,false,false,false,false] rfl rfl (zaQ HT_.out HW_.out (by kernel_rfl)) (fun _ _ _ h=>h) (Or.inl ⟨by rfl,?_⟩) hHeld ?_ ?_
  rotate_left
  ·
   intro w' s0
   go_simp
   with_reducible rfl
  rotate_left
  ·
   simp only [Act.put,List.setIfInBounds_toArray,List.set_cons_zero,List.set_cons_succ,zaq,zar]
   rfl
  refine take_ (i:=19) (N:=some 52) (v:=?_) (a':=?_) #[true,true,true,true,true,true,true,true,true,true,true,true,true,true,true,true,true,false,true,true,false,false,false,false,false,false,false,false,false,false,false,false,false,false,false,false,false,false] rfl rfl (zaQ HT_.out HW_.out (by kernel_rfl)) (fun _ _ _ h=>h) (Or.inl ⟨by rfl,?_⟩) hHeld ?_ ?_
  rotate_left
  ·
   intro w' s0
   go_simp
   with_reducible rfl
  rotate_left
  ·
   simp only [Act.put,List.setIfInBounds_toArray,List.set_cons_zero,List.set_cons_succ,zaq,zar]
   rfl
  refine take_ (i:=20) (N:=some 53) (v:=?_) (a':=?_) #[true,true,true,true,true,true,true,true,true,true,true,true,true,true,true,true,true,false,true,true,true,false,false,false,false,false,false,false,false,false,false,false,false,false,false,false,false,false] rfl rfl (zaQ HT_.out HW_.out (by kernel_rfl)) (fun _ _ _ h=>h) (Or.inl ⟨by rfl,?_⟩) hHeld ?_ ?_
  rotate_left
  ·
   intro w' s0
   go_simp
   with_reducible rfl
  rotate_left
  ·
   simp only [Act.put,List.setIfInBounds_toArray,List.set_cons_zero,List.set_cons_succ,zaq,zar]
   rfl
  refine one_ (i:=17) (N:=some 50) #[true,true,true,true,true,true,true,true,true,true,true,true,true,true,true,true,true,true,true,true,true,false,false,false,false,false,false,false,false,false,false,false,false,false,false,false,false,false] rfl rfl (zaO HT_.out (by kernel_rfl)) (by decide) (fun K hK=>?_)
  refine za7 Try.func31 (by kernel_rfl) rfl #[.agg #[.bool S.1,.slice A2 (dg B32 S.2.1).length c2,.slice B2 (dg B32 S.2.2).length d2],.agg #[.bool n3,.slice Aa3 p3.length ca3,.slice Ab3 q3.length cb3]] (by rfl) rfl rfl (by (try simp only [List.map_toArray,List.map_cons,List.map_nil]); first | done | rfl) ?_
  refine(AS3.out V4 _ _ ((HG.out _ hb4.out).2.1.nr KS.out.1 KS.out.2) (HP3.out V4 (HG.out _ hb4.out).2.2.2)).mono ?_
  rintro e V5 ⟨v17,rfl,hR,hB⟩
  refine⟨_,rfl,?_⟩
  have R1:=Aside0.mk hR
  have hb5:=Aside0.mk (zag hb4.out hB)
  clear hB hb4 hR
  refine hK.out _ _ ((HG.out _ hb5.out).1) (fun hHeld=>?_)
  clear hK K
  refine zaS (a':=?_) ?_ ?_
  rotate_left
  ·
   show Act.put _ (some 50) _=_
   simp only [Act.put,List.setIfInBounds_toArray,List.set_cons_zero,List.set_cons_succ,zaq,zar]
   rfl
  refine one_ (i:=21) (N:=some 54) #[true,true,true,true,true,true,true,true,true,true,true,true,true,true,true,true,true,true,true,true,true,true,false,false,false,false,false,false,false,false,false,false,false,false,false,false,false,false] rfl rfl (zaO HT_.out (by kernel_rfl)) (by decide) (fun K hK=>?_)
  refine za7 Try.func31 (by kernel_rfl) rfl #[.agg #[.bool n2,.slice Aa2 p2.length ca2,.slice Ab2 q2.length cb2],.agg #[.bool n3,.slice Aa3 p3.length ca3,.slice Ab3 q3.length cb3]] (by rfl) rfl rfl (by (try simp only [List.map_toArray,List.map_cons,List.map_nil]); first | done | rfl) ?_
  refine(A23.out V5 _ _ (HP2.out V5 (HG.out _ hb5.out).2.2.2) (HP3.out V5 (HG.out _ hb5.out).2.2.2)).mono ?_
  rintro e V6 ⟨v21,rfl,hR,hB⟩
  refine⟨_,rfl,?_⟩
  replace R1:=Aside0.mk (R1.out.below hB)
  have R2:=Aside0.mk hR
  have hb6:=Aside0.mk (zag hb5.out hB)
  clear hB hb5 hR
  refine hK.out _ _ ((HG.out _ hb6.out).1) (fun hHeld=>?_)
  clear hK K
  refine zaS (a':=?_) ?_ ?_
  rotate_left
  ·
   show Act.put _ (some 54) _=_
   simp only [Act.put,List.setIfInBounds_toArray,List.set_cons_zero,List.set_cons_succ,zaq,zar]
   rfl
  refine one_ (i:=22) (N:=some 55) #[true,true,true,true,true,true,true,true,true,true,true,true,true,true,true,true,true,true,true,true,true,true,true,false,false,false,false,false,false,false,false,false,false,false,false,false,false,false] rfl rfl (zaO HT_.out (by kernel_rfl)) (by decide) (fun K hK=>?_)
  refine za7 Try.func31 (by kernel_rfl) rfl #[.agg #[.bool n1,.slice Aa1 p1.length ca1,.slice Ab1 q1.length cb1],v21] (by rfl) rfl rfl (by (try simp only [List.map_toArray,List.map_cons,List.map_nil]); first | done | rfl) ?_
  refine(A1Y.out V6 _ _ (HP1.out V6 (HG.out _ hb6.out).2.2.2) (R2.out.nr KY3.out.1 KY3.out.2)).mono ?_
  rintro e V7 ⟨v22,rfl,hR,hB⟩
  refine⟨_,rfl,?_⟩
  clear R2
  replace R1:=Aside0.mk (R1.out.below hB)
  have R3_:=Aside0.mk hR
  have hb7:=Aside0.mk (zag hb6.out hB)
  clear hB hb6 hR
  refine hK.out _ _ ((HG.out _ hb7.out).1) (fun hHeld=>?_)
  clear hK K
  refine zaS (a':=?_) ?_ ?_
  rotate_left
  ·
   show Act.put _ (some 55) _=_
   simp only [Act.put,List.setIfInBounds_toArray,List.set_cons_zero,List.set_cons_succ,zaq,zar]
   rfl
  refine one_ (i:=23) (N:=some 56) #[true,true,true,true,true,true,true,true,true,true,true,true,true,true,true,true,true,true,true,true,true,true,true,true,false,false,false,false,false,false,false,false,false,false,false,false,false,false] rfl rfl (zaO HT_.out (by kernel_rfl)) (by decide) (fun K hK=>?_)
  refine za7 Try.func40 (by kernel_rfl) rfl #[v17,v22] (by rfl) rfl rfl (by (try simp only [List.map_toArray,List.map_cons,List.map_nil]); first | done | rfl) ?_
  refine(same_n R1.out R3_.out KT3.out.1 KT3.out.2).mono ?_
  rintro e V8 ⟨rfl,hB⟩
  refine⟨_,rfl,?_⟩
  clear R1 R3_
  have hb8:=Aside0.mk (zag hb7.out hB)
  clear hB hb7
  refine hK.out _ _ ((HG.out _ hb8.out).1) (fun hHeld=>?_)
  clear hK K
  refine zaS (a':=?_) ?_ ?_
  rotate_left
  ·
   show Act.put _ (some 56) _=_
   simp only [Act.put,List.setIfInBounds_toArray,List.set_cons_zero,List.set_cons_succ,zaq,zar]
   rfl
  refine zaA (i:=24) (N:=some 57) (v:=?_) (a':=?_) #[true,true,true,true,true,true,true,true,true,true,true,true,true,true,true,true,true,true,true,true,true,true,true,true,true,false,false,false,false,false,false,false,false,false,false,false,false,false] rfl rfl (zay HT_.out (by kernel_rfl)) (fun _ _ _ h=>h) (Or.inl ⟨by rfl,?_⟩) ?_ ?_
  rotate_left
  ·
   intro w'
   go_simp
   with_reducible rfl
  rotate_left
  ·
   simp only [Act.put,List.setIfInBounds_toArray,List.set_cons_zero,List.set_cons_succ,zaq,zar]
   rfl
  refine zaA (i:=25) (N:=some 58) (v:=?_) (a':=?_) #[true,true,true,true,true,true,true,true,true,true,true,true,true,true,true,true,true,true,true,true,true,true,true,true,true,true,false,false,false,false,false,false,false,false,false,false,false,false] rfl rfl (zay HT_.out (by kernel_rfl)) (fun _ _ _ h=>h) (Or.inl ⟨by rfl,?_⟩) ?_ ?_
  rotate_left
  ·
   intro w'
   go_simp
   with_reducible rfl
  rotate_left
  ·
   simp only [Act.put,List.setIfInBounds_toArray,List.set_cons_zero,List.set_cons_succ,zaq,zar]
   rfl
  refine zaA (i:=26) (N:=some 59) (v:=?_) (a':=?_) #[true,true,true,true,true,true,true,true,true,true,true,true,true,true,true,true,true,true,true,true,true,true,true,true,true,true,true,false,false,false,false,false,false,false,false,false,false,false] rfl rfl (zay HT_.out (by kernel_rfl)) (fun _ _ _ h=>h) (Or.inl ⟨by rfl,?_⟩) ?_ ?_
  rotate_left
  ·
   intro w'
   go_simp
   with_reducible rfl
  rotate_left
  ·
   simp only [Act.put,List.setIfInBounds_toArray,List.set_cons_zero,List.set_cons_succ,zaq,zar]
   rfl
  refine take_ (i:=27) (N:=some 60) (v:=?_) (a':=?_) #[true,true,true,true,true,true,true,true,true,true,true,true,true,true,true,true,true,true,true,true,true,true,true,true,true,true,true,true,false,false,false,false,false,false,false,false,false,false] rfl rfl (zaQ HT_.out HW_.out (by kernel_rfl)) (fun _ _ _ h=>h) (Or.inl ⟨by rfl,?_⟩) hHeld ?_ ?_
  rotate_left
  ·
   intro w' s0
   go_simp
   with_reducible rfl
  rotate_left
  ·
   simp only [Act.put,List.setIfInBounds_toArray,List.set_cons_zero,List.set_cons_succ,zaq,zar]
   rfl
  refine take_ (i:=28) (N:=some 61) (v:=?_) (a':=?_) #[true,true,true,true,true,true,true,true,true,true,true,true,true,true,true,true,true,true,true,true,true,true,true,true,true,true,true,true,true,false,false,false,false,false,false,false,false,false] rfl rfl (zaQ HT_.out HW_.out (by kernel_rfl)) (fun _ _ _ h=>h) (Or.inl ⟨by rfl,?_⟩) hHeld ?_ ?_
  rotate_left
  ·
   intro w' s0
   go_simp
   with_reducible rfl
  rotate_left
  ·
   simp only [Act.put,List.setIfInBounds_toArray,List.set_cons_zero,List.set_cons_succ,zaq,zar]
   rfl
  refine take_ (i:=30) (N:=some 63) (v:=?_) (a':=?_) #[true,true,true,true,true,true,true,true,true,true,true,true,true,true,true,true,true,true,true,true,true,true,true,true,true,true,true,true,true,false,true,false,false,false,false,false,false,false] rfl rfl (zaQ HT_.out HW_.out (by kernel_rfl)) (fun _ _ _ h=>h) (Or.inl ⟨by rfl,?_⟩) hHeld ?_ ?_
  rotate_left
  ·
   intro w' s0
   go_simp
   with_reducible rfl
  rotate_left
  ·
   simp only [Act.put,List.setIfInBounds_toArray,List.set_cons_zero,List.set_cons_succ,zaq,zar]
   rfl
  refine take_ (i:=31) (N:=some 64) (v:=?_) (a':=?_) #[true,true,true,true,true,true,true,true,true,true,true,true,true,true,true,true,true,true,true,true,true,true,true,true,true,true,true,true,true,false,true,true,false,false,false,false,false,false] rfl rfl (zaQ HT_.out HW_.out (by kernel_rfl)) (fun _ _ _ h=>h) (Or.inl ⟨by rfl,?_⟩) hHeld ?_ ?_
  rotate_left
  ·
   intro w' s0
   go_simp
   with_reducible rfl
  rotate_left
  ·
   simp only [Act.put,List.setIfInBounds_toArray,List.set_cons_zero,List.set_cons_succ,zaq,zar]
   rfl
  refine take_ (i:=32) (N:=some 65) (v:=?_) (a':=?_) #[true,true,true,true,true,true,true,true,true,true,true,true,true,true,true,true,true,true,true,true,true,true,true,true,true,true,true,true,true,false,true,true,true,false,false,false,false,false] rfl rfl (zaQ HT_.out HW_.out (by kernel_rfl)) (fun _ _ _ h=>h) (Or.inl ⟨by rfl,?_⟩) hHeld ?_ ?_
  rotate_left
  ·
   intro w' s0
   go_simp
   with_reducible rfl
  rotate_left
  ·
   simp only [Act.put,List.setIfInBounds_toArray,List.set_cons_zero,List.set_cons_succ,zaq,zar]
   rfl
  refine one_ (i:=29) (N:=some 62) #[true,true,true,true,true,true,true,true,true,true,true,true,true,true,true,true,true,true,true,true,true,true,true,true,true,true,true,true,true,true,true,true,true,false,false,false,false,false] rfl rfl (zaO HT_.out (by kernel_rfl)) (by decide) (fun K hK=>?_)
  refine za7 Try.func35 (by kernel_rfl) rfl #[.agg #[.bool M.1,.slice A5 (dg B32 M.2.1).length c5,.slice B5 (dg B32 M.2.2).length d5],.agg #[.bool n3,.slice Aa3 p3.length ca3,.slice Ab3 q3.length cb3]] (by rfl) rfl rfl (by (try simp only [List.map_toArray,List.map_cons,List.map_nil]); first | done | rfl) ?_
  refine(MM3.out V8 _ _ ((HG.out _ hb8.out).2.2.1.nr KM.out.1 KM.out.2) (HP3.out V8 (HG.out _ hb8.out).2.2.2)).mono ?_
  rintro e V9 ⟨v29,rfl,hR,hB⟩
  refine⟨_,rfl,?_⟩
  have R1:=Aside0.mk hR
  have hb9:=Aside0.mk (zag hb8.out hB)
  clear hB hb8 hR
  refine hK.out _ _ ((HG.out _ hb9.out).1) (fun hHeld=>?_)
  clear hK K
  refine zaS (a':=?_) ?_ ?_
  rotate_left
  ·
   show Act.put _ (some 62) _=_
   simp only [Act.put,List.setIfInBounds_toArray,List.set_cons_zero,List.set_cons_succ,zaq,zar]
   rfl
  refine one_ (i:=33) (N:=some 66) #[true,true,true,true,true,true,true,true,true,true,true,true,true,true,true,true,true,true,true,true,true,true,true,true,true,true,true,true,true,true,true,true,true,true,false,false,false,false] rfl rfl (zaO HT_.out (by kernel_rfl)) (by decide) (fun K hK=>?_)
  refine za7 Try.func35 (by kernel_rfl) rfl #[.agg #[.bool n2,.slice Aa2 p2.length ca2,.slice Ab2 q2.length cb2],.agg #[.bool n3,.slice Aa3 p3.length ca3,.slice Ab3 q3.length cb3]] (by rfl) rfl rfl (by (try simp only [List.map_toArray,List.map_cons,List.map_nil]); first | done | rfl) ?_
  refine(M23.out V9 _ _ (HP2.out V9 (HG.out _ hb9.out).2.2.2) (HP3.out V9 (HG.out _ hb9.out).2.2.2)).mono ?_
  rintro e V10 ⟨v33,rfl,hR,hB⟩
  refine⟨_,rfl,?_⟩
  replace R1:=Aside0.mk (R1.out.below hB)
  have R2:=Aside0.mk hR
  have hb10:=Aside0.mk (zag hb9.out hB)
  clear hB hb9 hR
  refine hK.out _ _ ((HG.out _ hb10.out).1) (fun hHeld=>?_)
  clear hK K
  refine zaS (a':=?_) ?_ ?_
  rotate_left
  ·
   show Act.put _ (some 66) _=_
   simp only [Act.put,List.setIfInBounds_toArray,List.set_cons_zero,List.set_cons_succ,zaq,zar]
   rfl
  refine one_ (i:=34) (N:=some 67) #[true,true,true,true,true,true,true,true,true,true,true,true,true,true,true,true,true,true,true,true,true,true,true,true,true,true,true,true,true,true,true,true,true,true,true,false,false,false] rfl rfl (zaO HT_.out (by kernel_rfl)) (by decide) (fun K hK=>?_)
  refine za7 Try.func35 (by kernel_rfl) rfl #[.agg #[.bool n1,.slice Aa1 p1.length ca1,.slice Ab1 q1.length cb1],v33] (by rfl) rfl rfl (by (try simp only [List.map_toArray,List.map_cons,List.map_nil]); first | done | rfl) ?_
  refine(M1Q.out V10 _ _ (HP1.out V10 (HG.out _ hb10.out).2.2.2) (R2.out.nr KQ3.out.1 KQ3.out.2)).mono ?_
  rintro e V11 ⟨v34,rfl,hR,hB⟩
  refine⟨_,rfl,?_⟩
  clear R2
  replace R1:=Aside0.mk (R1.out.below hB)
  have R3_:=Aside0.mk hR
  have hb11:=Aside0.mk (zag hb10.out hB)
  clear hB hb10 hR
  refine hK.out _ _ ((HG.out _ hb11.out).1) (fun hHeld=>?_)
  clear hK K
  refine zaS (a':=?_) ?_ ?_
  rotate_left
  ·
   show Act.put _ (some 67) _=_
   simp only [Act.put,List.setIfInBounds_toArray,List.set_cons_zero,List.set_cons_succ,zaq,zar]
   rfl
  refine one_ (i:=35) (N:=some 68) #[true,true,true,true,true,true,true,true,true,true,true,true,true,true,true,true,true,true,true,true,true,true,true,true,true,true,true,true,true,true,true,true,true,true,true,true,false,false] rfl rfl (zaO HT_.out (by kernel_rfl)) (by decide) (fun K hK=>?_)
  refine za7 Try.func40 (by kernel_rfl) rfl #[v29,v34] (by rfl) rfl rfl (by (try simp only [List.map_toArray,List.map_cons,List.map_nil]); first | done | rfl) ?_
  refine(same_n R1.out R3_.out KP3.out.1 KP3.out.2).mono ?_
  rintro e V12 ⟨rfl,hB⟩
  refine⟨_,rfl,?_⟩
  clear R1 R3_
  have hb12:=Aside0.mk (zag hb11.out hB)
  clear hB hb11
  refine hK.out _ _ ((HG.out _ hb12.out).1) (fun hHeld=>?_)
  clear hK K
  refine zaS (a':=?_) ?_ ?_
  rotate_left
  ·
   show Act.put _ (some 68) _=_
   simp only [Act.put,List.setIfInBounds_toArray,List.set_cons_zero,List.set_cons_succ,zaq,zar]
   rfl
  refine zaA (i:=36) (N:=some 69) (v:=?_) (a':=?_) #[true,true,true,true,true,true,true,true,true,true,true,true,true,true,true,true,true,true,true,true,true,true,true,true,true,true,true,true,true,true,true,true,true,true,true,true,true,false] rfl rfl (zay HT_.out (by kernel_rfl)) (fun _ _ _ h=>h) (Or.inl ⟨by rfl,?_⟩) ?_ ?_
  rotate_left
  ·
   intro w'
   go_simp
   with_reducible rfl
  rotate_left
  ·
   simp only [Act.put,List.setIfInBounds_toArray,List.set_cons_zero,List.set_cons_succ,zaq,zar]
   rfl
  refine zaA (i:=37) (N:=some 70) (v:=?_) (a':=?_) #[true,true,true,true,true,true,true,true,true,true,true,true,true,true,true,true,true,true,true,true,true,true,true,true,true,true,true,true,true,true,true,true,true,true,true,true,true,true] rfl rfl (zay HT_.out (by kernel_rfl)) (fun _ _ _ h=>h) (Or.inl ⟨by rfl,?_⟩) ?_ ?_
  rotate_left
  ·
   intro w'
   go_simp
   with_reducible rfl
  rotate_left
  ·
   simp only [Act.put,List.setIfInBounds_toArray,List.set_cons_zero,List.set_cons_succ,zaq,zar]
   rfl
  refine done_ (done_of HT_.out (by kernel_rfl)) ?_
  clear hHeld
  go_wp2_with fail
  refine start_ (n:=29) (S:=fun w'=>(w'.cell? ⟨w.heap.size,0,none⟩=some (.bool n1)∧w'.cell? ⟨w.heap.size,1,none⟩=some (.slice Aa1 p1.length ca1)∧w'.cell? ⟨w.heap.size,2,none⟩=some (.slice Ab1 q1.length cb1)∧w'.cell? ⟨w.heap.size+1,0,none⟩=some (.bool n2)∧w'.cell? ⟨w.heap.size+1,1,none⟩=some (.slice Aa2 p2.length ca2)∧w'.cell? ⟨w.heap.size+1,2,none⟩=some (.slice Ab2 q2.length cb2)∧w'.cell? ⟨w.heap.size+1+1,0,none⟩=some (.bool n3)∧w'.cell? ⟨w.heap.size+1+1,1,none⟩=some (.slice Aa3 p3.length ca3)∧w'.cell? ⟨w.heap.size+1+1,2,none⟩=some (.slice Ab3 q3.length cb3)∧w'.cell? ⟨g6,0,none⟩=some (.bool S.1)∧w'.cell? ⟨g6,1,none⟩=some (.slice A2 (dg B32 S.2.1).length c2)∧w'.cell? ⟨g6,2,none⟩=some (.slice B2 (dg B32 S.2.2).length d2)∧w'.cell? ⟨g7,0,none⟩=some (.bool M.1)∧w'.cell? ⟨g7,1,none⟩=some (.slice A5 (dg B32 M.2.1).length c5)∧w'.cell? ⟨g7,2,none⟩=some (.slice B5 (dg B32 M.2.2).length d5))) (ds:=[]) #[false,false,false,false,false,false,false,false,false,false,false,false,false,false,false,false,false,false,false,false,false,false,false,false,false,false,false,false,false] (by kernel_rfl) rfl rfl ((HG.out _ (zac hb12.out)).1) (fun hHeld=>?_)
  refine with_tabW ratField.tab6 ratField.bits6 (fun HT_ HW_=>?_)
  have hc0:=Aside0.mk (zac hb12.out)
  generalize V12.drew=U0 at hc0 hHeld ⊢
  refine take_ (i:=0) (N:=some 71) (v:=?_) (a':=?_) #[true,false,false,false,false,false,false,false,false,false,false,false,false,false,false,false,false,false,false,false,false,false,false,false,false,false,false,false,false] rfl rfl (zaQ HT_.out HW_.out (by kernel_rfl)) (fun _ _ _ h=>h) (Or.inl ⟨by rfl,?_⟩) hHeld ?_ ?_
  rotate_left
  ·
   intro w' s0
   go_simp
   with_reducible rfl
  rotate_left
  ·
   simp only [Act.put,List.setIfInBounds_toArray,List.set_cons_zero,List.set_cons_succ,zaq,zar]
   rfl
  refine take_ (i:=1) (N:=some 72) (v:=?_) (a':=?_) #[true,true,false,false,false,false,false,false,false,false,false,false,false,false,false,false,false,false,false,false,false,false,false,false,false,false,false,false,false] rfl rfl (zaQ HT_.out HW_.out (by kernel_rfl)) (fun _ _ _ h=>h) (Or.inl ⟨by rfl,?_⟩) hHeld ?_ ?_
  rotate_left
  ·
   intro w' s0
   go_simp
   with_reducible rfl
  rotate_left
  ·
   simp only [Act.put,List.setIfInBounds_toArray,List.set_cons_zero,List.set_cons_succ,zaq,zar]
   rfl
  refine take_ (i:=3) (N:=some 74) (v:=?_) (a':=?_) #[true,true,false,true,false,false,false,false,false,false,false,false,false,false,false,false,false,false,false,false,false,false,false,false,false,false,false,false,false] rfl rfl (zaQ HT_.out HW_.out (by kernel_rfl)) (fun _ _ _ h=>h) (Or.inl ⟨by rfl,?_⟩) hHeld ?_ ?_
  rotate_left
  ·
   intro w' s0
   go_simp
   with_reducible rfl
  rotate_left
  ·
   simp only [Act.put,List.setIfInBounds_toArray,List.set_cons_zero,List.set_cons_succ,zaq,zar]
   rfl
  refine take_ (i:=4) (N:=some 75) (v:=?_) (a':=?_) #[true,true,false,true,true,false,false,false,false,false,false,false,false,false,false,false,false,false,false,false,false,false,false,false,false,false,false,false,false] rfl rfl (zaQ HT_.out HW_.out (by kernel_rfl)) (fun _ _ _ h=>h) (Or.inl ⟨by rfl,?_⟩) hHeld ?_ ?_
  rotate_left
  ·
   intro w' s0
   go_simp
   with_reducible rfl
  rotate_left
  ·
   simp only [Act.put,List.setIfInBounds_toArray,List.set_cons_zero,List.set_cons_succ,zaq,zar]
   rfl
  refine take_ (i:=6) (N:=some 77) (v:=?_) (a':=?_) #[true,true,false,true,true,false,true,false,false,false,false,false,false,false,false,false,false,false,false,false,false,false,false,false,false,false,false,false,false] rfl rfl (zaQ HT_.out HW_.out (by kernel_rfl)) (fun _ _ _ h=>h) (Or.inl ⟨by rfl,?_⟩) hHeld ?_ ?_
  rotate_left
  ·
   intro w' s0
   go_simp
   with_reducible rfl
  rotate_left
  ·
   simp only [Act.put,List.setIfInBounds_toArray,List.set_cons_zero,List.set_cons_succ,zaq,zar]
   rfl
  refine take_ (i:=7) (N:=some 78) (v:=?_) (a':=?_) #[true,true,false,true,true,false,true,true,false,false,false,false,false,false,false,false,false,false,false,false,false,false,false,false,false,false,false,false,false] rfl rfl (zaQ HT_.out HW_.out (by kernel_rfl)) (fun _ _ _ h=>h) (Or.inl ⟨by rfl,?_⟩) hHeld ?_ ?_
  rotate_left
  ·
   intro w' s0
   go_simp
   with_reducible rfl
  rotate_left
  ·
   simp only [Act.put,List.setIfInBounds_toArray,List.set_cons_zero,List.set_cons_succ,zaq,zar]
   rfl
  refine one_ (i:=2) (N:=some 73) #[true,true,true,true,true,false,true,true,false,false,false,false,false,false,false,false,false,false,false,false,false,false,false,false,false,false,false,false,false] rfl rfl (zaO HT_.out (by kernel_rfl)) (by decide) (fun K hK=>?_)
  refine za7 Try.func35 (by kernel_rfl) rfl #[.agg #[.bool S.1,.slice A2 (dg B32 S.2.1).length c2,.slice B2 (dg B32 S.2.2).length d2],.agg #[.bool n3,.slice Aa3 p3.length ca3,.slice Ab3 q3.length cb3]] (by rfl) rfl rfl (by (try simp only [List.map_toArray,List.map_cons,List.map_nil]); first | done | rfl) ?_
  refine(MS3.out U0 _ _ ((HG.out _ hc0.out).2.1.nr KS.out.1 KS.out.2) (HP3.out U0 (HG.out _ hc0.out).2.2.2)).mono ?_
  rintro e U1 ⟨v2,rfl,hR,hB⟩
  refine⟨_,rfl,?_⟩
  have R1:=Aside0.mk hR
  have hc1:=Aside0.mk (zag hc0.out hB)
  clear hB hc0 hR
  refine hK.out _ _ ((HG.out _ hc1.out).1) (fun hHeld=>?_)
  clear hK K
  refine zaS (a':=?_) ?_ ?_
  rotate_left
  ·
   show Act.put _ (some 73) _=_
   simp only [Act.put,List.setIfInBounds_toArray,List.set_cons_zero,List.set_cons_succ,zaq,zar]
   rfl
  refine one_ (i:=5) (N:=some 76) #[true,true,true,true,true,true,true,true,false,false,false,false,false,false,false,false,false,false,false,false,false,false,false,false,false,false,false,false,false] rfl rfl (zaO HT_.out (by kernel_rfl)) (by decide) (fun K hK=>?_)
  refine za7 Try.func35 (by kernel_rfl) rfl #[.agg #[.bool n1,.slice Aa1 p1.length ca1,.slice Ab1 q1.length cb1],.agg #[.bool n3,.slice Aa3 p3.length ca3,.slice Ab3 q3.length cb3]] (by rfl) rfl rfl (by (try simp only [List.map_toArray,List.map_cons,List.map_nil]); first | done | rfl) ?_
  refine(M13.out U1 _ _ (HP1.out U1 (HG.out _ hc1.out).2.2.2) (HP3.out U1 (HG.out _ hc1.out).2.2.2)).mono ?_
  rintro e U2 ⟨v5,rfl,hR,hB⟩
  refine⟨_,rfl,?_⟩
  replace R1:=Aside0.mk (R1.out.below hB)
  have R2:=Aside0.mk hR
  have hc2:=Aside0.mk (zag hc1.out hB)
  clear hB hc1 hR
  refine hK.out _ _ ((HG.out _ hc2.out).1) (fun hHeld=>?_)
  clear hK K
  refine zaS (a':=?_) ?_ ?_
  rotate_left
  ·
   show Act.put _ (some 76) _=_
   simp only [Act.put,List.setIfInBounds_toArray,List.set_cons_zero,List.set_cons_succ,zaq,zar]
   rfl
  refine one_ (i:=8) (N:=some 79) #[true,true,true,true,true,true,true,true,true,false,false,false,false,false,false,false,false,false,false,false,false,false,false,false,false,false,false,false,false] rfl rfl (zaO HT_.out (by kernel_rfl)) (by decide) (fun K hK=>?_)
  refine za7 Try.func35 (by kernel_rfl) rfl #[.agg #[.bool n2,.slice Aa2 p2.length ca2,.slice Ab2 q2.length cb2],.agg #[.bool n3,.slice Aa3 p3.length ca3,.slice Ab3 q3.length cb3]] (by rfl) rfl rfl (by (try simp only [List.map_toArray,List.map_cons,List.map_nil]); first | done | rfl) ?_
  refine(M23.out U2 _ _ (HP2.out U2 (HG.out _ hc2.out).2.2.2) (HP3.out U2 (HG.out _ hc2.out).2.2.2)).mono ?_
  rintro e U3 ⟨v8,rfl,hR,hB⟩
  refine⟨_,rfl,?_⟩
  replace R1:=Aside0.mk (R1.out.below hB)
  replace R2:=Aside0.mk (R2.out.below hB)
  have R4:=Aside0.mk hR
  have hc3:=Aside0.mk (zag hc2.out hB)
  clear hB hc2 hR
  refine hK.out _ _ ((HG.out _ hc3.out).1) (fun hHeld=>?_)
  clear hK K
  refine zaS (a':=?_) ?_ ?_
  rotate_left
  ·
   show Act.put _ (some 79) _=_
   simp only [Act.put,List.setIfInBounds_toArray,List.set_cons_zero,List.set_cons_succ,zaq,zar]
   rfl
  refine one_ (i:=9) (N:=some 80) #[true,true,true,true,true,true,true,true,true,true,false,false,false,false,false,false,false,false,false,false,false,false,false,false,false,false,false,false,false] rfl rfl (zaO HT_.out (by kernel_rfl)) (by decide) (fun K hK=>?_)
  refine za7 Try.func31 (by kernel_rfl) rfl #[v5,v8] (by rfl) rfl rfl (by (try simp only [List.map_toArray,List.map_cons,List.map_nil]); first | done | rfl) ?_
  refine(ARQ.out U3 _ _ (R2.out.nr KR3.out.1 KR3.out.2) (R4.out.nr KQ3.out.1 KQ3.out.2)).mono ?_
  rintro e U4 ⟨v9,rfl,hR,hB⟩
  refine⟨_,rfl,?_⟩
  clear R2 R4
  replace R1:=Aside0.mk (R1.out.below hB)
  have R5:=Aside0.mk hR
  have hc4:=Aside0.mk (zag hc3.out hB)
  clear hB hc3 hR
  refine hK.out _ _ ((HG.out _ hc4.out).1) (fun hHeld=>?_)
  clear hK K
  refine zaS (a':=?_) ?_ ?_
  rotate_left
  ·
   show Act.put _ (some 80) _=_
   simp only [Act.put,List.setIfInBounds_toArray,List.set_cons_zero,List.set_cons_succ,zaq,zar]
   rfl
  refine one_ (i:=10) (N:=some 81) #[true,true,true,true,true,true,true,true,true,true,true,false,false,false,false,false,false,false,false,false,false,false,false,false,false,false,false,false,false] rfl rfl (zaO HT_.out (by kernel_rfl)) (by decide) (fun K hK=>?_)
  refine za7 Try.func40 (by kernel_rfl) rfl #[v2,v9] (by rfl) rfl rfl (by (try simp only [List.map_toArray,List.map_cons,List.map_nil]); first | done | rfl) ?_
  refine(same_n R1.out R5.out KD3.out.1 KD3.out.2).mono ?_
  rintro e U5 ⟨rfl,hB⟩
  refine⟨_,rfl,?_⟩
  clear R1 R5
  have hc5:=Aside0.mk (zag hc4.out hB)
  clear hB hc4
  refine hK.out _ _ ((HG.out _ hc5.out).1) (fun hHeld=>?_)
  clear hK K
  refine zaS (a':=?_) ?_ ?_
  rotate_left
  ·
   show Act.put _ (some 81) _=_
   simp only [Act.put,List.setIfInBounds_toArray,List.set_cons_zero,List.set_cons_succ,zaq,zar]
   rfl
  refine zaA (i:=11) (N:=some 82) (v:=?_) (a':=?_) #[true,true,true,true,true,true,true,true,true,true,true,true,false,false,false,false,false,false,false,false,false,false,false,false,false,false,false,false,false] rfl rfl (zay HT_.out (by kernel_rfl)) (fun _ _ _ h=>h) (Or.inl ⟨by rfl,?_⟩) ?_ ?_
  rotate_left
  ·
   intro w'
   go_simp
   with_reducible rfl
  rotate_left
  ·
   simp only [Act.put,List.setIfInBounds_toArray,List.set_cons_zero,List.set_cons_succ,zaq,zar]
   rfl
  refine zaA (i:=12) (N:=some 83) (v:=?_) (a':=?_) #[true,true,true,true,true,true,true,true,true,true,true,true,true,false,false,false,false,false,false,false,false,false,false,false,false,false,false,false,false] rfl rfl (zay HT_.out (by kernel_rfl)) (fun _ _ _ h=>h) (Or.inl ⟨by rfl,?_⟩) ?_ ?_
  rotate_left
  ·
   intro w'
   go_simp
   with_reducible rfl
  rotate_left
  ·
   simp only [Act.put,List.setIfInBounds_toArray,List.set_cons_zero,List.set_cons_succ,zaq,zar]
   rfl
  refine take_ (i:=13) (N:=some 84) (v:=?_) (a':=?_) #[true,true,true,true,true,true,true,true,true,true,true,true,true,true,false,false,false,false,false,false,false,false,false,false,false,false,false,false,false] rfl rfl (zaQ HT_.out HW_.out (by kernel_rfl)) (fun _ _ _ h=>h) (Or.inl ⟨by rfl,?_⟩) hHeld ?_ ?_
  rotate_left
  ·
   intro w' s0
   go_simp
   with_reducible rfl
  rotate_left
  ·
   simp only [Act.put,List.setIfInBounds_toArray,List.set_cons_zero,List.set_cons_succ,zaq,zar]
   rfl
  refine take_ (i:=14) (N:=some 85) (v:=?_) (a':=?_) #[true,true,true,true,true,true,true,true,true,true,true,true,true,true,true,false,false,false,false,false,false,false,false,false,false,false,false,false,false] rfl rfl (zaQ HT_.out HW_.out (by kernel_rfl)) (fun _ _ _ h=>h) (Or.inl ⟨by rfl,?_⟩) hHeld ?_ ?_
  rotate_left
  ·
   intro w' s0
   go_simp
   with_reducible rfl
  rotate_left
  ·
   simp only [Act.put,List.setIfInBounds_toArray,List.set_cons_zero,List.set_cons_succ,zaq,zar]
   rfl
  refine take_ (i:=16) (N:=some 87) (v:=?_) (a':=?_) #[true,true,true,true,true,true,true,true,true,true,true,true,true,true,true,false,true,false,false,false,false,false,false,false,false,false,false,false,false] rfl rfl (zaQ HT_.out HW_.out (by kernel_rfl)) (fun _ _ _ h=>h) (Or.inl ⟨by rfl,?_⟩) hHeld ?_ ?_
  rotate_left
  ·
   intro w' s0
   go_simp
   with_reducible rfl
  rotate_left
  ·
   simp only [Act.put,List.setIfInBounds_toArray,List.set_cons_zero,List.set_cons_succ,zaq,zar]
   rfl
  refine one_ (i:=15) (N:=some 86) #[true,true,true,true,true,true,true,true,true,true,true,true,true,true,true,true,true,false,false,false,false,false,false,false,false,false,false,false,false] rfl rfl (zaO HT_.out (by kernel_rfl)) (by decide) (fun K hK=>?_)
  refine za7 Try.func33 (by kernel_rfl) rfl #[.agg #[.bool S.1,.slice A2 (dg B32 S.2.1).length c2,.slice B2 (dg B32 S.2.2).length d2],.agg #[.bool n2,.slice Aa2 p2.length ca2,.slice Ab2 q2.length cb2]] (by rfl) rfl rfl (by (try simp only [List.map_toArray,List.map_cons,List.map_nil]); first | done | rfl) ?_
  refine(SS2.out U5 _ _ ((HG.out _ hc5.out).2.1.nr KS.out.1 KS.out.2) (HP2.out U5 (HG.out _ hc5.out).2.2.2)).mono ?_
  rintro e U6 ⟨v15,rfl,hR,hB⟩
  refine⟨_,rfl,?_⟩
  have R1:=Aside0.mk hR
  have hc6:=Aside0.mk (zag hc5.out hB)
  clear hB hc5 hR
  refine hK.out _ _ ((HG.out _ hc6.out).1) (fun hHeld=>?_)
  clear hK K
  refine zaS (a':=?_) ?_ ?_
  rotate_left
  ·
   show Act.put _ (some 86) _=_
   simp only [Act.put,List.setIfInBounds_toArray,List.set_cons_zero,List.set_cons_succ,zaq,zar]
   rfl
  refine one_ (i:=17) (N:=some 88) #[true,true,true,true,true,true,true,true,true,true,true,true,true,true,true,true,true,true,false,false,false,false,false,false,false,false,false,false,false] rfl rfl (zaO HT_.out (by kernel_rfl)) (by decide) (fun K hK=>?_)
  refine za7 Try.func16 (by kernel_rfl) rfl #[.agg #[.bool n1,.slice Aa1 p1.length ca1,.slice Ab1 q1.length cb1]] (by rfl) rfl rfl (by (try simp only [List.map_toArray,List.map_cons,List.map_nil]); first | done | rfl) ?_
  refine(norm_n (HP1.out U6 (HG.out _ hc6.out).2.2.2)).mono ?_
  rintro e U7 ⟨v17,rfl,hR,hB⟩
  refine⟨_,rfl,?_⟩
  replace R1:=Aside0.mk (R1.out.below hB)
  have R2:=Aside0.mk hR
  have hc7:=Aside0.mk (zag hc6.out hB)
  clear hB hc6 hR
  refine hK.out _ _ ((HG.out _ hc7.out).1) (fun hHeld=>?_)
  clear hK K
  refine zaS (a':=?_) ?_ ?_
  rotate_left
  ·
   show Act.put _ (some 88) _=_
   simp only [Act.put,List.setIfInBounds_toArray,List.set_cons_zero,List.set_cons_succ,zaq,zar]
   rfl
  refine one_ (i:=18) (N:=some 89) #[true,true,true,true,true,true,true,true,true,true,true,true,true,true,true,true,true,true,true,false,false,false,false,false,false,false,false,false,false] rfl rfl (zaO HT_.out (by kernel_rfl)) (by decide) (fun K hK=>?_)
  refine za7 Try.func40 (by kernel_rfl) rfl #[v15,v17] (by rfl) rfl rfl (by (try simp only [List.map_toArray,List.map_cons,List.map_nil]); first | done | rfl) ?_
  refine(same_n R1.out R2.out KX1.out.1 KX1.out.2).mono ?_
  rintro e U8 ⟨rfl,hB⟩
  refine⟨_,rfl,?_⟩
  clear R1 R2
  have hc8:=Aside0.mk (zag hc7.out hB)
  clear hB hc7
  refine hK.out _ _ ((HG.out _ hc8.out).1) (fun hHeld=>?_)
  clear hK K
  refine zaS (a':=?_) ?_ ?_
  rotate_left
  ·
   show Act.put _ (some 89) _=_
   simp only [Act.put,List.setIfInBounds_toArray,List.set_cons_zero,List.set_cons_succ,zaq,zar]
   rfl
  refine zaA (i:=19) (N:=some 90) (v:=?_) (a':=?_) #[true,true,true,true,true,true,true,true,true,true,true,true,true,true,true,true,true,true,true,true,false,false,false,false,false,false,false,false,false] rfl rfl (zay HT_.out (by kernel_rfl)) (fun _ _ _ h=>h) (Or.inl ⟨by rfl,?_⟩) ?_ ?_
  rotate_left
  ·
   intro w'
   go_simp
   with_reducible rfl
  rotate_left
  ·
   simp only [Act.put,List.setIfInBounds_toArray,List.set_cons_zero,List.set_cons_succ,zaq,zar]
   rfl
  refine zaA (i:=20) (N:=some 91) (v:=?_) (a':=?_) #[true,true,true,true,true,true,true,true,true,true,true,true,true,true,true,true,true,true,true,true,true,false,false,false,false,false,false,false,false] rfl rfl (zay HT_.out (by kernel_rfl)) (fun _ _ _ h=>h) (Or.inl ⟨by rfl,?_⟩) ?_ ?_
  rotate_left
  ·
   intro w'
   go_simp
   with_reducible rfl
  rotate_left
  ·
   simp only [Act.put,List.setIfInBounds_toArray,List.set_cons_zero,List.set_cons_succ,zaq,zar]
   rfl
  refine zaA (i:=21) (N:=some 92) (v:=?_) (a':=?_) #[true,true,true,true,true,true,true,true,true,true,true,true,true,true,true,true,true,true,true,true,true,true,false,false,false,false,false,false,false] rfl rfl (zay HT_.out (by kernel_rfl)) (fun _ _ _ h=>h) (Or.inl ⟨by rfl,?_⟩) ?_ ?_
  rotate_left
  ·
   intro w'
   go_simp
   with_reducible rfl
  rotate_left
  ·
   simp only [Act.put,List.setIfInBounds_toArray,List.set_cons_zero,List.set_cons_succ,zaq,zar]
   rfl
  refine take_ (i:=22) (N:=some 93) (v:=?_) (a':=?_) #[true,true,true,true,true,true,true,true,true,true,true,true,true,true,true,true,true,true,true,true,true,true,true,false,false,false,false,false,false] rfl rfl (zaQ HT_.out HW_.out (by kernel_rfl)) (fun _ _ _ h=>h) (Or.inl ⟨by rfl,?_⟩) hHeld ?_ ?_
  rotate_left
  ·
   intro w' s0
   go_simp
   with_reducible rfl
  rotate_left
  ·
   simp only [Act.put,List.setIfInBounds_toArray,List.set_cons_zero,List.set_cons_succ,zaq,zar]
   rfl
  refine take_ (i:=23) (N:=some 94) (v:=?_) (a':=?_) #[true,true,true,true,true,true,true,true,true,true,true,true,true,true,true,true,true,true,true,true,true,true,true,true,false,false,false,false,false] rfl rfl (zaQ HT_.out HW_.out (by kernel_rfl)) (fun _ _ _ h=>h) (Or.inl ⟨by rfl,?_⟩) hHeld ?_ ?_
  rotate_left
  ·
   intro w' s0
   go_simp
   with_reducible rfl
  rotate_left
  ·
   simp only [Act.put,List.setIfInBounds_toArray,List.set_cons_zero,List.set_cons_succ,zaq,zar]
   rfl
  refine one_ (i:=24) (N:=some 95) #[true,true,true,true,true,true,true,true,true,true,true,true,true,true,true,true,true,true,true,true,true,true,true,true,true,false,false,false,false] rfl rfl (zaO HT_.out (by kernel_rfl)) (by decide) (fun K hK=>?_)
  refine za7 Try.func37 (by kernel_rfl) rfl #[.agg #[.bool n1,.slice Aa1 p1.length ca1,.slice Ab1 q1.length cb1]] (by rfl) rfl rfl (by (try simp only [List.map_toArray,List.map_cons,List.map_nil]); first | done | rfl) ?_
  refine(NG.out U8 _ (HP1.out U8 (HG.out _ hc8.out).2.2.2)).mono ?_
  rintro e U9 ⟨v24,rfl,hR,hB⟩
  refine⟨_,rfl,?_⟩
  have R1:=Aside0.mk hR
  have hc9:=Aside0.mk (zag hc8.out hB)
  clear hB hc8 hR
  refine hK.out _ _ ((HG.out _ hc9.out).1) (fun hHeld=>?_)
  clear hK K
  refine zaS (a':=?_) ?_ ?_
  rotate_left
  ·
   show Act.put _ (some 95) _=_
   simp only [Act.put,List.setIfInBounds_toArray,List.set_cons_zero,List.set_cons_succ,zaq,zar]
   rfl
  refine one_ (i:=25) (N:=some 96) #[true,true,true,true,true,true,true,true,true,true,true,true,true,true,true,true,true,true,true,true,true,true,true,true,true,true,false,false,false] rfl rfl (zaO HT_.out (by kernel_rfl)) (by decide) (fun K hK=>?_)
  refine za7 Try.func31 (by kernel_rfl) rfl #[.agg #[.bool n1,.slice Aa1 p1.length ca1,.slice Ab1 q1.length cb1],v24] (by rfl) rfl rfl (by (try simp only [List.map_toArray,List.map_cons,List.map_nil]); first | done | rfl) ?_
  refine(A1G.out U9 _ _ (HP1.out U9 (HG.out _ hc9.out).2.2.2) (R1.out.nr KG1.out.1 KG1.out.2)).mono ?_
  rintro e U10 ⟨v25,rfl,hR,hB⟩
  refine⟨_,rfl,?_⟩
  clear R1
  have R2:=Aside0.mk hR
  have hc10:=Aside0.mk (zag hc9.out hB)
  clear hB hc9 hR
  refine hK.out _ _ ((HG.out _ hc10.out).1) (fun hHeld=>?_)
  clear hK K
  refine zaS (a':=?_) ?_ ?_
  rotate_left
  ·
   show Act.put _ (some 96) _=_
   simp only [Act.put,List.setIfInBounds_toArray,List.set_cons_zero,List.set_cons_succ,zaq,zar]
   rfl
  refine one_ (i:=26) (N:=some 97) #[true,true,true,true,true,true,true,true,true,true,true,true,true,true,true,true,true,true,true,true,true,true,true,true,true,true,true,false,false] rfl rfl (zaO HT_.out (by kernel_rfl)) (by decide) (fun K hK=>?_)
  refine za7 Try.func41 (by kernel_rfl) rfl #[v25] (by rfl) rfl rfl (by (try simp only [List.map_toArray,List.map_cons,List.map_nil]); first | done | rfl) ?_
  refine(SG0.out U10 _ (R2.out.nr K0.out.1 K0.out.2)).mono ?_
  rintro e U11 ⟨rfl,hB⟩
  refine⟨_,rfl,?_⟩
  clear R2
  have hc11:=Aside0.mk (zag hc10.out hB)
  clear hB hc10
  refine hK.out _ _ ((HG.out _ hc11.out).1) (fun hHeld=>?_)
  clear hK K
  refine zaS (a':=?_) ?_ ?_
  rotate_left
  ·
   show Act.put _ (some 97) _=_
   simp only [Act.put,List.setIfInBounds_toArray,List.set_cons_zero,List.set_cons_succ,zaq,zar]
   rfl
  refine zaA (i:=27) (N:=some 98) (v:=?_) (a':=?_) #[true,true,true,true,true,true,true,true,true,true,true,true,true,true,true,true,true,true,true,true,true,true,true,true,true,true,true,true,false] rfl rfl (zay HT_.out (by kernel_rfl)) (fun _ _ _ h=>h) (Or.inl ⟨by rfl,?_⟩) ?_ ?_
  rotate_left
  ·
   intro w'
   go_simp
   with_reducible rfl
  rotate_left
  ·
   simp only [Act.put,List.setIfInBounds_toArray,List.set_cons_zero,List.set_cons_succ,zaq,zar]
   rfl
  refine zaA (i:=28) (N:=some 99) (v:=?_) (a':=?_) #[true,true,true,true,true,true,true,true,true,true,true,true,true,true,true,true,true,true,true,true,true,true,true,true,true,true,true,true,true] rfl rfl (zay HT_.out (by kernel_rfl)) (fun _ _ _ h=>h) (Or.inl ⟨by rfl,?_⟩) ?_ ?_
  rotate_left
  ·
   intro w'
   go_simp
   with_reducible rfl
  rotate_left
  ·
   simp only [Act.put,List.setIfInBounds_toArray,List.set_cons_zero,List.set_cons_succ,zaq,zar]
   rfl
  refine done_ (done_of HT_.out (by kernel_rfl)) ?_
  clear hHeld
  obtain⟨⟨s0,s1,s2,s3,s4,s5,s6,s7,s8,s9,s10,s11,s12,s13,s14⟩,-⟩:=HG.out _ hc11.out
  go_wp2_with fail
  clear s0 s1 s2 s3 s4 s5 s6 s7 s8 s9 s10 s11 s12 s13 s14
  have HS2:=Aside0.mk (sign_n (HP2.out U11 (HG.out _ hc11.out).2.2.2))
  by_cases hz:X2.2.1=0
  ·
   rw [show sgnQ X2=0 from if_pos hz] at HS2
   refine HS2.out.mono ?_
   rintro e u1 ⟨rfl,hB⟩
   have hd:=Aside0.mk (zag hc11.out hB)
   clear hB HS2 hz
   go_wp2_with fail
   refine(known_q _).mono ?_
   rintro e u2 ⟨rfl,hB⟩
   have hd2:=Aside0.mk (zag hd.out hB)
   clear hB
   go_wp2
   go_ret
   exact⟨rfl,(HG.out _ hd2.out).2.2.2⟩
  ·
   have hsn:sgnQ X2≠0:=by unfold sgnQ; rw [if_neg hz]; split<;>decide
   have DV2:=Aside0.mk (DV.out hz)
   clear DV hz
   generalize sgnQ X2=c at HS2 hsn
   have hs2:(c == 0)=false:=by rw [beq_eq_false_iff_ne]; exact hsn
   have hs3:(c != 0)=true:=by rw [bne_iff_ne]; exact hsn
   refine HS2.out.mono ?_
   rintro e u1 ⟨rfl,hB⟩
   have hd:=Aside0.mk (zag hc11.out hB)
   clear hB HS2
   obtain⟨⟨s0,s1,s2,s3,s4,s5,s6,s7,s8,s9,s10,s11,s12,s13,s14⟩,-⟩:=HG.out _ hd.out
   go_wp2_with fail
   clear s0 s1 s2 s3 s4 s5 s6 s7 s8 s9 s10 s11 s12 s13 s14
   clear hsn hs2 hs3
   refine(DV2.out u1 _ _ ((HG.out _ hd.out).2.2.1.nr KM.out.1 KM.out.2) (HP2.out u1 (HG.out _ hd.out).2.2.2)).mono ?_
   rintro e u2 ⟨A9,c9,B9,d9,rfl,hR,hB⟩
   have hA:Below u2.heap.size u2 (u2.alloc (.cells #[.bool X1.1,.slice A9 (dg B32 X1.2.1).length c9,.slice B9 (dg B32 X1.2.2).length d9] 25)):=zab (Below.refl _ _) _
   have hN:=zbp u2 (.cells #[.bool X1.1,.slice A9 (dg B32 X1.2.1).length c9,.slice B9 (dg B32 X1.2.2).length d9] 25)
   obtain⟨u3,hW⟩:∃ W,W=u2.alloc (.cells #[.bool X1.1,.slice A9 (dg B32 X1.2.1).length c9,.slice B9 (dg B32 X1.2.2).length d9] 25):=⟨_,rfl⟩
   obtain⟨gx,hgx⟩:∃ g,g=u2.heap.size:=⟨_,rfl⟩
   rw [← hW] at hA hN
   rw [← hgx] at hN
   have hd3:=zag (zag hd.out hB) hA
   have HI:Aside0 (∀ w':World,Below u3.heap.size u3 w'→(w'.cell? ⟨w.heap.size,0,none⟩=some (.bool n1)∧w'.cell? ⟨w.heap.size,1,none⟩=some (.slice Aa1 p1.length ca1)∧w'.cell? ⟨w.heap.size,2,none⟩=some (.slice Ab1 q1.length cb1)∧w'.cell? ⟨w.heap.size+1,0,none⟩=some (.bool n2)∧w'.cell? ⟨w.heap.size+1,1,none⟩=some (.slice Aa2 p2.length ca2)∧w'.cell? ⟨w.heap.size+1,2,none⟩=some (.slice Ab2 q2.length cb2)∧w'.cell? ⟨w.heap.size+1+1,0,none⟩=some (.bool n3)∧w'.cell? ⟨w.heap.size+1+1,1,none⟩=some (.slice Aa3 p3.length ca3)∧w'.cell? ⟨w.heap.size+1+1,2,none⟩=some (.slice Ab3 q3.length cb3)∧w'.cell? ⟨gx,0,none⟩=some (.bool X1.1)∧w'.cell? ⟨gx,1,none⟩=some (.slice A9 (dg B32 X1.2.1).length c9)∧w'.cell? ⟨gx,2,none⟩=some (.slice B9 (dg B32 X1.2.2).length d9))∧RT w' u1.heap.size (.agg #[.bool X1.1,.slice A9 (dg B32 X1.2.1).length c9,.slice B9 (dg B32 X1.2.2).length d9]) X1∧Below w.heap.size w w'):=⟨fun W hb=>by
    obtain⟨⟨s0,s1,s2,s3,s4,s5,s6,s7,s8,s9,s10,s11,s12,s13,s14⟩,_,_,hw⟩:=HG.out W (zag hd3 hb)
    exact⟨⟨s0,s1,s2,s3,s4,s5,s6,s7,s8,(zai (zal hN hb) 0).trans rfl,(zai (zal hN hb) 1).trans rfl,(zai (zal hN hb) 2).trans rfl⟩,(hR.below hA).below hb,hw⟩⟩
   have HW:=Aside0.mk hW
   have HGX:=Aside0.mk hgx
   clear hA hN hW hgx hB hR hd3
   go_wp2_with fail
   rw [← HW.out,← HGX.out]
   clear HW HGX
   refine start_ (n:=9) (S:=fun w'=>(w'.cell? ⟨w.heap.size,0,none⟩=some (.bool n1)∧w'.cell? ⟨w.heap.size,1,none⟩=some (.slice Aa1 p1.length ca1)∧w'.cell? ⟨w.heap.size,2,none⟩=some (.slice Ab1 q1.length cb1)∧w'.cell? ⟨w.heap.size+1,0,none⟩=some (.bool n2)∧w'.cell? ⟨w.heap.size+1,1,none⟩=some (.slice Aa2 p2.length ca2)∧w'.cell? ⟨w.heap.size+1,2,none⟩=some (.slice Ab2 q2.length cb2)∧w'.cell? ⟨w.heap.size+1+1,0,none⟩=some (.bool n3)∧w'.cell? ⟨w.heap.size+1+1,1,none⟩=some (.slice Aa3 p3.length ca3)∧w'.cell? ⟨w.heap.size+1+1,2,none⟩=some (.slice Ab3 q3.length cb3)∧w'.cell? ⟨gx,0,none⟩=some (.bool X1.1)∧w'.cell? ⟨gx,1,none⟩=some (.slice A9 (dg B32 X1.2.1).length c9)∧w'.cell? ⟨gx,2,none⟩=some (.slice B9 (dg B32 X1.2.2).length d9))) (ds:=[]) #[false,false,false,false,false,false,false,false,false] (by kernel_rfl) rfl rfl ((HI.out _ (zac (Below.refl _ _))).1) (fun hHeld=>?_)
   refine with_tabW ratField.tab10 ratField.bits10 (fun HT_ HW_=>?_)
   have hz0:=Aside0.mk (show Below u3.heap.size u3 u3.drew from zac (Below.refl _ _))
   generalize u3.drew=Z0 at hz0 hHeld ⊢
   refine zaA (i:=0) (N:=some 109) (v:=?_) (a':=?_) #[true,false,false,false,false,false,false,false,false] rfl rfl (zay HT_.out (by kernel_rfl)) (fun _ _ _ h=>h) (Or.inl ⟨by rfl,?_⟩) ?_ ?_
   rotate_left
   ·
    intro w'
    go_simp
    with_reducible rfl
   rotate_left
   ·
    simp only [Act.put,List.setIfInBounds_toArray,List.set_cons_zero,List.set_cons_succ,zaq,zar]
    rfl
   refine zaA (i:=1) (N:=some 110) (v:=?_) (a':=?_) #[true,true,false,false,false,false,false,false,false] rfl rfl (zay HT_.out (by kernel_rfl)) (fun _ _ _ h=>h) (Or.inl ⟨by rfl,?_⟩) ?_ ?_
   rotate_left
   ·
    intro w'
    go_simp
    with_reducible rfl
   rotate_left
   ·
    simp only [Act.put,List.setIfInBounds_toArray,List.set_cons_zero,List.set_cons_succ,zaq,zar]
    rfl
   refine zaA (i:=2) (N:=some 111) (v:=?_) (a':=?_) #[true,true,true,false,false,false,false,false,false] rfl rfl (zay HT_.out (by kernel_rfl)) (fun _ _ _ h=>h) (Or.inl ⟨by rfl,?_⟩) ?_ ?_
   rotate_left
   ·
    intro w'
    go_simp
    with_reducible rfl
   rotate_left
   ·
    simp only [Act.put,List.setIfInBounds_toArray,List.set_cons_zero,List.set_cons_succ,zaq,zar]
    rfl
   refine take_ (i:=3) (N:=some 112) (v:=?_) (a':=?_) #[true,true,true,true,false,false,false,false,false] rfl rfl (zaQ HT_.out HW_.out (by kernel_rfl)) (fun _ _ _ h=>h) (Or.inl ⟨by rfl,?_⟩) hHeld ?_ ?_
   rotate_left
   ·
    intro w' s0
    go_simp
    with_reducible rfl
   rotate_left
   ·
    simp only [Act.put,List.setIfInBounds_toArray,List.set_cons_zero,List.set_cons_succ,zaq,zar]
    rfl
   refine take_ (i:=4) (N:=some 113) (v:=?_) (a':=?_) #[true,true,true,true,true,false,false,false,false] rfl rfl (zaQ HT_.out HW_.out (by kernel_rfl)) (fun _ _ _ h=>h) (Or.inl ⟨by rfl,?_⟩) hHeld ?_ ?_
   rotate_left
   ·
    intro w' s0
    go_simp
    with_reducible rfl
   rotate_left
   ·
    simp only [Act.put,List.setIfInBounds_toArray,List.set_cons_zero,List.set_cons_succ,zaq,zar]
    rfl
   refine one_ (i:=5) (N:=some 114) #[true,true,true,true,true,true,false,false,false] rfl rfl (zaO HT_.out (by kernel_rfl)) (by decide) (fun K hK=>?_)
   refine za7 Try.func16 (by kernel_rfl) rfl #[.agg #[.bool n1,.slice Aa1 p1.length ca1,.slice Ab1 q1.length cb1]] (by rfl) rfl rfl (by (try simp only [List.map_toArray,List.map_cons,List.map_nil]); first | done | rfl) ?_
   refine(norm_n (HP1.out Z0 (HI.out _ hz0.out).2.2)).mono ?_
   rintro e Z1 ⟨v5,rfl,hR,hB⟩
   refine⟨_,rfl,?_⟩
   have R2:=Aside0.mk hR
   have hz1:=Aside0.mk (zag hz0.out hB)
   clear hB hz0 hR
   refine hK.out _ _ ((HI.out _ hz1.out).1) (fun hHeld=>?_)
   clear hK K
   refine zaS (a':=?_) ?_ ?_
   rotate_left
   ·
    show Act.put _ (some 114) _=_
    simp only [Act.put,List.setIfInBounds_toArray,List.set_cons_zero,List.set_cons_succ,zaq,zar]
    rfl
   refine one_ (i:=6) (N:=some 115) #[true,true,true,true,true,true,true,false,false] rfl rfl (zaO HT_.out (by kernel_rfl)) (by decide) (fun K hK=>?_)
   refine za7 Try.func40 (by kernel_rfl) rfl #[.agg #[.bool X1.1,.slice A9 (dg B32 X1.2.1).length c9,.slice B9 (dg B32 X1.2.2).length d9],v5] (by rfl) rfl rfl (by (try simp only [List.map_toArray,List.map_cons,List.map_nil]); first | done | rfl) ?_
   refine(same_n (HI.out _ hz1.out).2.1 R2.out KX1.out.1 KX1.out.2).mono ?_
   rintro e Z2 ⟨rfl,hB⟩
   refine⟨_,rfl,?_⟩
   clear R2
   have hz2:=Aside0.mk (zag hz1.out hB)
   clear hB hz1
   refine hK.out _ _ ((HI.out _ hz2.out).1) (fun hHeld=>?_)
   clear hK K
   refine zaS (a':=?_) ?_ ?_
   rotate_left
   ·
    show Act.put _ (some 115) _=_
    simp only [Act.put,List.setIfInBounds_toArray,List.set_cons_zero,List.set_cons_succ,zaq,zar]
    rfl
   refine zaA (i:=7) (N:=some 116) (v:=?_) (a':=?_) #[true,true,true,true,true,true,true,true,false] rfl rfl (zay HT_.out (by kernel_rfl)) (fun _ _ _ h=>h) (Or.inl ⟨by rfl,?_⟩) ?_ ?_
   rotate_left
   ·
    intro w'
    go_simp
    with_reducible rfl
   rotate_left
   ·
    simp only [Act.put,List.setIfInBounds_toArray,List.set_cons_zero,List.set_cons_succ,zaq,zar]
    rfl
   refine zaA (i:=8) (N:=some 117) (v:=?_) (a':=?_) #[true,true,true,true,true,true,true,true,true] rfl rfl (zay HT_.out (by kernel_rfl)) (fun _ _ _ h=>h) (Or.inl ⟨by rfl,?_⟩) ?_ ?_
   rotate_left
   ·
    intro w'
    go_simp
    with_reducible rfl
   rotate_left
   ·
    simp only [Act.put,List.setIfInBounds_toArray,List.set_cons_zero,List.set_cons_succ,zaq,zar]
    rfl
   refine done_ (done_of HT_.out (by kernel_rfl)) ?_
   clear hHeld
   go_wp2_with fail
   refine(known_q _).mono ?_
   rintro e u4 ⟨rfl,hB⟩
   have hd4:=Aside0.mk (zag hz2.out hB)
   clear hB
   go_wp2
   go_ret
   exact⟨rfl,(HI.out _ hd4.out).2.2⟩
end Go.Proofs.Ytehghijlchpeaaa.Nat1
end
section
namespace Go.Proofs.Ytehghijlchpeaaa.ratField
open Go.ChangeShapes Go.WideShapes Go.ChangeAt Go.RowKit Go.Joins Go.Proofs.Ytehghijlchpeaaa.Nat1
open Go.ChangeMaps (open_string shut_string)
set_option linter.unusedVariables false
theorem own:ownKnob Try.prog.godebug=none:=by kernel_rfl
theorem laidOut:laidOutB Try.prog=true:=by kernel_rfl
set_option maxRecDepth 100000 in
theorem lifted (os:Os) (started:os.Started) (H:Type) (enc:TypeId×Value→H) :
  ReturnsInHanded {} Try.checked os 8 .any (Rows.ratFieldSpec.pre6 enc Try.prog Try.f8 Rows.ratFieldRow.domain false) (Rows.ratFieldSpec.post enc Try.prog Try.f8 false true false false):=by
 refine returnsInHanded_of_change_sized (C:=Try.checked) own started (by kernel_rfl) Try.func8
  (ChangeSpec.witness6 (enc:=enc) (C:=Try.checked) false ⟨#[],#[.agg #[.bool false,.slice none 0 0,.slice none 0 0],.agg #[.bool false,.slice none 0 0,.slice none 0 0],.agg #[.bool false,.slice none 0 0,.slice none 0 0]],[]⟩ 8 (by kernel_rfl) (by kernel_rfl) (by kernel_rfl) (by kernel_rfl)) ?_
 intro W base args ds gs before hval0 hW hcnd hsz0 _
 have hval:∀ (j:Nat) t v,Try.f8.params[j]? = some t→args[j]? = some v→Value.okWide Try.prog W .any base t v:=hval0
 have hW':=hW
 obtain⟨p,q,hA0,hV,rfl,hfz,hnd⟩:=hW
 have hA:DataW.TrodAll enc Try.prog W 0 (fun _=>true) true Try.f8.params.toList args.toList ds p:=hA0
 rw [Try.params8] at hA hval
 obtain⟨v0,vs0,d0,ds0,p0,q0,hargs,rfl,rfl,h0,r0⟩:=trodAll_cons hA
 obtain⟨v1,vs1,d1,ds1,p1,q1,rfl,rfl,rfl,h1,r1⟩:=trodAll_cons r0
 obtain⟨v2,vs2,d2,ds2,p2,q2,rfl,rfl,rfl,h2,r2⟩:=trodAll_cons r1
 obtain⟨rfl,rfl,rfl⟩:=trodAll_nil r2
 obtain rfl:args=#[v0,v1,v2]:=by cases args; simp_all
 obtain⟨rfl,rfl⟩:=trodVars_none hV
 have k0:=h0
 have lt0:∀ x∈p0,x.block < W.heap.size:=by obtain⟨m,hm⟩:=k0; exact DataW.trod_lt m _ _ _ hm
 obtain⟨n0,A0,c0,l0,B0,e0,m0,rfl,⟨hr0,hc0,ho0⟩,⟨hs0,he0,hp0⟩⟩:=rat_arg (hval 0 25 v0 rfl rfl) h0
 have k1:=h1
 have lt1:∀ x∈p1,x.block < W.heap.size:=by obtain⟨m,hm⟩:=k1; exact DataW.trod_lt m _ _ _ hm
 obtain⟨n1,A1,c1,l1,B1,e1,m1,rfl,⟨hr1,hc1,ho1⟩,⟨hs1,he1,hp1⟩⟩:=rat_arg (hval 1 25 v1 rfl rfl) h1
 have k2:=h2
 have lt2:∀ x∈p2,x.block < W.heap.size:=by obtain⟨m,hm⟩:=k2; exact DataW.trod_lt m _ _ _ hm
 obtain⟨n2,A2,c2,l2,B2,e2,m2,rfl,⟨hr2,hc2,ho2⟩,⟨hs2,he2,hp2⟩⟩:=rat_arg (hval 2 25 v2 rfl rfl) h2
 clear hA0 hval0 hsz0
 refine(ratField_q n0 A0 c0 l0 B0 e0 m0 n1 A1 c1 l1 B1 e1 m1 n2 A2 c2 l2 B2 e2 m2 W hr0 hc0 ho0 hs0 he0 hp0 hr1 hc1 ho1 hs1 he1 hp1 hr2 hc2 ho2 hs2 he2 hp2).mono fun e W' ⟨he,bel⟩=>?_
 subst he
 exact⟨_,rfl,_,_,_,[],_,[],hW',trodAll_mk1 (shut_bool Try.underlying4 _),(trodAll_cons_mk (Below.trod laidOut (by kernel_rfl) (of_decide_eq_true (by kernel_rfl)) k0 bel lt0) (trodAll_cons_mk (Below.trod laidOut (by kernel_rfl) (of_decide_eq_true (by kernel_rfl)) k1 bel lt1) (trodAll_cons_mk (Below.trod laidOut (by kernel_rfl) (of_decide_eq_true (by kernel_rfl)) k2 bel lt2) trodAll_mk0))),rfl,bel.frame _,fun h=>by cases h⟩
theorem over:Rows.ratFieldRow.holds Try.pinned (OpenSpec.ofChange Rows.ratFieldSpec) :=
 OpenClaim.holds_of_wide 8 Try.f8 rfl rfl rfl rfl rfl rfl rfl ⟨rfl,rfl,rfl,rfl,rfl⟩ rfl rfl rfl rfl rfl (by kernel_rfl) Try.func8 (by kernel_rfl)
  (of_decide_eq_true (by kernel_rfl)) (by unfold Func.isWrapper; first | (rw [if_pos (by decide +kernel)]; kernel_rfl) | (rw [if_neg (by decide +kernel)]; exact⟨rfl,rfl⟩))
  (fun os started H enc _=>lifted os started H enc)
end Go.Proofs.Ytehghijlchpeaaa.ratField
namespace Go.Proofs.Ytehghijlchpeaaa
theorem ratField_holds:Rows.RatFieldSaid:=ratField.over
end Go.Proofs.Ytehghijlchpeaaa
end
