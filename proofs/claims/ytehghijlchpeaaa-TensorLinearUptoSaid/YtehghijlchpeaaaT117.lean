/- Part 18 of the proof of tensorLinearUpto_holds: what it uses, in build order. -/
import Derived.Test.YtehghijlchpeaaaT116
import Derived.Deep.Slices
set_option maxHeartbeats 8000000
set_option maxRecDepth 100000
set_option linter.unusedVariables false
set_option linter.unusedSimpArgs false
set_option linter.unusedSectionVars false
section
namespace Go.Proofs.Ytehghijlchpeaaa.Nat1
open Go.ChangeShapes Go.WideShapes Go.ChangeAt Go.RowKit Go.Joins Go.Deep YtehghijlchpeaaaW.PrintWords YtehghijlchpeaaaW.PrintLast YtehghijlchpeaaaW.PrintMore L Nt
theorem bulk_one {H:Type} (d:DataW H):1≤Rows.uptoBulk d:=by
 cases d with
 | lit l=>cases l<;>simp [Rows.uptoBulk]
 | nil=>simp [Rows.uptoBulk]
 | ptr d=>simp [Rows.uptoBulk]
 | slice elems spare=>simp [Rows.uptoBulk]
 | agg parts=>simp [Rows.uptoBulk]
 | iface t d=>simp [Rows.uptoBulk]
 | map entries=>simp [Rows.uptoBulk]
 | held h=>simp [Rows.uptoBulk]
theorem bulk_part {H:Type} {d:DataW H} {l:List (DataW H)} (h:d∈l):Rows.uptoBulk d≤Rows.uptoBulkAll l:=by
 induction l with
 | nil=>cases h
 | cons x r ih =>
  simp only [Rows.uptoBulkAll]
  cases List.mem_cons.1 h with
  | inl e=>subst e; omega
  | inr e=>have:=ih e; omega
theorem bulk_len {H:Type} (l:List (DataW H)):l.length≤Rows.uptoBulkAll l:=by
 induction l with
 | nil=>simp [Rows.uptoBulkAll]
 | cons x r ih=>have:=bulk_one x; simp only [Rows.uptoBulkAll,List.length_cons]; omega
theorem bulk_slice {H:Type} (elems spare:List (DataW H)):elems.length+1≤Rows.uptoBulk (.slice elems spare):=by
 have h1:=bulk_len elems
 simp only [Rows.uptoBulk]
 omega
theorem bulk_elem {H:Type} {d:DataW H} {elems spare:List (DataW H)} (h:d∈elems):Rows.uptoBulk d≤Rows.uptoBulk (.slice elems spare):=by
 have:=bulk_part h
 simp only [Rows.uptoBulk]
 omega
theorem bulk_agg {H:Type} {d:DataW H} {parts:List (DataW H)} (h:d∈parts):Rows.uptoBulk d≤Rows.uptoBulk (.agg parts):=by
 have:=bulk_part h
 simp only [Rows.uptoBulk]
 omega
theorem row_len {H:Type} {enc:TypeId×Value→H} {W:World} {m:Nat} {v:Value} {y:DataW H×List MemPlace} {t e:TypeId} {k:IntKind} (ht:Try.prog.underlying t=some (.slice e)) (he:Try.prog.underlying e=some (.int k)) (hc:Try.prog.cellsOf e=1) (h:DataW.trod enc Try.prog W 0 (fun _=>true) true m t [v]=some y) {A:Option Addr} {n c:Nat} (ev:v=.slice A n c):n≤Rows.uptoBulk y.1:=by
 rcases open_ints ht he hc h with ⟨hcs,_⟩ | ⟨x,l,cap,zs,hcs,_,hl,hm,hz,rfl,hcell,hwz⟩
 ·
  injection hcs with hcs _
  rw [ev] at hcs
  injection hcs with _ h2 _
  omega
 ·
  injection hcs with hcs _
  rw [ev] at hcs
  injection hcs with _ h2 _
  have hb:=bulk_slice (H:=H) (lits k (zs.take l)) (lits k (zs.drop l))
  have hll:(lits (H:=H) k (zs.take l)).length=l:=by
   simp at hz
   simp [lits,hz]
   omega
  simp only at hb ⊢
  omega
theorem shape_arg {H:Type} {enc:TypeId×Value→H} {W:World} {m:Nat} {v:Value} {y:DataW H×List MemPlace} (h:DataW.trod enc Try.prog W 0 (fun _=>true) true m 65 [v]=some y) :
  ∃ (A:Option Addr) (c:Nat) (l:List Int),v=.slice A l.length c∧Kd.C (Kd.int .i64) W A l.length l∧l.length≤c:=by
 obtain⟨a,len,cap,zs,rfl,hz⟩:∃ a len cap zs,v=.slice a len cap∧((a=none∧len=0∧cap=0∧zs=[])∨∃ x,a=some x∧len≤cap∧cap≤maxLen∧zs.length=cap∧(∀ i,i < zs.length→W.cell? (x.add i)=some (.int .i64 (zs.getD i 0)))∧∀ n∈zs,(Lit.int .i64 n).wf=true):=by
  rcases open_ints Try.underlying65 Try.underlying3 (by kernel_rfl) h with ⟨hcs,_⟩ | ⟨x,l,c,zs,hcs,_,hl,hm,hz,_,hcell,hwz⟩
  ·
   injection hcs with hcs _
   exact⟨none,0,0,[],hcs,.inl ⟨rfl,rfl,rfl,rfl⟩⟩
  ·
   injection hcs with hcs _
   exact⟨some x,l,c,zs,hcs,.inr ⟨_,rfl,hl,hm,by simpa using hz,hcell,hwz⟩⟩
 obtain⟨l,rfl,hr,hm,hw,hc⟩:=zch.ofRowC hz
 exact⟨a,cap,l,rfl,Kd.C_of_reads (d:=(0:Int)) (h1:=fun _=>rfl) hr,hc⟩
theorem elems_arg {H:Type} {enc:TypeId×Value→H} {W:World} {m:Nat} {v:Value} {y:DataW H×List MemPlace} (h:DataW.trod enc Try.prog W 0 (fun _=>true) true m 62 [v]=some y) :
  ∃ (B:Option Addr) (c:Nat) (es:List M.S25),v=.slice B es.length c∧Kd.C M.k25 W B es.length es∧es.length≤c∧es.length≤Rows.uptoBulk y.1∧∀ x∈es,ok B32 x.f1∧ok B32 x.f2∧x.f1.length≤Rows.uptoBulk y.1∧x.f2.length≤Rows.uptoBulk y.1:=by
 rcases open_slice Try.underlying62 h with ⟨hcs,rfl⟩ | ⟨a,len,cap,mm,n,D,Pl,hcs,hb,hl,hm,hmm,rfl,hx⟩
 ·
  injection hcs with hcs _
  exact⟨none,0,[],hcs,⟨rfl,by decide,fun h=>absurd h (by decide)⟩,Nat.le_refl _,Nat.zero_le _,fun x hx=>by cases hx⟩
 ·
  injection hcs with hcs _
  subst hcs
  have hlm:len≤mm:=by rw [hmm]; simp; exact hl
  have hsz:Try.prog.cellsOf 25=3:=by kernel_rfl
  have each:∀ i,i < len→∃ x:M.S25,(∃ cs,cs.length=3∧M.k25.K W x cs∧∀ j u,cs[j]? = some u→W.cell? (a.add (i*3+j))=some u)∧ok B32 x.f1∧ok B32 x.f2∧x.f1.length≤Rows.uptoBulk (D i)∧x.f2.length≤Rows.uptoBulk (D i):=by
   intro i hi
   obtain⟨cs,h1,h2⟩:=hx i (by omega)
   rw [hsz] at h1
   obtain⟨_,hlen,hcell⟩:=World.cells?_some h1
   obtain⟨y0,y1,y2,k,hxy,_,g0,g1,g2⟩:=trod_struct3 Try.underlying25 h2
   match cs,hlen with
   | [v0,v1,v2],_ =>
    obtain⟨nn,e0,_⟩:=DataW.trod_bool Try.underlying4 (by simpa [show Try.prog.cellsOf 4=1 by kernel_rfl] using g0)
    have g1':DataW.trod enc Try.prog W 0 (fun _=>true) true k 23 [v1]=some y1:=by simpa [show Try.prog.cellsOf 23=1 by kernel_rfl] using g1
    have g2':DataW.trod enc Try.prog W 0 (fun _=>true) true k 23 [v2]=some y2:=by simpa [show Try.prog.cellsOf 23=1 by kernel_rfl] using g2
    obtain⟨A1,c1,p,hp,hp1,hp2,hp3⟩:=nat_arg g1'
    obtain⟨A2,c2,q,hq,hq1,hq2,hq3⟩:=nat_arg g2'
    have b1:=row_len Try.underlying23 Try.underlying63 (by kernel_rfl) g1' hp
    have b2:=row_len Try.underlying23 Try.underlying63 (by kernel_rfl) g2' hq
    simp only [Prod.mk.injEq] at hxy
    have d1:Rows.uptoBulk y1.1≤Rows.uptoBulk (D i):=by rw [hxy.1]; exact bulk_agg (by simp)
    have d2:Rows.uptoBulk y2.1≤Rows.uptoBulk (D i):=by rw [hxy.1]; exact bulk_agg (by simp)
    simp at e0
    subst e0 hp hq
    refine⟨⟨nn,p,q⟩,⟨[.bool nn,.slice A1 p.length c1,.slice A2 q.length c2],rfl,M.k25_mk W ⟨nn,p,q⟩ hp2 hp1 hq2 hq1,?_⟩,hp3,hq3,by show p.length≤_; omega,by show q.length≤_; omega⟩
    intro j u hu
    have hj:j < 3:=by
     have:=(List.getElem?_eq_some_iff.1 hu).1
     simpa using this
    have:=hcell j hj
    rw [Go.Deep.add_add] at this
    rw [this]
    exact hu
  have:Inhabited M.S25:=⟨M.z25⟩
  obtain⟨X,hX⟩:=choose_lt each
  have hDl:∀ i,i < len→Rows.uptoBulk (D i)≤Rows.uptoBulk (DataW.slice ((List.range len).map D) ((List.range (mm-len)).map fun j=>D (len+j))):=fun i hi=>bulk_elem (List.mem_map.2 ⟨i,List.mem_range.2 hi,rfl⟩)
  have hlen:((List.range len).map X).length=len:=by simp
  have hmem:∀ x∈(List.range len).map X,∃ i,i < len∧x=X i:=fun x hx=>by
   obtain⟨i,hi,rfl⟩:=List.mem_map.1 hx
   exact⟨i,List.mem_range.1 hi,rfl⟩
  refine⟨some a,cap,(List.range len).map X,by rw [hlen],?_,by rw [hlen]; exact hl,?_,?_⟩
  ·
   rw [hlen]
   refine⟨by simp,Nat.le_trans hl (Nat.le_trans hm (by decide)),fun _=>⟨a,rfl,fun j p hp=>?_⟩⟩
   obtain⟨hj,rfl⟩:j < len∧X j=p:=by
    have h1:=List.getElem?_eq_some_iff.1 hp
    obtain⟨h1,h2⟩:=h1
    simp at h1 h2
    exact⟨h1,h2⟩
   exact(hX j hj).1
  ·
   rw [hlen]
   have:=bulk_slice (H:=H) ((List.range len).map D) ((List.range (mm-len)).map fun j=>D (len+j))
   simp at this ⊢
   omega
  ·
   intro x hx
   obtain⟨i,hi,rfl⟩:=hmem x hx
   have:=hDl i hi
   obtain⟨_,h1,h2,h3,h4⟩:=hX i hi
   exact⟨h1,h2,Nat.le_trans h3 this,Nat.le_trans h4 this⟩
theorem tensor_arg {H:Type} {enc:TypeId×Value→H} {W:World} {r:Reach} {b0:Nat} {v:Value} {d:DataW H} {p:List MemPlace} (hv:Value.okWide Try.prog W r b0 67 v) (h:DataW.Trod enc Try.prog W 0 (fun _=>true) true 67 v d p) (hk:Rows.uptoBulk d≤1048576) :
  ∃ (A:Option Addr) (c:Nat) (sh:List Int) (B:Option Addr) (cc:Nat) (es:List M.S25),v=.agg #[.slice A sh.length c,.slice B es.length cc]∧(Kd.C (Kd.int .i64) W A sh.length sh∧sh.length≤c∧sh.length≤1048576)∧(Kd.C M.k25 W B es.length es∧es.length≤cc∧es.length≤1048576)∧∀ x∈es,eOk x∧x.f1.length≤1048576∧x.f2.length≤1048576:=by
 obtain⟨v0,v1,y0,y1,m,rfl,rfl,rfl,hy0,hy1⟩:=open_agg2 Try.underlying67 (by kernel_rfl) (by kernel_rfl) hv h
 obtain⟨A,c,sh,e1,h1,h2⟩:=shape_arg hy0
 have b1:=row_len Try.underlying65 Try.underlying3 (by kernel_rfl) hy0 e1
 obtain⟨B,cc,es,e2,g1,g2,g3,g4⟩:=elems_arg hy1
 have d1:Rows.uptoBulk y0.1≤1048576:=Nat.le_trans (bulk_agg (by simp)) hk
 have d2:Rows.uptoBulk y1.1≤1048576:=Nat.le_trans (bulk_agg (by simp)) hk
 subst e1 e2
 refine⟨A,c,sh,B,cc,es,rfl,⟨h1,h2,by omega⟩,⟨g1,g2,by omega⟩,fun x hx=>?_⟩
 obtain⟨k1,k2,k3,k4⟩:=g4 x hx
 exact⟨⟨⟨k1,by omega⟩,⟨k2,by omega⟩⟩,by omega,by omega⟩
theorem rat_argB {H:Type} {enc:TypeId×Value→H} {W:World} {r:Reach} {b0:Nat} {v:Value} {d:DataW H} {p:List MemPlace} (hv:Value.okWide Try.prog W r b0 25 v) (h:DataW.Trod enc Try.prog W 0 (fun _=>true) true 25 v d p) (hk:Rows.uptoBulk d≤1048576) :
  ∃ (n:Bool) (A1:Option Addr) (c1:Nat) (p:List Int) (A2:Option Addr) (c2:Nat) (q:List Int),v=.agg #[.bool n,.slice A1 p.length c1,.slice A2 q.length c2] ∧
   (Kd.C (Kd.int .u32) W A1 p.length p∧p.length≤c1∧ok B32 p)∧(Kd.C (Kd.int .u32) W A2 q.length q∧q.length≤c2∧ok B32 q)∧p.length≤1048576∧q.length≤1048576:=by
 obtain⟨b0,b1,b2,y0,y1,y2,m,rfl,rfl,rfl,hy0,hy1,hy2⟩:=open_agg3 Try.underlying25 (by kernel_rfl) (by kernel_rfl) hv h
 obtain⟨n,e0,_⟩:=DataW.trod_bool Try.underlying4 hy0
 obtain⟨A1,c1,p,e1,h1⟩:=nat_arg hy1
 obtain⟨A2,c2,q,e2,h2⟩:=nat_arg hy2
 have b1:=row_len Try.underlying23 Try.underlying63 (by kernel_rfl) hy1 e1
 have b2:=row_len Try.underlying23 Try.underlying63 (by kernel_rfl) hy2 e2
 have d1:Rows.uptoBulk y1.1≤1048576:=Nat.le_trans (bulk_agg (by simp)) hk
 have d2:Rows.uptoBulk y2.1≤1048576:=Nat.le_trans (bulk_agg (by simp)) hk
 simp at e0
 subst e0 e1 e2
 exact⟨n,A1,c1,p,A2,c2,q,rfl,h1,h2,by omega,by omega⟩
end Go.Proofs.Ytehghijlchpeaaa.Nat1
end
section
namespace Go.Proofs.Ytehghijlchpeaaa.Ev
open Go.RowKit YtehghijlchpeaaaW.PrintWords YtehghijlchpeaaaW.PrintLast YtehghijlchpeaaaW.PrintMore L Nt Nat1
theorem eMay_ev {x:M.S25} (h:eOk x):Ev (fun k=>fluxionref03_May.f k x.f0 x.f1 x.f2) (eV x):=mayR_ev h.1 h.2
theorem refTMay_loop {sh:List Int} {es:List M.S25} (hk:∀ x∈es,eOk x) (hl:es.length≤4611686018427387904) (j:Nat):∀ i:Nat,i+j=es.length→(∀ i':Nat,i' < i→eV (M.rd_T25 es (i':Int))=0) →
  ∃ r:Int,(r=0∨r=6)∧(r=0 ↔ ∀ x∈es,eV x=0)∧Ev (fun k=>M.fluxionref07_May.l0 k (i:Int) sh es) r:=by
 induction j with
 | zero =>
  intro i hi ha
  refine⟨0,Or.inl rfl,⟨fun _=>all_of_rd (fun i' hi'=>ha i' (by omega)),fun _=>rfl⟩,Ev.succ (Ev.congr (Ev.some _) (fun k=>?_))⟩
  rw [M.fluxionref07_May.l0,if_neg (by omega)]
 | succ j ih =>
  intro i hi ha
  have h0:=eMay_ev (rd_ok hk i)
  by_cases h:eV (M.rd_T25 es (i:Int))=0
  ·
   obtain⟨r,h1,h2,h3⟩:=ih (i+1) (by omega) (fun i' hi'=>by
    rcases Nat.lt_or_ge i' i with h4 | h4
    ·
     exact ha i' h4
    ·
     have:i'=i:=by omega
     rw [this]; exact h)
   refine⟨r,h1,h2,Ev.succ (Ev.congr (Ev.bind h0 (G:=fun k t=>if t=0 then M.fluxionref07_May.l0 k (wrap64 ((i:Int)+1)) sh es else some 6) (b:=r) (Ev.congr h3 (fun k=>?_))) (fun k=>?_))⟩
   ·
    rw [if_pos h,w_succ (by omega)]
   ·
    rw [M.fluxionref07_May.l0,if_pos (by omega),if_pos (by omega)]
  ·
   refine⟨6,Or.inr rfl,⟨fun e=>absurd e (by decide),fun e=>absurd (e _ (rd_mem (by omega))) h⟩,Ev.succ (Ev.congr (Ev.bind h0 (G:=fun k t=>if t=0 then M.fluxionref07_May.l0 k (wrap64 ((i:Int)+1)) sh es else some 6) (b:=6) (Ev.congr (Ev.some _) (fun k=>?_))) (fun k=>?_))⟩
   ·
    rw [if_neg h]
   ·
    rw [M.fluxionref07_May.l0,if_pos (by omega),if_pos (by omega)]
theorem refTMay_ev {sh:List Int} {es:List M.S25} (hk:∀ x∈es,eOk x) (hl:es.length≤4611686018427387904):Ev (fun k=>M.fluxionref07_May.f k sh es) (tmayV sh es):=by
 have h0:=refMay6_ev sh
 have h1:=refCount6_ev sh
 obtain⟨r,hr,hr2,h2⟩:=refTMay_loop (sh:=sh) hk hl es.length 0 (by omega) (fun i hi=>absurd hi (by omega))
 have hG:Ev (fun k=>(M.fluxionref06_May.f k sh).bind fun t=>if t=0 then ((M.fluxionref06_Count.f k sh).bind fun u=>if (es.length:Int)=u then M.fluxionref07_May.l0 k 0 sh es else some 13) else some t) (tmayV sh es):=by
  refine Ev.bind h0 (G:=fun k t=>if t=0 then ((M.fluxionref06_Count.f k sh).bind fun u=>if (es.length:Int)=u then M.fluxionref07_May.l0 k 0 sh es else some 13) else some t) ?_
  unfold tmayV fitV
  by_cases h:mayS sh=0
  ·
   rw [if_pos h]
   refine Ev.congr (Ev.bind h1 (G:=fun k u=>if (es.length:Int)=u then M.fluxionref07_May.l0 k 0 sh es else some 13) (b:=_) ?_) (fun k=>by rw [if_pos h])
   by_cases hc:(es.length:Int)=cntS sh
   ·
    rw [if_pos hc,if_pos rfl]
    have er:(if ∀ x∈es,eV x=0 then (0:Int) else 6)=r:=by
     by_cases h4:∀ x∈es,eV x=0
     ·
      rw [if_pos h4,hr2.2 h4]
     ·
      rw [if_neg h4]
      rcases hr with h5 | h5
      ·
       exact absurd (hr2.1 h5) h4
      ·
       exact h5.symm
    rw [er]
    exact Ev.congr h2 (fun k=>by rw [if_pos hc]; rfl)
   ·
    rw [if_neg hc,if_neg (by decide)]
    exact Ev.congr (Ev.some _) (fun k=>by rw [if_neg hc])
  ·
   rw [if_neg h,if_neg h]
   exact Ev.congr (Ev.some _) (fun k=>by rw [if_neg h])
 refine Ev.congr hG (fun k=>?_)
 rw [M.fluxionref07_May.f]
end Go.Proofs.Ytehghijlchpeaaa.Ev
namespace Go.Proofs.Ytehghijlchpeaaa.Nat1
open Go.RowKit YtehghijlchpeaaaW.PrintWords YtehghijlchpeaaaW.PrintLast YtehghijlchpeaaaW.PrintMore L Nt Ev
theorem reftmay_n {A:Option Addr} {c:Nat} {sh:List Int} {B:Option Addr} {d:Nat} {es:List M.S25} {w:World} (hr1:Kd.C (Kd.int .i64) w A sh.length sh) (hc1:sh.length≤c) (hr2:Kd.C M.k25 w B es.length es) (hc2:es.length≤d) (hlen:es.length≤4398046511104) (hok:∀ x∈es,eOk x) :
  Calls Try.prog 52 #[.agg #[.slice A sh.length c,.slice B es.length d]] w fun e w'=>e=.returned (.int .i64 (tmayV sh es))∧Below w.heap.size w w':=by
 obtain⟨k,hk⟩:=refTMay_ev (sh:=sh) hok (Nat.le_trans hlen (by decide))
 exact M.fluxionref07_May.calls k A c sh B d es _ w hr1 hc1 hr2 hc2 (hk k (Nat.le_refl _))
end Go.Proofs.Ytehghijlchpeaaa.Nat1
end
section
namespace Go.Proofs.Ytehghijlchpeaaa.Nat1
open Go.RowKit YtehghijlchpeaaaW.PrintWords YtehghijlchpeaaaW.PrintLast YtehghijlchpeaaaW.PrintMore L Nt Ev
def eN (x:M.S25):QN:=nrm x.f0 (val B32 x.f1) (val B32 x.f2)
theorem EL.nr {w:World} {v:Value} {x:M.S25} (h:EL w v x) (hk:eOk x):NR w v (eN x):=by
 obtain⟨A1,c1,A2,c2,rfl,h1,h2⟩:=h
 exact⟨x.f0,A1,c1,x.f1,A2,c2,x.f2,rfl,⟨h1.1,h1.2,hk.1⟩,⟨h2.1,h2.2,hk.2⟩,rfl⟩
theorem at_n {A:Option Addr} {c:Nat} {sh:List Int} {B:Option Addr} {d:Nat} {es:List M.S25} {I:Option Addr} {ci:Nat} {idx:List Int} {k o:Nat} {w:World} (hr1:Kd.C (Kd.int .i64) w A sh.length sh) (hc1:sh.length≤c) (hr2:Kd.C M.k25 w B es.length es) (hc2:es.length≤d) (hlen:es.length≤4398046511104) (hok:∀ x∈es,eOk x)
  (hr3:Kd.C (Kd.int .i64) w I idx.length idx) (hc3:idx.length≤ci) (hm:tmayV sh es=0) (ho:M.shape_Offset.f k sh idx=some ((o:Int),0)) (hoe:o < es.length) :
  Calls Try.prog 88 #[.agg #[.slice A sh.length c,.slice B es.length d],.slice I idx.length ci] w (RTE w (eN (M.rd_T25 es (o:Int))) 0):=by
 have hu67:=Try.underlying67
 have hu25:=Try.underlying25
 have HM:=Aside0.mk (fun (W:World) (hb:Below w.heap.size w W)=>tmay_n A c sh B d es W (Kd.C_below hr1 hb) hc1 (Kd.C_below hr2 hb) hc2 hlen hok)
 have HO:=Aside0.mk (fun (W:World) (hb:Below w.heap.size w W)=>M.shape_Offset.calls k A c sh I ci idx _ _ W (Kd.C_below hr1 hb) hc1 (Kd.C_below hr3 hb) hc3 ho)
 have HC:=Aside0.mk hr2
 have HK:=Aside0.mk (rd_ok hok o)
 rw [hm] at HM
 clear hr1 hr2 hr3 hok hm ho
 go_enter Try.func88,Try.ntmps88
 go_wp2_with fail
 have hx0:=zbw (zbL w (.cells #[.slice A sh.length c,.slice B es.length d] 67)) (.cells #[.bool false,.slice none 0 0,.slice none 0 0] 25)
 have hx1:=zbL (w.alloc (.cells #[.slice A sh.length c,.slice B es.length d] 67)) (.cells #[.bool false,.slice none 0 0,.slice none 0 0] 25)
 rw [show (w.alloc (.cells #[.slice A sh.length c,.slice B es.length d] 67)).heap.size=w.heap.size+1 by simp] at hx1
 have hbw:Below w.heap.size w ((w.alloc (.cells #[.slice A sh.length c,.slice B es.length d] 67)).alloc (.cells #[.bool false,.slice none 0 0,.slice none 0 0] 25)):=zbq (zbq (Below.refl _ _) _) _
 generalize (w.alloc (.cells #[.slice A sh.length c,.slice B es.length d] 67)).alloc (.cells #[.bool false,.slice none 0 0,.slice none 0 0] 25)=W0 at hx0 hx1 hbw ⊢
 refine(HM.out W0 hbw).mono ?_
 rintro e W1 ⟨rfl,hB⟩
 replace hx0:=zbt hx0 hB
 replace hx1:=zbt hx1 hB
 replace hbw:=zbp hbw hB
 have c0:W1.cell? ⟨w.heap.size,0,none⟩=some (.slice A sh.length c):=(zbu hx0 0).trans rfl
 have HX:=Aside0.mk (And.intro hx0 (And.intro hx1 hbw))
 clear hx0 hx1 hbw hB HM
 go_wp2_with fail
 clear c0
 refine(HO.out W1 HX.out.2.2).mono ?_
 rintro e W2 ⟨rfl,hB⟩
 have hB2:Below W1.heap.size W1 W2:=by first | exact hB | (obtain⟨m,rfl⟩:=hB.out; exact zbr (Below.refl _ _) m)
 replace HX:=Aside0.mk (And.intro (zbt HX.out.1 hB2) (And.intro (zbt HX.out.2.1 hB2) (zbp HX.out.2.2 hB2)))
 clear hB hB2 HO
 obtain⟨ad,A1,c1,A2,c2,e1,q0,q1,q2,l1,g1,l2,g2⟩:=M.at_T25 (Kd.C_below HC.out HX.out.2.2) (o:Int) (by omega) (by omega)
 subst e1
 rw [Int.toNat_natCast] at q0 q1 q2
 have HE:=Aside0.mk (norm_n (EL.nr (w:=W2) (x:=M.rd_T25 es (o:Int)) ⟨A1,c1,A2,c2,rfl,⟨g1,l1⟩,⟨g2,l2⟩⟩ HK.out))
 have d1:W2.cell? ⟨w.heap.size,1,none⟩=some (.slice (some ad) es.length d):=(zbu HX.out.1 1).trans rfl
 clear g1 g2 l1 l2
 go_wp2_with fail
 clear d1 q0 q1 q2
 refine HE.out.mono ?_
 rintro e W3 ⟨v,rfl,hR,hB⟩
 obtain⟨D1,m1,D2,m2,rfl,-,-⟩:=hR.args
 have hz:=zbt HX.out.2.1 hB
 have HR:=Aside0.mk (And.intro hR (And.intro hz (zbp HX.out.2.2 hB)))
 obtain⟨⟨z0,z1,z2⟩,z3,z4,z5⟩:=zbM hz
 have hsz:=HX.out.2.2.size
 have HSZ:=Aside0.mk hsz
 clear hR hB hz hsz
 go_wp2
 refine bodyPost_ret (results_ct rfl _ _ (w.heap.size+1) 25 _ (0,0) _ rfl (zb0 HR.out.2.1 _ _ _) Try.underlying25 rfl (by kernel_rfl)) rfl ?_
 exact⟨_,_,_,_,rfl,(HR.out.1.store3 HR.out.2.1 _ _ _).lower HSZ.out,zbZ HR.out.2.2 (by omega) _ _ _⟩
end Go.Proofs.Ytehghijlchpeaaa.Nat1
end
section
namespace Go.Proofs.Ytehghijlchpeaaa.Nat1
open Go.RowKit Go.Shelf YtehghijlchpeaaaW.PrintWords YtehghijlchpeaaaW.PrintLast YtehghijlchpeaaaW.PrintMore L Nt Ev Rd
attribute [local go_sem] Oper.semAt_some
def eB (x:M.S25):Int:=mx (nb (eN x).2.1:Int) (nb (eN x).2.2:Int)
def bitsL (n:Int) (es:List M.S25):Int:=es.foldl (fun n x=>max n (eB x)) n
theorem rd_range (es:List M.S25):(List.range es.length).map (fun i:Nat=>M.rd_T25 es (i:Int))=es:=by
 apply List.ext_getElem
 ·
  simp
 ·
  intro i h1 h2
  simp [M.rd_T25,List.getD_eq_getElem?_getD,List.getElem?_eq_getElem h2]
theorem tbits_n (A:Option Addr) (n c:Nat) (B:Option Addr) (d:Nat) (es:List M.S25) (w:World) (hr2:Kd.C M.k25 w B es.length es) (hc2:es.length≤d) (hlen:es.length≤4398046511104) (hok:∀ x∈es,eOk x) :
  Calls Try.prog 90 #[.agg #[.slice A n c,.slice B es.length d]] w fun e w'=>e=.returned (.int .i64 (bitsL 0 es))∧Below w.heap.size w w':=by
 have hu67:=Try.underlying67
 have hu25:=Try.underlying25
 obtain⟨ev,hev,hec⟩:=evs hr2
 have HEV:=Aside0.mk hev
 have HEC:=Aside0.mk hec
 have HOK:=Aside0.mk (fun i:Nat=>rd_ok hok i)
 clear hr2 hok hev hec
 refine(callsIn_wide (n:=3)).1 ?_
 refine callsIn_of_wp_marks Try.func90 rfl trivial ?_ rfl
 simp only [Try.ntmps90,List.size_toArray,List.length_cons,List.length_nil,Nat.reduceAdd,Nat.reduceSub,Array.replicate_succ,Array.replicate_zero,List.push_toArray,List.append_toArray,List.nil_append,List.cons_append]
 gi_wp2_with fail
 have hx1:=zbL (w.alloc (.cells #[.slice A n c,.slice B es.length d] 67)) (.cells #[.int .i64 0] 3 (0,0))
 rw [show (w.alloc (.cells #[.slice A n c,.slice B es.length d] 67)).heap.size=w.heap.size+1 by simp] at hx1
 have hbw:Below w.heap.size w ((w.alloc (.cells #[.slice A n c,.slice B es.length d] 67)).alloc (.cells #[.int .i64 0] 3 (0,0))):=zbq (zbq (Below.refl _ _) _) _
 generalize (w.alloc (.cells #[.slice A n c,.slice B es.length d] 67)).alloc (.cells #[.int .i64 0] 3 (0,0))=W0 at hx1 hbw ⊢
 have HX:=Aside0.mk (And.intro hx1 hbw)
 clear hx1 hbw
 refine⟨trivial,(callsIn_wide.2 (of_t W0 A n c B es.length d)).mono ?_⟩
 rintro e W2 ⟨rfl,hB⟩
 replace HX:=Aside0.mk (And.intro (zbt HX.out.1 hB) (zbp HX.out.2 hB))
 clear hB
 gi_wp2_with fail
 refine⟨trivial,(callsIn_wide.2 (all_calls (.slice A n c) (.slice B es.length d) W2)).mono ?_⟩
 rintro e W3 ⟨rfl,hG,hB⟩
 replace HX:=Aside0.mk (And.intro (zbt HX.out.1 hB) (zbp HX.out.2 hB))
 have HG:=Aside0.mk hG
 clear hG hB
 gi_wp2_with fail
 refine wpIn_rangeFunc_ownH rfl (by omega) (gf:=110) (lb:=#[.pointer (some ⟨W2.heap.size,0,none⟩)]) rfl trivial (zcv Try.func110 (by kernel_rfl) rfl)
  (all_stops Fence.wide _ trivial rfl (by omega) W2.heap.size w.heap.size es.length hlen (.slice A n c) B d ev w W3 HX.out.2 (Nat.le_refl _) HX.out.2.size HEC.out HG.out) belowK_t (belowK_b HX.out.2.size) (Below.refl _ _) (fun _=>rfl)
  (fun (pre:List Nat) W=>Below w.heap.size w W∧W.heap[w.heap.size+1]? = some (.cells #[.int .i64 (bitsL 0 (pre.map (fun i:Nat=>M.rd_T25 es (i:Int))))] 3 (0,0)))
  (fun _ _ _=>False)
  ?hI ?hIx ?h0
  (fun (x:Nat) a' W=>∃ (b:Nat) (p q r:Value),a'={ tmps:=#[.agg #[.slice A n c,.slice B es.length d],.pointer (some ⟨w.heap.size,0,none⟩),.pointer (some ⟨w.heap.size+1,0,none⟩),undef,.pointer (some ⟨b,0,none⟩),.agg #[.slice A n c,.slice B es.length d],.agg #[.slice A n c,.slice B es.length d],.func (.func 110) #[] #[.pointer (some ⟨W2.heap.size,0,none⟩)],.int .i64 (x:Int),ev x,undef,undef,undef,undef,undef],defers:=[] }∧ev x=.agg #[p,q,r]∧w.heap.size≤b∧b≠w.heap.size+1∧W.heap[b]? = some (.cells #[p,q,r] 25 (0,0)))
  ?hAx ?assign ?body ?done ?stop
 case hI =>
  rintro pre X Y row ⟨hs1,hs2⟩ hg hr
  exact⟨ownFrom_below (β:=List Nat) (Nat.le_refl _) HX.out.2.size pre X Y row hs1 hg hr,(hg.block _ (lt_of_block hs2) (fun e=>by have h1:=(hr _ e.symm).1; have h2:=lt_of_block HX.out.1; omega)).trans hs2⟩
 case hIx=>exact fun c s W W' row hs hg hr=>hs
 case h0=>exact⟨HX.out.2,HX.out.1⟩
 case hAx =>
  rintro x a' s X Y row ⟨b,p,q,r,h1,h2,h3,h5,h4⟩ hg hr
  refine⟨b,p,q,r,h1,h2,h3,h5,(hg.block b (lt_of_block h4) (fun e=>?_)).trans h4⟩
  obtain⟨_,o,ho,hc⟩:=hr b e.symm
  rw [h4] at ho
  cases ho
  cases hc
 case assign =>
  rintro l pre x W K ⟨hB,hc⟩ hK
  obtain⟨A1,c1,A2,c2,hex,-,-⟩:=HEV.out x
  rw [hex]
  have HK2:=Aside0.mk hK
  clear hK
  gi_wp2_with fail
  have hA:=zbq (Below.refl W.heap.size W) (.cells #[.bool (M.rd_T25 es (x:Int)).f0,.slice A1 (M.rd_T25 es (x:Int)).f1.length c1,.slice A2 (M.rd_T25 es (x:Int)).f2.length c2] 25)
  exact HK2.out _ _ ((keepsO hA).from _) (hA.mono hB.size) ⟨zbq hB _,zbw hc _⟩ ⟨W.heap.size,_,_,_,by rw [hex],hex,hB.size,Nat.ne_of_gt (zbQ hc),zbL W _⟩
 case body =>
  rintro l pre x a' W hl hr ⟨hB,hc⟩ ⟨b,p,q,r,rfl,hex,hb,hbne,hbk⟩ hlen2
  generalize hacc:bitsL 0 (pre.map (fun i:Nat=>M.rd_T25 es (i:Int)))=acc at hc
  have HAC:=Aside0.mk hacc
  have HM:=Aside0.mk (fun (W':World) (h:Below W.heap.size W W')=>bits_n (EL.nr ((HEV.out x).below (zbp hB h)) (HOK.out x)))
  rw [hex] at HM
  have HY:=Aside0.mk (And.intro hB (And.intro hc (And.intro hbk hbne)))
  clear hB hc hr hacc hbk hbne
  gi_wp2_with fail
  have HF:Aside0 (∀ w':World,Below W.heap.size W w'→(w'.cell? ⟨w.heap.size+1,0,none⟩=some (.int .i64 acc)∧w'.cell? ⟨b,0,none⟩=some p∧w'.cell? ⟨b,1,none⟩=some q∧w'.cell? ⟨b,2,none⟩=some r)∧w'.heap[w.heap.size+1]? = some (.cells #[.int .i64 acc] 3 (0,0))):=⟨fun w' h=>⟨⟨(zbu (zbt HY.out.2.1 h) 0).trans rfl,(zbu (zbt HY.out.2.2.1 h) 0).trans rfl,(zbu (zbt HY.out.2.2.1 h) 1).trans rfl,(zbu (zbt HY.out.2.2.1 h) 2).trans rfl⟩,zbt HY.out.2.1 h⟩⟩
  refine start_round (m:=5) (S:=fun w'=>(w'.cell? ⟨w.heap.size+1,0,none⟩=some (.int .i64 acc)∧w'.cell? ⟨b,0,none⟩=some p∧w'.cell? ⟨b,1,none⟩=some q∧w'.cell? ⟨b,2,none⟩=some r)) (ds:=[4]) #[zf,zf,zf,zf,zf] (by kernel_rfl) (by kernel_rfl) (by rintro⟨a,w,h⟩; exact h) rfl rfl ((HF.out _ (zbv (Below.refl _ _))).1) (fun hHeld=>?_)
  have hb0:=Aside0.mk (show Below W.heap.size W W.drew from zbv (Below.refl _ _))
  generalize W.drew=V0 at hb0 hHeld ⊢
  refine qt 0 (some 10) ?_
  refine qt 1 (some 11) ?_
  refine qo 2 (some 12) (fun K hK=>?_)
  refine qg Try.func46 #[.agg #[p,q,r]] ?_
  refine(HM.out V0 hb0.out).mono ?_
  rintro e V1 ⟨rfl,hB⟩
  refine⟨_,rfl,?_⟩
  have hb1:=Aside0.mk (zbp hb0.out hB)
  clear hB hb0
  refine hK.out _ _ ((HF.out _ hb1.out).1) (fun hHeld=>?_)
  clear hK K
  refine qn ?_
  refine qp 3 (some 13) ?_
  refine ql 4 none (fun K hK=>?_)
  have hf3:=zbD (HF.out _ hb1.out).2 0
  have hc3:=(HF.out _ hb1.out).1.1
  refine qx ?_
  refine hK.out _ _ ?_
  clear hK K
  refine done_ (by kernel_rfl) ?_
  have hE:bitsL 0 ((pre++[x]).map (fun i:Nat=>M.rd_T25 es (i:Int)))=max acc (eB (M.rd_T25 es (x:Int))):=by
   rw [List.map_append,bitsL,List.foldl_append]
   show max (bitsL 0 _) _=_
   rw [HAC.out]
  refine⟨((keepsO hb1.out).trans (KeepsOthers.setCell _ _ _)).from _,(hb1.out.mono HY.out.1.size).trans ((Below.refl w.heap.size V1).setCell (p:=⟨w.heap.size+1,0,none⟩) (by simp) _),⟨(zbp HY.out.1 hb1.out).setCell (p:=⟨w.heap.size+1,0,none⟩) (by simp) _,?_⟩⟩
  rw [hE]
  exact one_setCell (HF.out _ hb1.out).2
 case done =>
  rintro D ys W hD rfl ⟨hB,y2⟩ hK
  rw [rd_range] at y2
  have q2:=cell_of_one y2
  have f2:=free_of_one y2
  gi_wp2
  have hK':=(KeepsOthers.setCell W ⟨w.heap.size+1,0,none⟩ (.int .i64 (bitsL 0 es))).same D _ hK rfl
  refine⟨by simp,.inl ⟨_,_,rfl,run_takeDeferred hK',?_⟩⟩
  have hc5:=cell_kept (cell_of_one (one_setCell y2 (u:=.int .i64 (bitsL 0 es)))) (grownBy_putObj' _ D (.deferred none)) (fun r e=>by cases e; exact⟨_,hK',rfl⟩)
  refine⟨.int .i64 (bitsL 0 es),?_,rfl,(hB.setCell (p:=⟨w.heap.size+1,0,none⟩) (by simp) _).trans (belowK_b (w:=w) (Nat.le_refl _) _ D _ _ (Nat.le_trans HX.out.2.size hD) hK' rfl rfl)⟩
  simp [results,Try.f90,go_sem,hc5]
 case stop =>
  rintro D cd pre W hD hpre hF hK
  exact hF.elim
end Go.Proofs.Ytehghijlchpeaaa.Nat1
end
section
noncomputable section
namespace Go.Proofs.Ytehghijlchpeaaa.J
open Go.RowKit Ytehghijlchpeaaa.H Ytehghijlchpeaaa.L Ytehghijlchpeaaa.Nat1 YtehghijlchpeaaaW.PrintWords YtehghijlchpeaaaW.PrintLast YtehghijlchpeaaaW.PrintMore
attribute [local go_sem] zb6 zb4 zca zcb zbY zbX zb5 zb7   -- for this text's walks alone
end Go.Proofs.Ytehghijlchpeaaa.J
end
end
section
noncomputable section
namespace Go.Proofs.Ytehghijlchpeaaa.M
open Go.RowKit Ytehghijlchpeaaa.H Ytehghijlchpeaaa.J Ytehghijlchpeaaa.L Ytehghijlchpeaaa.Nat1 YtehghijlchpeaaaW.PrintWords YtehghijlchpeaaaW.PrintLast YtehghijlchpeaaaW.PrintMore
attribute [local go_sem] zb6 zb4 zca zcb zbY zbX zb5 zb7   -- for this text's walks alone
def fluxionref01_Short.l0:Nat→List Int→Int→List Int→Int→Int→Option (List Int×Int)
 | 0,_,_,_,_,_=>none
 | k+1,x0,x1,x6,x7,x8=>if x8 ≥ 0 then (if 0≤x8 then (if x8 < (x0.length:Int) then (if x1=0 then (none) else (if x8 < (x6.length:Int) then (fluxionref01_Short.l0 k x0 x1 (x6.set (x8:Int).toNat (wrap64 (Int.tdiv (wrap64 ((wrap64 (x7*10000))+(rd x0 x8))) x1))) (Int.tmod (wrap64 ((wrap64 (x7*10000))+(rd x0 x8))) x1) (wrap64 (x8-1))) else (none))) else (none)) else (none)) else ((fluxionref01_trim.f k x6).bind fun t143=>(some (t143,x7)))
def fluxionref01_Short.f (k:Nat) (l0:List Int) (a1:Int):Option (List Int×Int):=if 0≤(l0.length:Int) then (if ((l0.length:Int):Int).toNat≤35184372088832 then (fluxionref01_Short.l0 k l0 a1 (List.replicate ((l0.length:Int):Int).toNat 0) 0 (wrap64 ((l0.length:Int)-1))) else (none)) else (none)
theorem fluxionref01_Short.calls (k:Nat) (A0:Option Addr) (c0:Nat) (l0:List Int) (a1:Int) (r1:List Int) (r2:Int) (w:World) (hr0:Kd.C (Kd.int .i64) w A0 l0.length l0) (hc0:l0.length≤c0) (h:fluxionref01_Short.f k l0 a1=some (r1,r2)) :
  Calls Try.prog 107 #[.slice A0 l0.length c0,.int .i64 a1] w fun e w'=>∃ v0_:Value,e=.returned (.tuple #[v0_,.int .i64 r2])∧Kd.R (Kd.int .i64) 3 w' w.heap.size (fun _=>True) v0_ r1∧Below w.heap.size w w':=by
 have HR0:=Aside0.mk hr0
 have HC0:=Aside0.mk hc0
 clear hr0 hc0
 have HB:=Aside0.mk (Below.refl w.heap.size w)
 have H:(if 0≤(l0.length:Int) then (if ((l0.length:Int):Int).toNat≤35184372088832 then (fluxionref01_Short.l0 k l0 a1 (List.replicate ((l0.length:Int):Int).toNat 0) 0 (wrap64 ((l0.length:Int)-1))) else (none)) else (none))=some (r1,r2):=h
 clear h
 by_cases c3:0≤(l0.length:Int)
 ·
  rw [if_pos c3] at H
  have c3b0:=eq_true c3
  have c3b1:decide (0≤(l0.length:Int))=true:=decide_eq_true c3
  clear c3
  by_cases c4:((l0.length:Int):Int).toNat≤35184372088832
  ·
   rw [if_pos c4] at H
   have c4b0:=eq_true c4
   have c4b1:decide (((l0.length:Int):Int).toNat≤35184372088832)=true:=decide_eq_true c4
   clear c4
   obtain⟨y138,hy138⟩:∃ y_:List Int,y_=(List.replicate ((l0.length:Int):Int).toNat 0):=⟨_,rfl⟩
   replace H:(fluxionref01_Short.l0 k l0 a1 y138 0 (wrap64 ((l0.length:Int)-1)))=some (r1,r2):=by first | (rw [hy138]; with_reducible exact H) | (have H2_:=(Option.bind_some _ _).symm.trans H; rw [hy138]; with_reducible exact H2_) | (have H2_:=(Option.bind_some _ _).symm.trans H; with_reducible exact H2_) | with_reducible exact H | (rw [hy138]; exact H) | exact H
   have Ny138:=Aside0.mk hy138
   clear hy138
   have H':=Aside0.mk H
   clear H
   go_enter Try.func107,Try.ntmps107
   go_wp2_with (first | ((with_reducible refine zbG (N:=12) rfl ?_); refine Kd.R_make (Kd.int .i64) _ 3 rfl (N:=12) rfl 34 _ _ rfl (l0.length:Int) rfl rfl Try.underlying34 (.int .i64 0) 8 info3 rfl (by decide) (by omega) 0 (ok:=fun _=>True) (okp:=fun _=>True) rfl (fun _ hk=>hk) trivial (of_decide_eq_true qs) (Nat.le_trans (Nat.mul_le_mul_right _ (of_decide_eq_true qs:(l0.length:Int).toNat≤35184372088832)) (by omega)) (Below.refl _ _) (Nat.le_refl _) ?_; intro v139 w5 ho6 hb hg_ hnew_; clear hg_ hnew_; (first | rw [← Ny138.out] at ho6 | (simp only [Int.reduceToNat] at ho6; rw [← Ny138.out] at ho6)); have n0_:=Aside0.mk (Kd.R_lower ho6 (zbs (qb HB.out))); have n1_:=Aside0.mk (zbp (qb HB.out) hb); clear HB; have HO140:=n0_; have HB:=n1_; clear n0_ n1_; clear hb ho6))
   go_loopg [7,8] k (fun kq v7 v8 w'=>∃ (x6_1:List Int) (x7_1:Int) (x8_1:Int),v7=.int .i64 x7_1∧v8=.int .i64 x8_1∧Aside0 (fluxionref01_Short.l0 kq l0 a1 x6_1 x7_1 x8_1=some (r1,r2))∧Aside0 (kq≤k)∧Aside0 (Kd.R (Kd.int .i64) 3 w' w.heap.size (fun _=>True) v139 x6_1)∧Aside0 (Below w.heap.size w w'))
   case atStart=>exact⟨(y138),(0),(wrap64 ((l0.length:Int)-1)),(by first | rfl | (simp; done) | (simp [*]; done)),(by first | rfl | (simp; done) | (simp [*]; done)),H',⟨Nat.le_refl _⟩,⟨by (with_reducible repeat (first | apply Kd.R_alloc | apply Kd.R_drewN | apply Kd.R_drew)); exact HO140.out⟩,⟨by repeat (first | (with_reducible first | exact HB.out | apply zbq | apply zbr | apply zbv) | exact HB.out)⟩⟩
   case round =>
    clear H'
    try clear c1
    try clear p2
    try clear c3
    try clear c3b0
    try clear c3b1
    try clear c4
    try clear c4b0
    try clear c4b1
    try clear p6
    obtain⟨x6_1,x7_1,x8_1,rfl,rfl,HA,HK1,HO_6,HB⟩:=hrel
    cases gk with
    | zero=>exact absurd HA.out (by simp [fluxionref01_Short.l0])
    | succ k1 =>
     have H:=HA.out
     clear HA
     simp only [fluxionref01_Short.l0] at H
     by_cases c7:x8_1 ≥ 0
     ·
      rw [if_pos c7] at H
      have c7b0:decide (0≤x8_1)=true:=decide_eq_true c7
      clear c7
      by_cases c8:0≤x8_1
      ·
       rw [if_pos c8] at H
       have c8b0:decide (0≤x8_1)=true:=decide_eq_true c8
       clear c8
       by_cases c9:x8_1 < (l0.length:Int)
       ·
        rw [if_pos c9] at H
        have c9b0:decide (x8_1 < (l0.length:Int))=true:=decide_eq_true c9
        clear c9
        by_cases c10:a1=0
        ·
         rw [if_pos c10] at H
         exact absurd H (by simp)
        ·
         rw [if_neg c10] at H
         have c10b0:(a1 == 0)=false:=beq_eq_false_iff_ne.mpr c10
         have c10b1:(a1 != 0)=true:=bne_iff_ne.mpr c10
         by_cases c11:x8_1 < (x6_1.length:Int)
         ·
          rw [if_pos c11] at H
          have c11b0:decide (x8_1 < (x6_1.length:Int))=true:=decide_eq_true c11
          clear c11
          obtain⟨y142,hy142⟩:∃ y_:List Int,y_=(x6_1.set (x8_1:Int).toNat (wrap64 (Int.tdiv (wrap64 ((wrap64 (x7_1*10000))+(rd l0 x8_1))) a1))):=⟨_,rfl⟩
          replace H:(fluxionref01_Short.l0 k1 l0 a1 y142 (Int.tmod (wrap64 ((wrap64 (x7_1*10000))+(rd l0 x8_1))) a1) (wrap64 (x8_1-1)))=some (r1,r2):=by first | (rw [hy142]; with_reducible exact H) | (have H2_:=(Option.bind_some _ _).symm.trans H; rw [hy142]; with_reducible exact H2_) | (have H2_:=(Option.bind_some _ _).symm.trans H; with_reducible exact H2_) | with_reducible exact H | (rw [hy142]; exact H) | exact H
          have Ny142:=Aside0.mk hy142
          clear hy142
          have H':=Aside0.mk H
          clear H
          have p141:0≤(x8_1:Int):=of_decide_eq_true qs
          have q141:x8_1 < (l0.length:Int):=of_decide_eq_true qs
          obtain⟨ad141,e141,hx141_0⟩:=Kd.at_int HR0.out x8_1 p141 q141
          cases e141
          replace hx141_0:=(HB.out.cell (World.block_lt_of_cell? w _ hx141_0)).trans hx141_0
          replace p141:=eq_true p141
          replace q141:=eq_true q141
          have p12:0≤(x8_1:Int):=of_decide_eq_true qs
          have q12:(x8_1:Int) < ((x6_1.length:Int):Int):=of_decide_eq_true qs
          obtain⟨go12,co12,eo12,gb12,gl12,cl12,HG12⟩:=Kd.R_form HO_6.out (by omega)
          (first | cases eo12 | (injection eo12 with ea_ en_ ec_; (first | subst ea_ | (injection ea_ with ea_; subst ea_)); subst ec_; clear en_))
          have GB12:=Aside0.mk gb12
          have GG12:=Aside0.mk HG12
          clear gb12 gl12 HG12
          obtain⟨hx12_0,hf12_0⟩:=Kd.R_celln 0 HO_6.out (x8_1:Int) p12 q12
          replace p12:=eq_true p12
          replace q12:=eq_true q12
          have HP13:=Kd.R_putg HO_6.out (x8_1:Int) (wrap64 (Int.tdiv (wrap64 ((wrap64 (x7_1*10000))+(rd l0 x8_1))) a1))
          go_wp2_with (first | ((with_reducible refine gate_store (t:=3) (p:=32) rfl ?_); refine store_event (t:=3) (p:=32) (v:=?vo_w14) (w1:=(wr.setCell ⟨go12,(x8_1:Int).toNat,none⟩ (.int .i64 (wrap64 (Int.tdiv (wrap64 ((wrap64 (x7_1*10000))+(rd l0 x8_1))) a1))))) ?hg ?ho ?hn ?hr ?_; (case ho=>rfl); (case hg=>rfl); (case hn=>rfl); (case hr=>first | (go_simp; done) | (go_simp; rfl)); intro w14 hw; have hg:wr.grownBy w14 (some go12):=(by rw [hw]; exact HP13.2); have hp_:Kd.R (Kd.int .i64) 3 w14 w.heap.size (fun _=>True) (.slice (some ⟨go12,0,none⟩) x6_1.length co12) y142:=(by rw [hw,Ny142.out]; exact HP13.1); clear HP13; have n0_:=Aside0.mk (hp_); have n1_:=Aside0.mk ((by rw [hw]; exact zbE (HB.out) GB12.out:Below w.heap.size w w14)); clear HO_6; clear HB; have HO_6:=n0_; have HB:=n1_; clear n0_ n1_; clear hg hw hp_))
          go_roundg k1
          case measure=>have:=HK1.out; omega
          case rel=>exact⟨(y142),(Int.tmod (wrap64 ((wrap64 (x7_1*10000))+(rd l0 x8_1))) a1),(wrap64 (x8_1-1)),(by first | rfl | (simp; done) | (simp [*]; done)),(by first | rfl | (simp; done) | (simp [*]; done)),H',⟨by have:=HK1.out; omega⟩,⟨by (with_reducible repeat (first | apply Kd.R_alloc | apply Kd.R_drewN | apply Kd.R_drew)); exact HO_6.out⟩,⟨by repeat (first | (with_reducible first | exact HB.out | apply zbq | apply zbr | apply zbv) | exact HB.out)⟩⟩
         ·
          rw [if_neg c11] at H
          exact absurd H (by simp)
       ·
        rw [if_neg c9] at H
        exact absurd H (by simp)
      ·
       rw [if_neg c8] at H
       exact absurd H (by simp)
     ·
      rw [if_neg c7] at H
      have c7b0:decide (0≤x8_1)=false:=decide_eq_false c7
      clear c7
      replace H:=Option.bind_eq_some_iff.mp H
      obtain⟨t143,A150,H⟩:=H
      replace H:(some (t143,x7_1))=some (r1,r2):=H
      have A15:=Aside0.mk A150
      clear A150
      simp only [Option.some.injEq,Prod.mk.injEq] at H
      obtain⟨rfl,rfl⟩:=H
      obtain⟨Ao16,co16,eo16⟩:=Kd.R_slice HO_6.out
      subst eo16
      go_wp2_with (first | ((with_reducible refine zbC (f:=100) rfl ?_); refine zbO (some 37) rfl rfl Try.func100 (by kernel_rfl) rfl #[.slice Ao16 x6_1.length co16] rfl (by (try simp only [List.map_toArray,List.map_cons,List.map_nil]); first | done | rfl | (simp only [List.length_drop,List.length_take]; rfl)) ?_; (with_reducible refine(fluxionref01_trim.calls k1 (fun k_=>some k_=(.slice Ao16 x6_1.length co16:Value).ownBlock) (.slice Ao16 x6_1.length co16) x6_1 t143 w _ ?side1 ?side2 A15.out).mono ?_); (case side1=>repeat (first | (with_reducible first | exact HB.out | apply zbq | apply zbr | apply zbv) | exact HB.out)); (case side2=>exact Kd.R_tight rfl HO_6.out); rintro e w17 ⟨v144,rfl,ho0,hb,hkp⟩; refine⟨_,rfl,?_⟩; have n0_:=Aside0.mk (Kd.R_mono (ok':=fun k_=>True) ho0 (fun k_ hk_=>trivial)); have n1_:=Aside0.mk (hb); clear HB; clear HO_6; have HO145:=n0_; have HB:=n1_; clear n0_ n1_; (try clear hb); (try clear hkp); (try clear ho0)))
      go_ret2
      exact⟨_,by first | rfl | (simp [zbz,zbA]<;>rfl) | (simp [*,zbz,zbA]<;>rfl),by (with_reducible repeat (first | apply Kd.R_alloc | apply Kd.R_drewN | apply Kd.R_drew)); exact HO145.out,by repeat (first | (with_reducible first | exact HB.out | apply zbq | apply zbr | apply zbv) | exact HB.out)⟩
  ·
   rw [if_neg c4] at H
   exact absurd H (by simp)
 ·
  rw [if_neg c3] at H
  exact absurd H (by simp)
def fluxionref01_Limbs.l0:Nat→List Int→List Int→Option (List Int)
 | 0,_,_=>none
 | k+1,x0,x3=>if (x0.length:Int) > 0 then ((fluxionref01_Short.f k x0 65536).bind fun bt146=>((fluxionref01_Short.f k bt146.1 65536).bind fun bt150=>(if x3.length < 35184372088832 then (fluxionref01_Limbs.l0 k bt150.1 (x3++[(bt150.2 % 4294967296*65536+bt146.2) % 4294967296])) else (none)))) else (some x3)
def fluxionref01_Limbs.f (k:Nat) (l0:List Int):Option (List Int):=fluxionref01_Limbs.l0 k l0 ([]:List Int)
theorem fluxionref01_Limbs.calls (k:Nat) (P0_:Nat→Prop) (A0:Option Addr) (c0:Nat) (l0:List Int) (r:List Int) (w:World) (hs0:Kd.V (Kd.int .i64) 3 w w.heap.size (fun k_=>P0_ k_) (.slice A0 l0.length c0) l0) (h:fluxionref01_Limbs.f k l0=some r) :
  Calls Try.prog 140 #[.slice A0 l0.length c0] w fun e w'=>∃ v0_:Value,e=.returned (v0_)∧Kd.R (Kd.int .u32) 63 w' w.heap.size (fun k_=>(w.heap.size≤k_)) v0_ r∧Below w.heap.size w w':=by
 have HO0:=Aside0.mk (show Kd.V (Kd.int .i64) 3 w w.heap.size (fun k_=>(P0_ k_∨w.heap.size≤k_)) (.slice A0 l0.length c0) l0 from Kd.V_mono hs0 (fun k_ hk=>.inl hk))
 have HB:=Aside0.mk (Below.refl w.heap.size w)
 have H:(fluxionref01_Limbs.l0 k l0 ([]:List Int))=some r:=h
 clear h
 have H':=Aside0.mk H
 clear H
 go_enter Try.func140,Try.ntmps140
 go_wp2
 go_loopg [0,3] k (fun kq v0 v3 w'=>∃ (x0_1:List Int) (x3_1:List Int),Aside0 (fluxionref01_Limbs.l0 kq x0_1 x3_1=some r)∧Aside0 (kq≤k)∧Aside0 (Kd.V (Kd.int .i64) 3 w' w.heap.size (fun k_=>(P0_ k_∨w.heap.size≤k_)∧some k_≠(v3:Value).ownBlock) v0 x0_1)∧Aside0 (Kd.R (Kd.int .u32) 63 w' w.heap.size (fun k_=>(w.heap.size≤k_)) v3 x3_1)∧Aside0 (Below w.heap.size w w'))
 case atStart=>exact⟨(l0),(([]:List Int)),H',⟨Nat.le_refl _⟩,⟨by (with_reducible repeat (first | apply Kd.V_alloc | apply Kd.V_drewN | apply Kd.V_drew)); exact Kd.V_mono HO0.out (fun _ hk=>⟨hk,(by simp [Value.ownBlock])⟩)⟩,⟨by first | exact Kd.R_nil _ _ _ _ _ | exact Kd.N_nil _ _ _ _ _ | exact Kd.V_nil _ _ _ _ _ | exact Kd.Q_nil _ _ _ _ _ | exact Kd.S_nil _ _ _ _ _⟩,⟨by repeat (first | (with_reducible first | exact HB.out | apply zbq | apply zbr | apply zbv) | exact HB.out)⟩⟩
 case round =>
  clear H'
  try clear c1
  obtain⟨x0_1,x3_1,HA,HK1,HO_0,HO_3,HB⟩:=hrel
  cases gk with
  | zero=>exact absurd HA.out (by simp [fluxionref01_Limbs.l0])
  | succ k1 =>
   have H:=HA.out
   clear HA
   simp only [fluxionref01_Limbs.l0] at H
   by_cases c2:(x0_1.length:Int) > 0
   ·
    rw [if_pos c2] at H
    have c2b0:decide (0 < (x0_1.length:Int))=true:=decide_eq_true c2
    have c2b1:decide (0 < x0_1.length)=true:=decide_eq_true (by omega)
    clear c2
    replace H:=Option.bind_eq_some_iff.mp H
    obtain⟨⟨t146,t147⟩,A30,H⟩:=H
    replace H:((fluxionref01_Short.f k1 t146 65536).bind fun bt150=>(if x3_1.length < 35184372088832 then (fluxionref01_Limbs.l0 k1 bt150.1 (x3_1++[(bt150.2 % 4294967296*65536+t147) % 4294967296])) else (none)))=some r:=H
    have A3:=Aside0.mk A30
    clear A30
    replace H:=Option.bind_eq_some_iff.mp H
    obtain⟨⟨t150,t151⟩,A40,H⟩:=H
    replace H:(if x3_1.length < 35184372088832 then (fluxionref01_Limbs.l0 k1 t150 (x3_1++[(t151 % 4294967296*65536+t147) % 4294967296])) else (none))=some r:=H
    have A4:=Aside0.mk A40
    clear A40
    by_cases c5:x3_1.length < 35184372088832
    ·
     rw [if_pos c5] at H
     have LMc5:=Aside0.mk c5
     clear c5
     obtain⟨y154,hy154⟩:∃ y_:List Int,y_=(x3_1++[(t151 % 4294967296*65536+t147) % 4294967296]):=⟨_,rfl⟩
     replace H:(fluxionref01_Limbs.l0 k1 t150 y154)=some r:=by first | (rw [hy154]; with_reducible exact H) | (have H2_:=(Option.bind_some _ _).symm.trans H; rw [hy154]; with_reducible exact H2_) | (have H2_:=(Option.bind_some _ _).symm.trans H; with_reducible exact H2_) | with_reducible exact H | (rw [hy154]; exact H) | exact H
     have Ny154:=Aside0.mk hy154
     clear hy154
     have H':=Aside0.mk H
     clear H
     obtain⟨Ao6,co6,eo6⟩:=Kd.V_slice HO_0.out
     subst eo6
     go_wp2_with (first | ((with_reducible refine zbC (f:=107) rfl ?_); refine zbO (some 13) rfl rfl Try.func107 (by kernel_rfl) rfl #[.slice Ao6 x0_1.length co6,.int .i64 65536] rfl (by (try simp only [List.map_toArray,List.map_cons,List.map_nil]); first | done | rfl | (simp only [List.length_drop,List.length_take]; rfl)) ?_; (with_reducible refine(fluxionref01_Short.calls k1 _ _ x0_1 65536 t146 t147 _ ?side1 ?side2 A3.out).mono ?_); (case side1=>exact qc (Kd.V_reads' HO_0.out).2.2); (case side2=>exact(Kd.V_reads' HO_0.out).2.1); rintro e w7 ⟨v148,rfl,ho0,hb⟩; refine⟨_,rfl,?_⟩; have n0_:=Aside0.mk (Kd.V_elder' (by (with_reducible repeat (first | apply Kd.V_alloc | apply Kd.V_drewN | apply Kd.V_drew)); exact HO_0.out) (Kd.R_base ho0) hb); have n1_:=Aside0.mk (Kd.R_below (qr HO_3.out) hb); have n2_:=Aside0.mk (Kd.R_lower (Kd.R_newM (M:=fun k_=>(w.heap.size≤k_)) ho0 (zbs (qb HB.out)) (fun k_ h_=>h_)) (zbs (qb HB.out))); have n3_:=Aside0.mk (zbp (qb HB.out) hb); clear HO_0; clear HO_3; clear HB; have HO_0:=n0_; have HO_3:=n1_; have HO149:=n2_; have HB:=n3_; clear n0_ n1_ n2_ n3_; (try clear hb); (try clear hb2); (try clear hk); (try clear hi); (try clear ho0); obtain⟨Ao8,co8,eo8⟩:=Kd.R_slice HO149.out; subst eo8) | ((with_reducible refine zbC (f:=107) rfl ?_); refine zbO (some 18) rfl rfl Try.func107 (by kernel_rfl) rfl #[.slice Ao8 t146.length co8,.int .i64 65536] rfl (by (try simp only [List.map_toArray,List.map_cons,List.map_nil]); first | done | rfl | (simp only [List.length_drop,List.length_take]; rfl)) ?_; (with_reducible refine(fluxionref01_Short.calls k1 _ _ t146 65536 t150 t151 _ ?side1 ?side2 A4.out).mono ?_); (case side1=>exact qc (Kd.R_reads' HO149.out).2.2); (case side2=>exact(Kd.R_reads' HO149.out).2.1); rintro e w9 ⟨v152,rfl,ho0,hb⟩; refine⟨_,rfl,?_⟩; have n0_:=Aside0.mk (Kd.V_elder' (by (with_reducible repeat (first | apply Kd.V_alloc | apply Kd.V_drewN | apply Kd.V_drew)); exact HO_0.out) (Kd.R_base ho0) hb); have n1_:=Aside0.mk (Kd.R_below (qr HO_3.out) hb); have n2_:=Aside0.mk (Kd.R_elder' (qr HO149.out) (Kd.R_base ho0) hb); have n3_:=Aside0.mk (Kd.R_lower (Kd.R_new' (Kd.R_newM (M:=fun k_=>(w.heap.size≤k_)) ho0 (zbs (qb HB.out)) (fun k_ h_=>h_)) (Kd.R_lt (qr HO149.out))) (zbs (qb HB.out))); have n4_:=Aside0.mk (zbp (qb HB.out) hb); clear HO_0; clear HO_3; clear HO149; clear HB; have HO_0:=n0_; have HO_3:=n1_; have HO149:=n2_; have HO153:=n3_; have HB:=n4_; clear n0_ n1_ n2_ n3_ n4_; (try clear hb); (try clear hb2); (try clear hk); (try clear hi); (try clear ho0)) | ((with_reducible refine zbV (b:=.append) (xs:=#[.tmp 21,.tmp 28]) rfl ?_); at_builtin; refine Kd.R_append (Kd.int .u32) (w0:=w) w.heap.size rfl (.tmp 21) (.tmp 28) 23 63 (.int .u32 0) 4 rfl Try.underlying23 info63 rfl (by decide) (by omega) u3 x3_1 ((t151 % 4294967296*65536+t147) % 4294967296) [.int .u32 ((t151 % 4294967296*65536+t147) % 4294967296)] (fun k_=>(w.heap.size≤k_)) (fun _=>False) rfl rfl ?aP (fun _ hk=>hk.elim) ?aF ?aO ?aB ?aS ?aL ?_; (case aP=>exact rfl); (case aB=>exact(qb HB.out)); (case aF=>exact(fun k_ hk=>(Nat.le_trans (zbs (qb HB.out)) hk))); (case aO=>exact(qr HO_3.out)); (case aS=>exact(zbs (qb HB.out))); (case aL=>have:=LMc5.out; omega); intro v155 w10 ho hb hg hat; rw [← Ny154.out] at ho; have n0_:=Aside0.mk (Kd.V_afterv (ok:=(fun k_=>(P0_ k_∨w.heap.size≤k_)∧some k_≠(.slice Ao8 t146.length co8:Value).ownBlock∧some k_≠(v152:Value).ownBlock)) (by (with_reducible repeat (first | apply Kd.V_alloc | apply Kd.V_drewN | apply Kd.V_drew)); exact Kd.V_mono HO_0.out (fun _ hk=>⟨⟨hk.1.1.1,⟨hk.1.2,hk.2⟩⟩,hk.1.1.2⟩)) hg hat); have n1_:=Aside0.mk (Kd.R_over' (qr HO149.out) (Kd.R_typed (qr HO_3.out)) (by decide) hg); have n2_:=Aside0.mk (Kd.R_over' (qr HO153.out) (Kd.R_typed (qr HO_3.out)) (by decide) hg); have n3_:=Aside0.mk (hb); have n4_:=Aside0.mk (ho); clear HO_0; clear HO149; clear HO153; clear HB; clear HO_3; have HO_0:=n0_; have HO149:=n1_; have HO153:=n2_; have HB:=n3_; have HO156:=n4_; clear n0_ n1_ n2_ n3_ n4_; clear ho hb hg hat))
     go_roundg k1
     case measure=>have:=HK1.out; omega
     case rel=>exact⟨(t150),(y154),H',⟨by have:=HK1.out; omega⟩,⟨Kd.V_mono (Kd.R_V (by (with_reducible repeat (first | apply Kd.R_alloc | apply Kd.R_drewN | apply Kd.R_drew)); exact Kd.R_mono (ok':=fun k_=>w.heap.size≤k_∧some k_≠(v155:Value).ownBlock) (Kd.R_apart' HO153.out (Kd.R_typed HO156.out) (by decide)) (fun _ hk=>⟨hk.1.1.1,hk.2⟩))) (fun k_ hk=>by first | exact⟨(.inr (hk.1)),hk.2⟩ | exact(.inr (hk)))⟩,⟨by (with_reducible repeat (first | apply Kd.R_alloc | apply Kd.R_drewN | apply Kd.R_drew)); exact HO156.out⟩,⟨by repeat (first | (with_reducible first | exact HB.out | apply zbq | apply zbr | apply zbv) | exact HB.out)⟩⟩
    ·
     rw [if_neg c5] at H
     exact absurd H (by simp)
   ·
    rw [if_neg c2] at H
    have c2b0:decide (0 < (x0_1.length:Int))=false:=decide_eq_false c2
    have c2b1:decide (0 < x0_1.length)=false:=decide_eq_false (by omega)
    clear c2
    obtain rfl:=Option.some.inj H
    obtain⟨Ao11,co11,eo11⟩:=Kd.V_slice HO_0.out
    subst eo11
    go_wp2
    go_ret
    exact⟨_,by first | rfl | (simp [zbz,zbA]<;>rfl) | (simp [*,zbz,zbA]<;>rfl),by (with_reducible repeat (first | apply Kd.R_alloc | apply Kd.R_drewN | apply Kd.R_drew)); exact HO_3.out,by repeat (first | (with_reducible first | exact HB.out | apply zbq | apply zbr | apply zbv) | exact HB.out)⟩
def fluxionref03_Back.f (k:Nat) (a0_0:Bool) (l0_1:List Int) (l0_2:List Int):Option (Bool×List Int×List Int):=(fluxionref01_Limbs.f k l0_1).bind fun t159=>((fluxionref01_Limbs.f k l0_2).bind fun t162=>(some (a0_0,t159,t162)))
def fluxionref03_Back.T1:Bool×List (List Nat×List Nat):=(true,[([],[]),([0],[0]),([],[]),([2],[2]),([3],[3]),([],[]),([5],[5]),([6,4],[6]),([1,4,7],[1,4,7]),([8,7,0,1,2,3,4,5,6,7,8],[8])])
def fluxionref03_Back.B1:List Nat:=[0,1,0,4,12,0,32,124,255,511]
theorem fluxionref03_Back.tab1:rtab .any (opsOf Try.f131 1)=fluxionref03_Back.T1:=by kernel_rfl
theorem fluxionref03_Back.bits1:waitsOk fluxionref03_Back.T1.2 fluxionref03_Back.B1=true:=by kernel_rfl
theorem fluxionref03_Back.calls (k:Nat) (a0_0:Bool) (A0_1:Option Addr) (c0_1:Nat) (l0_1:List Int) (A0_2:Option Addr) (c0_2:Nat) (l0_2:List Int) (r1:Bool) (r2:List Int) (r3:List Int) (w:World) (hr0_1:Kd.C (Kd.int .i64) w A0_1 l0_1.length l0_1) (hc0_1:l0_1.length≤c0_1) (hr0_2:Kd.C (Kd.int .i64) w A0_2 l0_2.length l0_2) (hc0_2:l0_2.length≤c0_2) (h:fluxionref03_Back.f k a0_0 l0_1 l0_2=some (r1,r2,r3)) :
  Calls Try.prog 131 #[.agg #[.bool a0_0,.slice A0_1 l0_1.length c0_1,.slice A0_2 l0_2.length c0_2]] w fun e w'=>∃ v1_ v2_:Value,e=.returned (.agg #[.bool r1,v1_,v2_])∧Kd.R (Kd.int .u32) 63 w' w.heap.size (fun k_=>some k_≠(v2_:Value).ownBlock) v1_ r2∧Kd.R (Kd.int .u32) 63 w' w.heap.size (fun k_=>some k_≠(v1_:Value).ownBlock) v2_ r3∧Below w.heap.size w w':=by
 have hu36:=Try.underlying36
 have hu25:=Try.underlying25
 have HR0_1:=Aside0.mk hr0_1
 have HC0_1:=Aside0.mk hc0_1
 clear hr0_1 hc0_1
 have HR0_2:=Aside0.mk hr0_2
 have HC0_2:=Aside0.mk hc0_2
 clear hr0_2 hc0_2
 have HB:=Aside0.mk (Below.refl w.heap.size w)
 have H:((fluxionref01_Limbs.f k l0_1).bind fun t159=>((fluxionref01_Limbs.f k l0_2).bind fun t162=>(some (a0_0,t159,t162))))=some (r1,r2,r3):=h
 clear h
 replace H:=Option.bind_eq_some_iff.mp H
 obtain⟨t159,A20,H⟩:=H
 replace H:((fluxionref01_Limbs.f k l0_2).bind fun t162=>(some (a0_0,t159,t162)))=some (r1,r2,r3):=H
 have A2:=Aside0.mk A20
 clear A20
 replace H:=Option.bind_eq_some_iff.mp H
 obtain⟨t162,A30,H⟩:=H
 replace H:(some (a0_0,t159,t162))=some (r1,r2,r3):=H
 have A3:=Aside0.mk A30
 clear A30
 simp only [Option.some.injEq,Prod.mk.injEq] at H
 obtain⟨rfl,rfl,rfl⟩:=H
 go_enter Try.func131,Try.ntmps131
 try go_wp2_with (first | ((with_reducible refine zbG (N:=1) rfl ?_); refine zbF ?hg (N:=1) ?hd (cs:=#[.bool a0_0,.slice A0_1 l0_1.length c0_1,.slice A0_2 l0_2.length c0_2]) (t:=36) ?hr ?_; (case hd=>rfl); (case hg=>rfl); (case hr=>first | (go_simp; done) | (go_simp; rfl)); intro gb157 hg w4 hbox hb; have n0_:=Aside0.mk (zbp (qb HB.out) hb); have n1_:=Aside0.mk (hbox); have n2_:=Aside0.mk ((by rw [hg]; exact(zbs (qb HB.out)):w.heap.size≤gb157)); have n3_:=Aside0.mk ((by rw [hg]; exact(zbs (qb HB.out)):w.heap.size≤gb157)); clear HB; have HB:=n0_; have BK157:=n1_; have GW157:=n2_; have GE157:=n3_; clear n0_ n1_ n2_ n3_; clear hb hbox hg) | ((with_reducible refine zbG (N:=2) rfl ?_); refine zbF ?hg (N:=2) ?hd (cs:=#[.bool false,.slice none 0 0,.slice none 0 0]) (t:=25) ?hr ?_; (case hd=>rfl); (case hg=>rfl); (case hr=>first | (go_simp; done) | (go_simp; rfl)); intro gb158 hg w5 hbox hb; have n0_:=Aside0.mk (zbt (g:=gb157) (o:=.cells #[.bool a0_0,.slice A0_1 l0_1.length c0_1,.slice A0_2 l0_2.length c0_2] 36 (0,0)) (qk BK157.out) hb); have n1_:=Aside0.mk (zbp (qb1 HB.out GE157.out) hb); have n2_:=Aside0.mk (hbox); have n3_:=Aside0.mk ((by rw [hg]; exact(zbs (qb1 HB.out GE157.out)):w.heap.size≤gb158)); have n4_:=Aside0.mk ((by rw [hg]; exact(zbs (qb1 HB.out GE157.out)):w.heap.size≤gb158)); have n5_:=Aside0.mk ((by rw [hg]; exact Nat.ne_of_lt (zbQ (g:=gb157) (o:=.cells #[.bool a0_0,.slice A0_1 l0_1.length c0_1,.slice A0_2 l0_2.length c0_2] 36 (0,0)) (qk BK157.out)):gb157≠gb158)); have n6_:=Aside0.mk ((by rw [hg]; exact Nat.ne_of_gt (zbQ (g:=gb157) (o:=.cells #[.bool a0_0,.slice A0_1 l0_1.length c0_1,.slice A0_2 l0_2.length c0_2] 36 (0,0)) (qk BK157.out)):gb158≠gb157)); clear BK157; clear HB; have BK157:=n0_; have HB:=n1_; have BK158:=n2_; have GW158:=n3_; have GE158:=n4_; have NB157_158:=n5_; have NB158_157:=n6_; clear n0_ n1_ n2_ n3_ n4_ n5_ n6_; clear hb hbox hg))
 have n0_:=Aside0.mk (zbx BK157.out)
 have n1_:=Aside0.mk (zbx BK158.out)
 have n2_:=Aside0.mk (zbv HB.out)
 clear BK157
 clear BK158
 clear HB
 have BK157:=n0_
 have BK158:=n1_
 have HB:=n2_
 clear n0_ n1_ n2_
 refine start_ (n:=10) (S:=fun w'=>w'.cell? ⟨gb157,0,none⟩=some (.bool a0_0)∧w'.cell? ⟨gb157,1,none⟩=some (.slice A0_1 l0_1.length c0_1)∧w'.cell? ⟨gb157,2,none⟩=some (.slice A0_2 l0_2.length c0_2)) (ds:=[]) #[zf,zf,zf,zf,zf,zf,zf,zf,zf,zf] (by kernel_rfl) rfl rfl ⟨(zbu BK157.out 0).trans rfl,(zbu BK157.out 1).trans rfl,(zbu BK157.out 2).trans rfl⟩ (fun hHeld=>?_); refine with_tabW fluxionref03_Back.tab1 fluxionref03_Back.bits1 (fun HT_ HW_=>?_)
 generalize w5.drew=w6 at BK157 BK158 HB hHeld ⊢
 refine qpT 0 (some 3) ?_
 refine qpT 2 (some 5) ?_
 refine qpT 5 (some 8) ?_
 refine take_ (i:=1) (N:=some 4) (v:=?_) (a':=?_) #[zt,zt,zt,zf,zf,zt,zf,zf,zf,zf] rfl rfl (zci HT_.out HW_.out (by kernel_rfl)) (fun _ _ _ h=>h) (Or.inl ⟨by rfl,?_⟩) hHeld ?_ ?_
 rotate_left
 ·
  rintro w' ⟨s0,s1,s2⟩
  go_simp
  with_reducible rfl
 rotate_left
 ·
  simp only [Act.put,zA1,zA2,zA3,zcj,zcz]
  rfl
 refine take_ (i:=3) (N:=some 6) (v:=?_) (a':=?_) #[zt,zt,zt,zt,zf,zt,zf,zf,zf,zf] rfl rfl (zci HT_.out HW_.out (by kernel_rfl)) (fun _ _ _ h=>h) (Or.inl ⟨by rfl,?_⟩) hHeld ?_ ?_
 rotate_left
 ·
  rintro w' ⟨s0,s1,s2⟩
  go_simp
  with_reducible rfl
 rotate_left
 ·
  simp only [Act.put,zA1,zA2,zA3,zcj,zcz]
  rfl
 refine take_ (i:=6) (N:=some 9) (v:=?_) (a':=?_) #[zt,zt,zt,zt,zf,zt,zt,zf,zf,zf] rfl rfl (zci HT_.out HW_.out (by kernel_rfl)) (fun _ _ _ h=>h) (Or.inl ⟨by rfl,?_⟩) hHeld ?_ ?_
 rotate_left
 ·
  rintro w' ⟨s0,s1,s2⟩
  go_simp
  with_reducible rfl
 rotate_left
 ·
  simp only [Act.put,zA1,zA2,zA3,zcj,zcz]
  rfl
 refine qoT 4 (some 7) (fun K hK=>?_)
 refine goes_ Try.func140 (by kernel_rfl) rfl #[.slice A0_1 l0_1.length c0_1] (by rfl) rfl rfl (by (try simp only [List.map_toArray,List.map_cons,List.map_nil]); first | done | rfl | (simp only [List.length_drop,List.length_take]; rfl)) ?_
 with_reducible refine(fluxionref01_Limbs.calls k (fun k_=>k_ < w.heap.size) _ _ l0_1 t159 _ ?side1 A2.out).mono ?_
 (case side1=>exact Kd.V_mk HC0_1.out (Kd.F_below (Kd.C_F (Kd.heap_int .i64) HR0_1.out) (qb2 HB.out GE157.out GE158.out)))
 rintro e w7 ⟨v160,rfl,ho0,hb⟩
 refine⟨_,rfl,?_⟩
 have n0_:=Aside0.mk (Kd.R_lower (Kd.R_mono (ok':=fun k_=>True) ho0 (fun _ hk_=>trivial)) (zbs (qb2 HB.out GE157.out GE158.out)))
 have n1_:=Aside0.mk (zbt (g:=gb157) (o:=.cells #[.bool a0_0,.slice A0_1 l0_1.length c0_1,.slice A0_2 l0_2.length c0_2] 36 (0,0)) (qk BK157.out) hb)
 have n2_:=Aside0.mk (zbt (g:=gb158) (o:=.cells #[.bool false,.slice none 0 0,.slice none 0 0] 25 (0,0)) (qk BK158.out) hb)
 have n3_:=Aside0.mk (zbp (qb2 HB.out GE157.out GE158.out) hb)
 clear BK157
 clear BK158
 clear HB
 have HO161:=n0_
 have BK157:=n1_
 have BK158:=n2_
 have HB:=n3_
 clear n0_ n1_ n2_ n3_
 (try clear hb)
 (try clear hb2)
 (try clear hk)
 (try clear hi)
 (try clear ho0)
 refine hK.out _ _ ⟨(zbu BK157.out 0).trans rfl,(zbu BK157.out 1).trans rfl,(zbu BK157.out 2).trans rfl⟩ (fun hHeld=>?_)
 clear hK K
 refine qn ?_
 refine qoT 7 (some 10) (fun K hK=>?_)
 refine goes_ Try.func140 (by kernel_rfl) rfl #[.slice A0_2 l0_2.length c0_2] (by rfl) rfl rfl (by (try simp only [List.map_toArray,List.map_cons,List.map_nil]); first | done | rfl | (simp only [List.length_drop,List.length_take]; rfl)) ?_
 with_reducible refine(fluxionref01_Limbs.calls k (fun k_=>k_ < w.heap.size) _ _ l0_2 t162 _ ?side1 A3.out).mono ?_
 (case side1=>exact Kd.V_mk HC0_2.out (Kd.F_below (Kd.C_F (Kd.heap_int .i64) HR0_2.out) (qb2 HB.out GE157.out GE158.out)))
 rintro e w8 ⟨v163,rfl,ho0,hb⟩
 refine⟨_,rfl,?_⟩
 have n0_:=Aside0.mk (Kd.R_elder' (qr HO161.out) (Kd.R_base ho0) hb)
 have n1_:=Aside0.mk (Kd.R_lower (Kd.R_new' (Kd.R_mono (ok':=fun k_=>True) ho0 (fun _ hk_=>trivial)) (Kd.R_lt (qr HO161.out))) (zbs (qb2 HB.out GE157.out GE158.out)))
 have n2_:=Aside0.mk (zbt (g:=gb157) (o:=.cells #[.bool a0_0,.slice A0_1 l0_1.length c0_1,.slice A0_2 l0_2.length c0_2] 36 (0,0)) (qk BK157.out) hb)
 have n3_:=Aside0.mk (zbt (g:=gb158) (o:=.cells #[.bool false,.slice none 0 0,.slice none 0 0] 25 (0,0)) (qk BK158.out) hb)
 have n4_:=Aside0.mk (zbp (qb2 HB.out GE157.out GE158.out) hb)
 clear HO161
 clear BK157
 clear BK158
 clear HB
 have HO161:=n0_
 have HO164:=n1_
 have BK157:=n2_
 have BK158:=n3_
 have HB:=n4_
 clear n0_ n1_ n2_ n3_ n4_
 (try clear hb)
 (try clear hb2)
 (try clear hk)
 (try clear hi)
 (try clear ho0)
 obtain⟨Ao9,co9,eo9⟩:=Kd.R_slice HO164.out
 (first | subst eo9 | (injection eo9 with f1_ f2_ f3_; have f4_:=f1_.symm; have f5_:=f3_.symm; clear f1_ f2_ f3_; subst f4_; subst f5_))
 obtain⟨Ao10,co10,eo10⟩:=Kd.R_slice HO161.out
 (first | subst eo10 | (injection eo10 with f1_ f2_ f3_; have f4_:=f1_.symm; have f5_:=f3_.symm; clear f1_ f2_ f3_; subst f4_; subst f5_))
 refine hK.out _ _ ⟨(zbu BK157.out 0).trans rfl,(zbu BK157.out 1).trans rfl,(zbu BK157.out 2).trans rfl⟩ (fun hHeld=>?_)
 clear hK K
 refine qn ?_
 refine qpT 8 (some 11) ?_
 refine qoT 9 none (fun K hK=>?_)
 have hs11:w8.cell? ⟨gb158,0,none⟩=some (.bool false):=(zbu BK158.out 0).trans rfl
 have hfs11:=zbD BK158.out 0
 have hns11_0:=NB157_158.out
 have hms11_0:=NB158_157.out
 have hs12:w8.cell? ⟨gb158,1,none⟩=some (.slice none 0 0):=(zbu BK158.out 1).trans rfl
 have hfs12:=zbD BK158.out 1
 have hns12_0:=NB157_158.out
 have hms12_0:=NB158_157.out
 have hs13:w8.cell? ⟨gb158,2,none⟩=some (.slice none 0 0):=(zbu BK158.out 2).trans rfl
 have hfs13:=zbD BK158.out 2
 have hns13_0:=NB157_158.out
 have hms13_0:=NB158_157.out
 refine qx ?_
 refine hK.out _ _ ⟨((zb9 (p:=⟨gb158,_,none⟩) NB157_158.out _).trans (((zb9 (p:=⟨gb158,_,none⟩) NB157_158.out _).trans (((zb9 (p:=⟨gb158,_,none⟩) NB157_158.out _).trans (hHeld.1)))))),((zb9 (p:=⟨gb158,_,none⟩) NB157_158.out _).trans (((zb9 (p:=⟨gb158,_,none⟩) NB157_158.out _).trans (((zb9 (p:=⟨gb158,_,none⟩) NB157_158.out _).trans (hHeld.2.1)))))),((zb9 (p:=⟨gb158,_,none⟩) NB157_158.out _).trans (((zb9 (p:=⟨gb158,_,none⟩) NB157_158.out _).trans (((zb9 (p:=⟨gb158,_,none⟩) NB157_158.out _).trans (hHeld.2.2))))))⟩ (fun hHeld=>?_)
 clear hK K
 refine done_ (done_of HT_.out (by kernel_rfl)) ?_
 try go_wp2
 refine bodyPost_ret (results_cell_row rfl _ _ gb158 25 #[.bool a0_0,.slice Ao10 t159.length co10,.slice Ao9 t162.length co9] (0,0) _ rfl (by (with_reducible repeat (first | refine zby ?_ _ | refine zbx ?_ | refine zbw ?_ _)); refine zbK (cs:=#[.bool a0_0,.slice Ao10 t159.length co10,.slice none 0 0]) ?_ 2 _ rfl; (with_reducible repeat (first | refine zby ?_ _ | refine zbx ?_ | refine zbw ?_ _)); refine zbK (cs:=#[.bool a0_0,.slice none 0 0,.slice none 0 0]) ?_ 1 _ rfl; (with_reducible repeat (first | refine zby ?_ _ | refine zbx ?_ | refine zbw ?_ _)); refine zbK (cs:=#[.bool false,.slice none 0 0,.slice none 0 0]) ?_ 0 _ rfl; (with_reducible repeat (first | refine zby ?_ _ | refine zbx ?_ | refine zbw ?_ _)); exact BK158.out) Try.underlying25 rfl (by kernel_rfl)) rfl ?_
 exact⟨_,_,by first | rfl | (simp [zbz,zbA]<;>rfl) | (simp [*,zbz,zbA]<;>rfl),by (with_reducible repeat (first | apply Kd.R_alloc | apply Kd.R_drewN | apply Kd.R_drew)); exact Kd.R_mono (Kd.R_far (p:=⟨gb158,2,none⟩) (Kd.R_far (p:=⟨gb158,1,none⟩) (Kd.R_far (p:=⟨gb158,0,none⟩) (Kd.R_types HO161.out BK158.out (by decide)) (fun _ hk=>hk.2) (.bool a0_0)) (fun _ hk=>hk.2) (.slice Ao10 t159.length co10)) (fun _ hk=>hk.2) (.slice Ao9 t162.length co9)) (fun _ hk=>hk.1.2),by (with_reducible repeat (first | apply Kd.R_alloc | apply Kd.R_drewN | apply Kd.R_drew)); exact Kd.R_mono (Kd.R_far (p:=⟨gb158,2,none⟩) (Kd.R_far (p:=⟨gb158,1,none⟩) (Kd.R_far (p:=⟨gb158,0,none⟩) (Kd.R_types HO164.out BK158.out (by decide)) (fun _ hk=>hk.2) (.bool a0_0)) (fun _ hk=>hk.2) (.slice Ao10 t159.length co10)) (fun _ hk=>hk.2) (.slice Ao9 t162.length co9)) (fun _ hk=>hk.1.2),by repeat (first | (with_reducible first | exact HB.out | apply zbq | apply zbr | apply zbv | refine zbE ?_ GE157.out | refine zbE ?_ GE158.out) | exact HB.out)⟩
end Go.Proofs.Ytehghijlchpeaaa.M
end
end
section
namespace Go.Proofs.Ytehghijlchpeaaa.Nat1
open Go.RowKit YtehghijlchpeaaaW.PrintWords YtehghijlchpeaaaW.PrintLast YtehghijlchpeaaaW.PrintMore L Nt Ev
theorem append_mixed {P:Program} {t t' e e':TypeId} (ht:P.underlying t=some (.slice e)) (ht':P.underlying t'=some (.slice e')) (ty:TypeId) (args:Array Value) (w:World) :
  (Builtin.append_ #[t,t'] ty args).run P w=(Builtin.append_ #[t,t] ty args).run P w:=by
 unfold Builtin.append_
 simp only [List.getElem?_toArray,List.getElem?_cons_zero,List.getElem?_cons_succ]
 split
 ·
  rename_i h
  injection h with h1 h2
  injection h1 with h1
  subst h1
  simp only [Sem.run_bind,run_underlying ht,Result.andThen]
  split
  ·
   simp only [Sem.run_bind]
   refine congrArg _ (funext fun size=>funext fun w1=>?_)
   simp only [run_underlying ht',run_underlying ht,Result.andThen]
  ·
   rfl
 ·
  rfl
theorem execOp_mixed {P:Program} {o:Oper} {ev:Operand→Value} {W:World} (s x:Operand) (t t' e e':TypeId) (ho:o.op=.call { callee:=.builtin .append,args:=#[s,x],argTypes:=#[t,t'] })
  (ht:P.underlying t=some (.slice e)) (ht':P.underlying t'=some (.slice e')) :
  (execOp ev o).run P W=(execOp ev { o with op:=.call { callee:=.builtin .append,args:=#[s,x],argTypes:=#[t,t] } }).run P W:=by
 obtain⟨d,op,ty,pos,af,gd⟩:=o
 simp only at ho
 subst ho
 simp [execOp,resolve,invoke,builtin,append_mixed ht ht']
theorem wp_mixed {P:Program} {ops:Array Oper} {Q:Exit→Act→World→Prop} {rest:List Oper} {o:Oper} {a:Act} {W:World} (hgd:o.guard=none) (s x:Operand) (t t' e e':TypeId) (ho:o.op=.call { callee:=.builtin .append,args:=#[s,x],argTypes:=#[t,t'] })
  (ht:P.underlying t=some (.slice e)) (ht':P.underlying t'=some (.slice e'))
  (h:∀ Q':Exit→Act→World→Prop,(∀ v w1,wpList P ops Q rest (a.put o.dst v) w1→Q' .normal (a.put o.dst v) w1)→wpList P ops Q' [{ o with op:=.call { callee:=.builtin .append,args:=#[s,x],argTypes:=#[t,t] } }] a W):wpList P ops Q (o :: rest) a W:=by
 have h1:=h (fun ex b w1=>ex=.normal∧wpList P ops Q rest b w1) (fun v w1 hh=>⟨rfl,hh⟩)
 simp only [wpList,Region.wanted,hgd,if_true] at h1 ⊢
 rcases h1 with h1 | h1
 ·
  left
  unfold Oper.wp at h1 ⊢
  rw [execOp_mixed s x t t' e e' ho ht ht',hgd]
  generalize (execOp a.eval { dst:=o.dst,op:=Op.call { callee:=Callee.builtin Builtin.append,args:=#[s,x],argTypes:=#[t,t] },type:=o.type,pos:=o.pos,after:=o.after,guard:=none }).run P W=r at h1 ⊢
  cases r with
  | ok n w' =>
   cases n with
   | value v=>exact h1.2
   | skip=>exact h1.2
   | defer d=>exact h1.2
   | enter f args =>
    refine Calls.mono h1 (fun e w2 hh=>?_)
    cases e with
    | returned v=>exact hh.2
    | panicked c=>cases hh.1
    | outgrown =>
     obtain⟨b,w1,hh⟩:=hh
     cases hh.1
   | row row args=>exact Rows.mono h1 (fun _ _ hh=>hh.2)
   | _=>exact h1.elim
  | halt hh w' =>
   cases hh with
   | panic v=>cases h1.1
   | _=>exact h1.elim
 ·
  obtain⟨_,b,w1,hh⟩:=h1
  cases hh.1
structure SR where
 f0:Bool
 f1:(List Int)
 f2:(List Int)
def zR:SR:=⟨false,([]:List Int),([]:List Int)⟩
def kR:Kd SR:=Kd.iso (Kd.pair Kd.bool (Kd.pair (Kd.slice 3 (Kd.int .i64)) (Kd.slice 3 (Kd.int .i64)))) (fun x:SR=>(x.f0,x.f1,x.f2))
theorem kR_open {w:World} {x:SR} {cs:List Value} (h:kR.K w x cs):∃ A1 c1 A2 c2,cs=[.bool x.f0,.slice A1 x.f1.length c1,.slice A2 x.f2.length c2]∧x.f1.length≤c1∧(Kd.int .i64).C w A1 x.f1.length x.f1∧x.f2.length≤c2∧(Kd.int .i64).C w A2 x.f2.length x.f2:=by
 obtain⟨_,_,rfl,rfl,⟨_,_,rfl,⟨A1,c1,rfl,l1,g1⟩,⟨A2,c2,rfl,l2,g2⟩⟩⟩:=h
 exact⟨A1,c1,A2,c2,rfl,l1,g1,l2,g2⟩
theorem kR_mkM (w:World) (base:Nat) (ok:Nat→Prop) (x:SR) {v1:Value} (g1:(Kd.int .i64).R 3 w base ok v1 x.f1) {v2:Value} (g2:(Kd.int .i64).R 3 w base ok v2 x.f2):kR.M w base ok x [.bool x.f0,v1,v2]:=⟨[.bool x.f0],[v1,v2],rfl,rfl,⟨[v1],[v2],rfl,⟨v1,rfl,g1⟩,⟨v2,rfl,g2⟩⟩⟩
def rd_R (xs:List SR) (i:Int):SR:=xs.getD i.toNat zR
theorem at_R {w:World} {A:Option Addr} {n:Nat} {xs:List SR} (h:Kd.C kR w A n xs) (i:Int) (h0:0≤i) (h1:i < n):∃ ad A1 c1 A2 c2,A=some ad∧w.cell? (ad.add (i.toNat*3))=some (.bool (rd_R xs i).f0)∧w.cell? ⟨(ad.add (i.toNat*3)).block,(ad.add (i.toNat*3)).off+1,none⟩=some (.slice A1 (rd_R xs i).f1.length c1)∧w.cell? ⟨(ad.add (i.toNat*3)).block,(ad.add (i.toNat*3)).off+2,none⟩=some (.slice A2 (rd_R xs i).f2.length c2)∧(rd_R xs i).f1.length≤c1∧(Kd.int .i64).C w A1 (rd_R xs i).f1.length (rd_R xs i).f1∧(rd_R xs i).f2.length≤c2∧(Kd.int .i64).C w A2 (rd_R xs i).f2.length (rd_R xs i).f2:=by
 obtain⟨ad,c,e,_,hK,hc0⟩:=Kd.C_get h zR i h0 h1
 have hc:∀ j u,c[j]? = some u→w.cell? (ad.add (i.toNat*3+j))=some u:=hc0
 obtain⟨A1,c1,A2,c2,rfl,l1,g1,l2,g2⟩:=kR_open hK
 exact⟨ad,A1,c1,A2,c2,e,hc 0 _ rfl,by rw [← add_field _ _ 1 (by omega)]; exact hc 1 _ rfl,by rw [← add_field _ _ 2 (by omega)]; exact hc 2 _ rfl,l1,g1,l2,g2⟩
theorem infoR:(Try.prog.info? 36).map (fun i=>(i.zero,i.size,i.bytes))=some (some (.agg #[(.bool false),(.slice none 0 0),(.slice none 0 0)]),3,56):=by kernel_rfl
theorem take_succ_R {es:List SR} {i:Nat} (h:i < es.length):es.take (i+1)=es.take i++[rd_R es (i:Int)]:=by
 rw [List.take_succ_eq_append_getElem h]
 congr 1
 simp [rd_R,List.getD_eq_getElem?_getD,List.getElem?_eq_getElem h]
structure OB (g:SR→M.S25) (w:World) (gO:Nat) (S BT1 BT2:Value) (sh:List Int) (es:List SR) (i:Nat) (W:World):Prop where
 v:∃ (E:Option Addr) (cE:Nat),W.heap[gO]? = some (.cells #[S,.slice E (es.take i).length cE] 67 (0,0))∧Kd.R M.k25 25 W w.heap.size (fun k=>gO < k) (.slice E (es.take i).length cE) ((es.take i).map g)
 sh:Kd.R (Kd.int .i64) 3 W w.heap.size (fun k=>k < gO) S sh
 bt:W.heap[w.heap.size]? = some (.cells #[BT1,BT2] 130 (0,0))
 bz:W.heap[w.heap.size+1]? = some (.cells #[.slice none 0 0,.slice none 0 0] 67 (0,0))
 be:Below w.heap.size w W
theorem tback_n (g:SR→M.S25) (A:Option Addr) (c:Nat) (sh:List Int) (B:Option Addr) (d:Nat) (es:List SR) (w:World) (hr1:Kd.C (Kd.int .i64) w A sh.length sh) (hc1:sh.length≤c) (hr2:Kd.C kR w B es.length es) (hc2:es.length≤d) (hl1:sh.length≤1099511627776) (hlen:es.length≤1099511627776) (hg:∀ x∈es,∃ k,M.fluxionref03_Back.f k x.f0 x.f1 x.f2=some ((g x).f0,(g x).f1,(g x).f2)) :
  Calls Try.prog 111 #[.agg #[.slice A sh.length c,.slice B es.length d]] w fun e w'=>∃ A' c' B' d',e=.returned (.agg #[.slice A' sh.length c',.slice B' es.length d']) ∧
   Kd.R (Kd.int .i64) 3 w' w.heap.size (fun _=>True) (.slice A' sh.length c') sh∧Kd.R M.k25 25 w' w.heap.size (fun _=>True) (.slice B' es.length d') (es.map g)∧Below w.heap.size w w':=by
 have hu67:=Try.underlying67
 have huT:=Try.underlying130
 have huR:=Try.underlying36
 have hu25:=Try.underlying25
 have HRC:=Aside0.mk (fun (W:World) (hb:Below w.heap.size w W)=>Kd.C_below hr1 hb)
 have HR2:=Aside0.mk hr2
 have HG:=Aside0.mk hg
 clear hr1 hr2 hg
 go_enter Try.func111,Try.ntmps111
 go_wp2_with ((with_reducible refine zbV (b:=.append) rfl ?_); go_must (refine wp_mixed rfl _ _ 65 33 3 3 rfl Try.underlying65 Try.underlying33 (fun Q' HQ'=>?_); refine Kd.R_append_row (Value.int .i64) (0:Int) _ rfl _ _ 65 3 (.int .i64 0) 8 rfl Try.underlying65 M.info3 rfl (by omega) (.slice none 0 0) [] sh A sh.length c (fun _=>True) rfl rfl (fun _ _=>trivial) (Kd.R_nil _ _ _ _ _) (HRC.out _ (zbq (zbq (Below.refl _ _) _) _)) (Below.refl _ _) (Nat.le_refl _) (by simp only [List.length_nil]; omega) ?_); intro v1 W1 hR hB hx1 hx2; refine HQ' _ _ ?_; clear hx1 hx2 HQ'; obtain⟨S1,k1,rfl⟩:=Kd.R_slice hR; have HS1:=Aside0.mk hR; have HB1:=Aside0.mk hB; clear hR hB)
 obtain⟨gO,hgO⟩:∃ g,g=W1.heap.size:=⟨_,rfl⟩
 have hsz0:((w.alloc (.cells #[.slice A sh.length c,.slice B es.length d] 130)).alloc (.cells #[.slice none 0 0,.slice none 0 0] 67)).heap.size=w.heap.size+1+1:=by simp
 have hx0:=zbw (zbt (zbw (zbL w (.cells #[.slice A sh.length c,.slice B es.length d] 130)) (.cells #[.slice none 0 0,.slice none 0 0] 67)) HB1.out) (.cells #[.slice S1 sh.length k1,.slice none 0 0] 67)
 have hx1:=zbL (w.alloc (.cells #[.slice A sh.length c,.slice B es.length d] 130)) (.cells #[.slice none 0 0,.slice none 0 0] 67)
 rw [show (w.alloc (.cells #[.slice A sh.length c,.slice B es.length d] 130)).heap.size=w.heap.size+1 by simp] at hx1
 replace hx1:=zbw (zbt hx1 HB1.out) (.cells #[.slice S1 sh.length k1,.slice none 0 0] 67)
 have hx2:=zbL W1 (.cells #[.slice S1 sh.length k1,.slice none 0 0] 67)
 have hbw:Below w.heap.size w (W1.alloc (.cells #[.slice S1 sh.length k1,.slice none 0 0] 67)):=zbq (zbp (zbq (zbq (Below.refl _ _) _) _) HB1.out) _
 have hsz1:=HB1.out.size
 rw [hsz0] at hsz1
 have hS1:Kd.R (Kd.int .i64) 3 W1 (w.heap.size+1+1) (fun _=>True) (.slice S1 sh.length k1) sh:=by
  have h:=HS1.out
  rw [hsz0] at h
  exact h
 have HI0:=Aside0.mk (show OB g w gO (.slice S1 sh.length k1) (.slice A sh.length c) (.slice B es.length d) sh es 0 (W1.alloc (.cells #[.slice S1 sh.length k1,.slice none 0 0] 67)) from
  ⟨⟨none,0,by rw [hgO]; exact hx2,Kd.R_nil _ _ _ _ _⟩,Kd.R_alloc (Kd.R_mono (Kd.R_lower (Kd.R_bound hS1) (by omega)) (fun k hk=>by rw [hgO]; exact hk.2.2.1)) _,hx0,hx1,hbw⟩)
 have HGO:=Aside0.mk (show w.heap.size+1 < gO by omega)
 rw [← hgO]
 generalize W1.alloc (.cells #[.slice S1 sh.length k1,.slice none 0 0] 67)=W2 at HI0 ⊢
 clear hx0 hx1 hx2 hbw hsz0 hsz1 hS1 HS1 HB1 hgO
 go_loopw [4] (fun iv wr=>∃ i:Nat,iv=.int .i64 i∧i≤es.length∧Aside0 (OB g w gO (.slice S1 sh.length k1) (.slice A sh.length c) (.slice B es.length d) sh es i wr)) (fun iv _=>es.length-(intOf iv).toNat)
 case atStart=>exact⟨0,rfl,by omega,HI0⟩
 case round =>
  obtain⟨i,rfl,hi,HI⟩:=hrel
  obtain⟨E,cE,hv1,hv2⟩:=HI.out.v
  by_cases hlt:i < es.length
  ·
   obtain⟨ad,A1,c1,A2,c2,e,q0,q1,q2,l1,g1,l2,g2⟩:=at_R HR2.out (i:Int) (by omega) (by omega)
   subst e
   rw [Int.toNat_natCast] at q0 q1 q2
   obtain⟨kk,hkk⟩:=HG.out (rd_R es (i:Int)) (by unfold rd_R; rw [Int.toNat_natCast,List.getD_eq_getElem?_getD,List.getElem?_eq_getElem hlt]; exact List.getElem_mem hlt)
   have HCO:=Aside0.mk (fun (W:World) (hb:Below w.heap.size w W)=>M.fluxionref03_Back.calls kk (rd_R es (i:Int)).f0 A1 c1 (rd_R es (i:Int)).f1 A2 c2 (rd_R es (i:Int)).f2 _ _ _ W (Kd.C_below g1 hb) l1 (Kd.C_below g2 hb) l2 hkk)
   clear hkk
   have HV2:=Aside0.mk hv2
   obtain⟨n,hn⟩:∃ n,n=(es.take i).length:=⟨_,rfl⟩
   have HN:=Aside0.mk hn
   rw [← hn] at hv1
   clear hv2 g1 g2 l1 l2 hn
   have HS:Aside0 (∀ w':World,Below w.heap.size w w'→w'.heap[gO]? = some (.cells #[.slice S1 sh.length k1,.slice E n cE] 67 (0,0))→w'.heap[w.heap.size]? = some (.cells #[.slice A sh.length c,.slice (some ad) es.length d] 130 (0,0))→(w'.cell? ⟨gO,1,none⟩=some (.slice E n cE)∧w'.cell? ⟨w.heap.size,1,none⟩=some (.slice (some ad) es.length d)∧w'.cell? (ad.add (i*3))=some (.bool (rd_R es (i:Int)).f0)∧w'.cell? ⟨(ad.add (i*3)).block,(ad.add (i*3)).off+1,none⟩=some (.slice A1 (rd_R es (i:Int)).f1.length c1)∧w'.cell? ⟨(ad.add (i*3)).block,(ad.add (i*3)).off+2,none⟩=some (.slice A2 (rd_R es (i:Int)).f2.length c2))):=⟨fun w' h h1 h2=>⟨(zbu h1 1).trans rfl,(zbu h2 1).trans rfl,(h.cell (World.block_lt_of_cell? w _ q0)).trans q0,(h.cell (World.block_lt_of_cell? w _ q1)).trans q1,(h.cell (World.block_lt_of_cell? w _ q2)).trans q2⟩⟩
   clear q0 q1 q2
   have s0:=(HS.out wr HI.out.be hv1 HI.out.bt)
   obtain⟨s1,s2,s3,s4,s5⟩:=s0
   go_wp2_with fail
   clear s1 s2 s3 s4 s5
   refine start_ (n:=12) (S:=fun w'=>(w'.cell? ⟨gO,1,none⟩=some (.slice E n cE)∧w'.cell? ⟨w.heap.size,1,none⟩=some (.slice (some ad) es.length d)∧w'.cell? (ad.add (i*3))=some (.bool (rd_R es (i:Int)).f0)∧w'.cell? ⟨(ad.add (i*3)).block,(ad.add (i*3)).off+1,none⟩=some (.slice A1 (rd_R es (i:Int)).f1.length c1)∧w'.cell? ⟨(ad.add (i*3)).block,(ad.add (i*3)).off+2,none⟩=some (.slice A2 (rd_R es (i:Int)).f2.length c2))) (ds:=[11]) #[zf,zf,zf,zf,zf,zf,zf,zf,zf,zf,zf,zf] (by kernel_rfl) rfl rfl ((HS.out _ (zbp HI.out.be (zbv (Below.refl _ _))) (zbx hv1) (zbx HI.out.bt))) (fun hHeld=>?_)
   have hb0:=Aside0.mk (show Below wr.heap.size wr wr.drew from zbv (Below.refl _ _))
   generalize wr.drew=V0 at hb0 hHeld ⊢
   refine qp 0 (some 16) ?_
   refine qp 2 (some 18) ?_
   refine qp 4 (some 20) ?_
   refine qt 1 (some 17) ?_
   refine qt 3 (some 19) ?_
   refine qp 5 (some 21) ?_
   refine qt 6 (some 22) ?_
   refine qo 7 (some 23) (fun K hK=>?_)
   refine qg Try.func131 #[.agg #[.bool (rd_R es (i:Int)).f0,.slice A1 (rd_R es (i:Int)).f1.length c1,.slice A2 (rd_R es (i:Int)).f2.length c2]] ?_
   refine(HCO.out V0 (zbp HI.out.be hb0.out)).mono ?_
   rintro e V1 ⟨u1,u2,rfl,R1,R2,hB⟩
   refine⟨_,rfl,?_⟩
   obtain⟨F1,f1,rfl⟩:=Kd.R_slice R1
   obtain⟨F2,f2,rfl⟩:=Kd.R_slice R2
   have HP:=Aside0.mk (M.k25_mkM V1 w.heap.size (fun k=>V0.heap.size≤k) (g (rd_R es (i:Int))) (Kd.R_mono (Kd.R_lower (Kd.R_bound R1) (zbp HI.out.be hb0.out).size) (fun k hk=>hk.2.1)) (Kd.R_mono (Kd.R_lower (Kd.R_bound R2) (zbp HI.out.be hb0.out).size) (fun k hk=>hk.2.1)))
   have hb1:=Aside0.mk (zbp hb0.out hB)
   clear hB R1 R2
   refine hK.out _ _ ((HS.out _ (zbp HI.out.be hb1.out) (zbt hv1 hb1.out) (zbt HI.out.bt hb1.out))) (fun hHeld=>?_)
   clear hK K
   refine qn ?_
   refine qo 8 (some 24) (fun K hK=>?_)
   refine qv ?_
   refine hK.out _ _ ((HS.out _ (zbq (zbp HI.out.be hb1.out) _) (zbw (zbt hv1 hb1.out) _) (zbw (zbt HI.out.bt hb1.out) _))) (fun hHeld=>?_)
   clear hK K
   refine qn ?_
   refine qo 9 (some 25) (fun K hK=>?_)
   have hO:=Kd.R_below HV2.out hb1.out
   rw [← HN.out] at hO
   refine Kd.R_append_step M.k25 (w0:=w) (W:=V1) w.heap.size (by rfl) (.tmp 17) (.tmp 24) 62 25 (.agg #[.bool false,.slice none 0 0,.slice none 0 0]) 56 rfl Try.underlying62 J.info25 rfl (by decide) (by decide) (.slice E n cE) ((es.take i).map g) (g (rd_R es (i:Int))) [.bool (g (rd_R es (i:Int))).f0,.slice F1 (g (rd_R es (i:Int))).f1.length f1,.slice F2 (g (rd_R es (i:Int))).f2.length f2] (fun k=>gO < k) (fun k=>V0.heap.size≤k) rfl rfl HP.out (fun k hk=>⟨by have:=zbQ (zbt hv1 hb0.out); omega,fun e=>by have:=Kd.R_lt (Kd.R_below HV2.out hb0.out) k (by rw [← HN.out]; exact e.symm); omega⟩) (fun k hk=>by have:=zbQ (zbt hv1 hb1.out); omega) hO (zbp HI.out.be hb1.out) (zbp HI.out.be hb1.out).size (by rw [List.length_map,List.length_take]; omega) ?_
   intro v1 V2 hR hB hG hat
   have hne:∀ b o,wr.heap[b]? = some o→b≤gO→V2.heap[b]? = some o:=fun b o hbo hle=>blk_grown (zbt hbo hb1.out) hG (fun e=>by have:=HV2.out.1 b (by rw [← HN.out]; exact e.symm); omega)
   have hsh:=Kd.R_grown (Kd.R_below HI.out.sh hb1.out) hG (fun k hk e=>by have:=HV2.out.1 k (by rw [← HN.out]; exact e.symm); omega)
   obtain⟨E2,e2,rfl⟩:=Kd.R_slice hR
   have HQ:=Aside0.mk (And.intro hR (And.intro hB (And.intro hsh (And.intro (hne _ _ HI.out.bt (by have:=HGO.out; omega)) (And.intro (hne _ _ HI.out.bz (by have:=HGO.out; omega)) (hne _ _ hv1 (Nat.le_refl _)))))))
   clear hR hB hG hat hne hsh hO
   refine hK.out _ _ ((HS.out _ HQ.out.2.1 HQ.out.2.2.2.2.2 HQ.out.2.2.2.1)) (fun hHeld=>?_)
   clear hK K
   refine qn ?_
   refine qp 10 (some 26) ?_
   refine ql 11 none (fun K hK=>?_)
   have hf3:=zbD HQ.out.2.2.2.2.2 1
   have hc3:V2.cell? ⟨gO,1,none⟩=some (.slice E n cE):=(zbu HQ.out.2.2.2.2.2 1).trans rfl
   refine qx ?_
   refine hK.out _ _ ?_
   clear hK K
   refine done_ (by kernel_rfl) ?_
   clear hHeld hf3 hc3
   go_wp2
   go_roundw
   case rel =>
    refine⟨i+1,by go_num,by omega,⟨⟨⟨E2,e2,?_,?_⟩,Kd.R_far (p:=⟨gO,1,none⟩) HQ.out.2.2.1 (fun k hk=>Nat.ne_of_lt hk) _,zbP HQ.out.2.2.2.1 (by have:=HGO.out; show w.heap.size≠gO; omega) _,zbP HQ.out.2.2.2.2.1 (by have:=HGO.out; show w.heap.size+1≠gO; omega) _,zbE HQ.out.2.1 (by have:=HGO.out; show w.heap.size≤gO; omega)⟩⟩⟩
    ·
     have hl:(es.take (i+1)).length=i+1:=by rw [List.length_take]; omega
     rw [hl]
     exact zbK (cs:=#[.slice S1 sh.length k1,.slice E n cE]) HQ.out.2.2.2.2.2 1 _ rfl
    ·
     have he:(es.take (i+1)).map g=(es.take i).map g++[g (rd_R es (i:Int))]:=by rw [take_succ_R hlt,List.map_append]; rfl
     have hln:(es.take (i+1)).length=((es.take i).map g++[g (rd_R es (i:Int))]).length:=by rw [← he,List.length_map]
     rw [hln,he]
     exact Kd.R_far (p:=⟨gO,1,none⟩) HQ.out.1 (fun k hk=>Nat.ne_of_gt hk) _
   case measure=>simp [intOf]; omega
  ·
   have hie:es.take i=es:=List.take_of_length_le (by omega)
   rw [hie] at hv1 hv2
   have c1:wr.cell? ⟨w.heap.size,1,none⟩=some (.slice B es.length d):=(zbu HI.out.bt 1).trans rfl
   have o0:wr.cell? ⟨gO,0,none⟩=some (.slice S1 sh.length k1):=(zbu hv1 0).trans rfl
   have o1:wr.cell? ⟨gO,1,none⟩=some (.slice E es.length cE):=(zbu hv1 1).trans rfl
   have z0:wr.cell? ⟨w.heap.size+1,0,none⟩=some (.slice none 0 0):=(zbu HI.out.bz 0).trans rfl
   have z1:wr.cell? ⟨w.heap.size+1,1,none⟩=some (.slice none 0 0):=(zbu HI.out.bz 1).trans rfl
   have y0:=zbD HI.out.bz 0
   have y1:=zbD HI.out.bz 1
   have HV2:=Aside0.mk hv2
   clear hv1 hv2 hie
   go_wp2
   have hn1:=zbK (cs':=#[.slice S1 sh.length k1,.slice E es.length cE]) (zbK (cs':=#[.slice S1 sh.length k1,.slice none 0 0]) HI.out.bz 0 (.slice S1 sh.length k1) rfl) 1 (.slice E es.length cE) rfl
   refine bodyPost_ret (results_cell_row rfl _ _ (w.heap.size+1) 67 _ (0,0) _ rfl hn1 hu67 rfl (by kernel_rfl)) rfl ?_
   have hgo:=HGO.out
   have hsh:Kd.R (Kd.int .i64) 3 wr w.heap.size (fun k=>k≠w.heap.size+1) (.slice S1 sh.length k1) sh:=Kd.R_mono (Kd.R_types HI.out.sh HI.out.bz (by decide)) (fun k hk=>hk.2)
   exact⟨S1,k1,E,cE,rfl,Kd.R_mono (Kd.R_far (p:=⟨w.heap.size+1,1,none⟩) (Kd.R_far (p:=⟨w.heap.size+1,0,none⟩) hsh (fun k hk=>hk) _) (fun k hk=>hk) _) (fun _ _=>trivial),
    Kd.R_mono (Kd.R_far (p:=⟨w.heap.size+1,1,none⟩) (Kd.R_far (p:=⟨w.heap.size+1,0,none⟩) HV2.out (fun k hk=>by show k≠w.heap.size+1; omega) _) (fun k hk=>by show k≠w.heap.size+1; omega) _) (fun _ _=>trivial),
    zbE (zbE HI.out.be (by show w.heap.size≤w.heap.size+1; omega)) (by show w.heap.size≤w.heap.size+1; omega)⟩
end Go.Proofs.Ytehghijlchpeaaa.Nat1
end
section
namespace Go.Proofs.Ytehghijlchpeaaa.Nat1
open Go.RowKit YtehghijlchpeaaaW.PrintWords YtehghijlchpeaaaW.PrintLast YtehghijlchpeaaaW.PrintMore L Nt Ev
def iR (x:Int):SR:=⟨decide (x < 0),dg 10000 x.natAbs,dg 10000 1⟩
structure OW (w:World) (S:Value) (l:List Int) (i:Nat) (W:World):Prop where
 v:∃ (E:Option Addr) (cE:Nat),W.heap[w.heap.size+1]? = some (.cells #[S,.slice E (l.take i).length cE] 130 (0,0))∧Kd.R kR 36 W w.heap.size (fun k=>w.heap.size+1 < k) (.slice E (l.take i).length cE) ((l.take i).map iR)
 bz:W.heap[w.heap.size]? = some (.cells #[.slice none 0 0,.slice none 0 0] 67 (0,0))
 be:Below w.heap.size w W
theorem take_succ_i {l:List Int} {i:Nat} (h:i < l.length):l.take (i+1)=l.take i++[rd l (i:Int)]:=by
 rw [List.take_succ_eq_append_getElem h]
 congr 1
 simp [rd,List.getD_eq_getElem?_getD,List.getElem?_eq_getElem h]
theorem rd_mem_i {l:List Int} {i:Nat} (h:i < l.length):rd l (i:Int)∈l:=by
 unfold rd
 rw [Int.toNat_natCast,List.getD_eq_getElem?_getD,List.getElem?_eq_getElem h]
 exact List.getElem_mem h
theorem twhole_n (g:SR→M.S25) (A:Option Addr) (c:Nat) (sh:List Int) (B:Option Addr) (d:Nat) (l:List Int) (w:World) (hr1:Kd.C (Kd.int .i64) w A sh.length sh) (hc1:sh.length≤c) (hr2:Kd.C (Kd.int .i64) w B l.length l) (hc2:l.length≤d) (hl1:sh.length≤1099511627776) (hlen:l.length≤1099511627776) (hb:∀ x∈l,-9223372036854775808≤x∧x < 9223372036854775808) (hg:∀ x∈l.map iR,∃ k,M.fluxionref03_Back.f k x.f0 x.f1 x.f2=some ((g x).f0,(g x).f1,(g x).f2)) :
  Calls Try.prog 87 #[.slice A sh.length c,.slice B l.length d] w fun e w'=>∃ A' c' B' d',e=.returned (.agg #[.slice A' sh.length c',.slice B' l.length d']) ∧
   Kd.R (Kd.int .i64) 3 w' w.heap.size (fun _=>True) (.slice A' sh.length c') sh∧Kd.R M.k25 25 w' w.heap.size (fun _=>True) (.slice B' l.length d') (l.map (fun x=>g (iR x)))∧Below w.heap.size w w':=by
 have hu67:=Try.underlying67
 have huT:=Try.underlying130
 have huR:=Try.underlying36
 have HRC:=Aside0.mk (fun (W:World) (hb:Below w.heap.size w W)=>Kd.C_below hr1 hb)
 have HR2:=Aside0.mk hr2
 have HBD:=Aside0.mk hb
 have HG:=Aside0.mk hg
 clear hr1 hr2 hb hg
 go_enter Try.func87,Try.ntmps87
 go_wp2_with fail
 have hx0:=zbw (zbL w (.cells #[.slice none 0 0,.slice none 0 0] 67)) (.cells #[.slice A sh.length c,.slice none 0 0] 130)
 have hx1:=zbL (w.alloc (.cells #[.slice none 0 0,.slice none 0 0] 67)) (.cells #[.slice A sh.length c,.slice none 0 0] 130)
 rw [show (w.alloc (.cells #[.slice none 0 0,.slice none 0 0] 67)).heap.size=w.heap.size+1 by simp] at hx1
 have hbw:Below w.heap.size w ((w.alloc (.cells #[.slice none 0 0,.slice none 0 0] 67)).alloc (.cells #[.slice A sh.length c,.slice none 0 0] 130)):=zbq (zbq (Below.refl _ _) _) _
 have HI0:=Aside0.mk (show OW w (.slice A sh.length c) l 0 ((w.alloc (.cells #[.slice none 0 0,.slice none 0 0] 67)).alloc (.cells #[.slice A sh.length c,.slice none 0 0] 130)) from ⟨⟨none,0,hx1,Kd.R_nil _ _ _ _ _⟩,hx0,hbw⟩)
 generalize ((w.alloc (.cells #[.slice none 0 0,.slice none 0 0] 67)).alloc (.cells #[.slice A sh.length c,.slice none 0 0] 130))=W2 at HI0 ⊢
 clear hx0 hx1 hbw
 go_loopw [6] (fun iv wr=>∃ i:Nat,iv=.int .i64 i∧i≤l.length∧Aside0 (OW w (.slice A sh.length c) l i wr)) (fun iv _=>l.length-(intOf iv).toNat)
 case atStart=>exact⟨0,rfl,by omega,HI0⟩
 case round =>
  obtain⟨i,rfl,hi,HI⟩:=hrel
  obtain⟨E,cE,hv1,hv2⟩:=HI.out.v
  by_cases hlt:i < l.length
  ·
   obtain⟨ad,e,q0⟩:=Kd.at_int HR2.out (i:Int) (by omega) (by omega)
   subst e
   rw [Int.toNat_natCast] at q0
   have hbd:=HBD.out _ (rd_mem_i hlt)
   have HCI:=Aside0.mk (fun (W:World)=>ref_int_n (x:=rd l (i:Int)) W hbd.1 hbd.2)
   have HV2:=Aside0.mk hv2
   obtain⟨n,hn⟩:∃ n,n=(l.take i).length:=⟨_,rfl⟩
   have HN:=Aside0.mk hn
   rw [← hn] at hv1
   clear hv2 hn hbd
   have HS:Aside0 (∀ w':World,Below w.heap.size w w'→w'.heap[w.heap.size+1]? = some (.cells #[.slice A sh.length c,.slice E n cE] 130 (0,0))→(w'.cell? ⟨w.heap.size+1,1,none⟩=some (.slice E n cE)∧w'.cell? (ad.add i)=some (.int .i64 (rd l (i:Int))))):=⟨fun w' h h1=>⟨(zbu h1 1).trans rfl,(h.cell (World.block_lt_of_cell? w _ q0)).trans q0⟩⟩
   clear q0
   obtain⟨s1,s2⟩:=(HS.out wr HI.out.be hv1)
   go_wp2_with fail
   clear s1 s2
   refine start_ (n:=11) (S:=fun w'=>(w'.cell? ⟨w.heap.size+1,1,none⟩=some (.slice E n cE)∧w'.cell? (ad.add i)=some (.int .i64 (rd l (i:Int))))) (ds:=[10]) #[zf,zf,zf,zf,zf,zf,zf,zf,zf,zf,zf] (by kernel_rfl) rfl rfl ((HS.out _ (zbp HI.out.be (zbv (Below.refl _ _))) (zbx hv1))) (fun hHeld=>?_)
   have hb0:=Aside0.mk (show Below wr.heap.size wr wr.drew from zbv (Below.refl _ _))
   generalize wr.drew=V0 at hb0 hHeld ⊢
   refine qp 0 (some 15) ?_
   refine qp 2 (some 17) ?_
   refine qp 3 (some 18) ?_
   refine qp 4 (some 19) ?_
   refine qt 1 (some 16) ?_
   refine qt 5 (some 20) ?_
   refine qo 6 (some 21) (fun K hK=>?_)
   refine qg Try.func27 #[.int .i64 (rd l (i:Int))] ?_
   refine(HCI.out V0).mono ?_
   rintro e V1 ⟨v,rfl,⟨u1,u2,rfl,R1,R2⟩,hB⟩
   refine⟨_,rfl,?_⟩
   obtain⟨F1,f1,rfl⟩:=Kd.R_slice R1
   obtain⟨F2,f2,rfl⟩:=Kd.R_slice R2
   have HP:=Aside0.mk (kR_mkM V1 w.heap.size (fun k=>V0.heap.size≤k) (iR (rd l (i:Int))) (Kd.R_mono (Kd.R_lower (Kd.R_bound R1) (zbp HI.out.be hb0.out).size) (fun k hk=>hk.2.1)) (Kd.R_mono (Kd.R_lower (Kd.R_bound R2) (zbp HI.out.be hb0.out).size) (fun k hk=>hk.2.1)))
   have hb1:=Aside0.mk (zbp hb0.out hB)
   clear hB R1 R2
   refine hK.out _ _ ((HS.out _ (zbp HI.out.be hb1.out) (zbt hv1 hb1.out))) (fun hHeld=>?_)
   clear hK K
   refine qn ?_
   refine qo 7 (some 22) (fun K hK=>?_)
   refine qv ?_
   refine hK.out _ _ ((HS.out _ (zbq (zbp HI.out.be hb1.out) _) (zbw (zbt hv1 hb1.out) _))) (fun hHeld=>?_)
   clear hK K
   refine qn ?_
   refine qo 8 (some 23) (fun K hK=>?_)
   have hO:=Kd.R_below HV2.out hb1.out
   rw [← HN.out] at hO
   refine Kd.R_append_step kR (w0:=w) (W:=V1) w.heap.size (by rfl) (.tmp 16) (.tmp 22) 128 36 (.agg #[.bool false,.slice none 0 0,.slice none 0 0]) 56 rfl Try.underlying128 infoR rfl (by decide) (by decide) (.slice E n cE) ((l.take i).map iR) (iR (rd l (i:Int))) [.bool (iR (rd l (i:Int))).f0,.slice F1 (iR (rd l (i:Int))).f1.length f1,.slice F2 (iR (rd l (i:Int))).f2.length f2] (fun k=>w.heap.size+1 < k) (fun k=>V0.heap.size≤k) rfl rfl HP.out (fun k hk=>⟨by have:=zbQ (zbt hv1 hb0.out); omega,fun e=>by have:=Kd.R_lt (Kd.R_below HV2.out hb0.out) k (by rw [← HN.out]; exact e.symm); omega⟩) (fun k hk=>by have:=zbQ (zbt hv1 hb1.out); omega) hO (zbp HI.out.be hb1.out) (zbp HI.out.be hb1.out).size (by rw [List.length_map,List.length_take]; omega) ?_
   intro v1 V2 hR hB hG hat
   have hne:∀ b o,wr.heap[b]? = some o→b≤w.heap.size+1→V2.heap[b]? = some o:=fun b o hbo hle=>blk_grown (zbt hbo hb1.out) hG (fun e=>by have:=HV2.out.1 b (by rw [← HN.out]; exact e.symm); omega)
   obtain⟨E2,e2,rfl⟩:=Kd.R_slice hR
   have HQ:=Aside0.mk (And.intro hR (And.intro hB (And.intro (hne _ _ HI.out.bz (by omega)) (hne _ _ hv1 (Nat.le_refl _)))))
   clear hR hB hG hat hne hO
   refine hK.out _ _ ((HS.out _ HQ.out.2.1 HQ.out.2.2.2)) (fun hHeld=>?_)
   clear hK K
   refine qn ?_
   refine qp 9 (some 24) ?_
   refine ql 10 none (fun K hK=>?_)
   have hf3:=zbD HQ.out.2.2.2 1
   have hc3:V2.cell? ⟨w.heap.size+1,1,none⟩=some (.slice E n cE):=(zbu HQ.out.2.2.2 1).trans rfl
   refine qx ?_
   refine hK.out _ _ ?_
   clear hK K
   refine done_ (by kernel_rfl) ?_
   clear hHeld hf3 hc3
   go_wp2
   go_roundw
   case rel =>
    have he:(l.take (i+1)).map iR=(l.take i).map iR++[iR (rd l (i:Int))]:=by rw [take_succ_i hlt,List.map_append]; rfl
    have hln:(l.take (i+1)).length=((l.take i).map iR++[iR (rd l (i:Int))]).length:=by rw [← he,List.length_map]
    refine⟨i+1,by go_num,by omega,⟨⟨⟨E2,e2,?_,?_⟩,zbP HQ.out.2.2.1 (by show w.heap.size≠w.heap.size+1; omega) _,zbE HQ.out.2.1 (by show w.heap.size≤w.heap.size+1; omega)⟩⟩⟩
    ·
     have hl:(l.take (i+1)).length=i+1:=by rw [List.length_take]; omega
     rw [hl]
     exact zbK (cs:=#[.slice A sh.length c,.slice E n cE]) HQ.out.2.2.2 1 _ rfl
    ·
     rw [hln,he]
     exact Kd.R_far (p:=⟨w.heap.size+1,1,none⟩) HQ.out.1 (fun k hk=>Nat.ne_of_gt hk) _
   case measure=>simp [intOf]; omega
  ·
   have hie:l.take i=l:=List.take_of_length_le (by omega)
   rw [hie] at hv1 hv2
   have o0:wr.cell? ⟨w.heap.size+1,0,none⟩=some (.slice A sh.length c):=(zbu hv1 0).trans rfl
   have o1:wr.cell? ⟨w.heap.size+1,1,none⟩=some (.slice E l.length cE):=(zbu hv1 1).trans rfl
   have hB2:=tback_n g A c sh E cE (l.map iR) wr (HRC.out _ HI.out.be) hc1 (by have:=(Kd.R_reads' hv2).2.2; exact this) (by rw [List.length_map]; exact(Kd.R_reads' hv2).2.1) hl1 (by rw [List.length_map]; exact hlen) HG.out
   rw [List.length_map] at hB2
   have HB2:=Aside0.mk hB2
   clear hv1 hv2 hie hB2
   go_wp2_with fail
   clear o0 o1
   refine HB2.out.mono ?_
   rintro e W3 ⟨A',c',B',d',rfl,R1,R2,hB⟩
   have hz:=zbt HI.out.bz hB
   have z0:W3.cell? ⟨w.heap.size,0,none⟩=some (.slice none 0 0):=(zbu hz 0).trans rfl
   have z1:W3.cell? ⟨w.heap.size,1,none⟩=some (.slice none 0 0):=(zbu hz 1).trans rfl
   have y0:=zbD hz 0
   have y1:=zbD hz 1
   have HE:=Aside0.mk (And.intro R1 (And.intro R2 (And.intro hz (zbp HI.out.be hB))))
   have HSZ:=Aside0.mk HI.out.be.size
   have HLW:=Aside0.mk (zbQ HI.out.bz)
   clear R1 R2 hz hB HB2
   go_wp2
   have hn1:=zbK (cs':=#[.slice A' sh.length c',.slice B' l.length d']) (zbK (cs':=#[.slice A' sh.length c',.slice none 0 0]) HE.out.2.2.1 0 (.slice A' sh.length c') rfl) 1 (.slice B' l.length d') rfl
   refine bodyPost_ret (results_cell_row rfl _ _ w.heap.size 67 _ (0,0) _ rfl hn1 hu67 rfl (by kernel_rfl)) rfl ?_
   have hlw:=HLW.out
   have h1:Kd.R (Kd.int .i64) 3 W3 w.heap.size (fun k=>k≠w.heap.size) (.slice A' sh.length c') sh:=Kd.R_mono (Kd.R_lower (Kd.R_bound HE.out.1) HSZ.out) (fun k hk=>by have:=hk.2.1; omega)
   have h2:Kd.R M.k25 25 W3 w.heap.size (fun k=>k≠w.heap.size) (.slice B' l.length d') ((l.map iR).map g):=Kd.R_mono (Kd.R_lower (Kd.R_bound HE.out.2.1) HSZ.out) (fun k hk=>by have:=hk.2.1; omega)
   rw [List.map_map] at h2
   exact⟨A',c',B',d',rfl,Kd.R_mono (Kd.R_far (p:=⟨w.heap.size,1,none⟩) (Kd.R_far (p:=⟨w.heap.size,0,none⟩) h1 (fun k hk=>hk) _) (fun k hk=>hk) _) (fun _ _=>trivial),
    Kd.R_mono (Kd.R_far (p:=⟨w.heap.size,1,none⟩) (Kd.R_far (p:=⟨w.heap.size,0,none⟩) h2 (fun k hk=>hk) _) (fun k hk=>hk) _) (fun _ _=>trivial),
    zbE (zbE HE.out.2.2.2 (Nat.le_refl _)) (Nat.le_refl _)⟩
end Go.Proofs.Ytehghijlchpeaaa.Nat1
end
section
namespace Go.Proofs.Ytehghijlchpeaaa.Nat1
open Go.RowKit YtehghijlchpeaaaW.PrintWords YtehghijlchpeaaaW.PrintLast YtehghijlchpeaaaW.PrintMore L Nt Ev
theorem makeF_n (A:Option Addr) (c:Nat) (sh:List Int) (B:Option Addr) (d:Nat) (es:List M.S25) (w:World) (hr1:Kd.C (Kd.int .i64) w A sh.length sh) (hc1:sh.length≤c) (hr2:Kd.C M.k25 w B es.length es) (hc2:es.length≤d) (hne:fitV sh es.length≠0) :
  Calls Try.prog 89 #[.slice A sh.length c,.slice B es.length d] w fun e w'=>e=.returned (.tuple #[.agg #[.slice none 0 0,.slice none 0 0],.int .i64 (fitV sh es.length)])∧Below w.heap.size w w':=by
 have hu67:=Try.underlying67
 have HFIT:=Aside0.mk (fun (W:World) (hb:Below w.heap.size w W)=>by
  obtain⟨k,hk⟩:=fits_ev sh es
  exact M.tensor_fits.calls k A c sh B d es _ W (Kd.C_below hr1 hb) hc1 (Kd.C_below hr2 hb) hc2 (hk k (Nat.le_refl _)))
 generalize fitV sh es.length=f at HFIT hne ⊢
 clear hr1 hr2
 go_enter Try.func89,Try.ntmps89
 go_wp2_with fail
 have hx0:=zbw (zbL w (.cells #[.slice none 0 0,.slice none 0 0] 67)) (.cells #[.slice A sh.length c,.slice B es.length d] 67)
 have hbw:Below w.heap.size w ((w.alloc (.cells #[.slice none 0 0,.slice none 0 0] 67)).alloc (.cells #[.slice A sh.length c,.slice B es.length d] 67)):=zbq (zbq (Below.refl _ _) _) _
 generalize (w.alloc (.cells #[.slice none 0 0,.slice none 0 0] 67)).alloc (.cells #[.slice A sh.length c,.slice B es.length d] 67)=W0 at hx0 hbw ⊢
 refine(HFIT.out W0 hbw).mono ?_
 rintro e W1 ⟨rfl,hB⟩
 replace hx0:=zbt hx0 hB
 replace hbw:=zbp hbw hB
 have z0:W1.cell? ⟨w.heap.size,0,none⟩=some (.slice none 0 0):=(zbu hx0 0).trans rfl
 have z1:W1.cell? ⟨w.heap.size,1,none⟩=some (.slice none 0 0):=(zbu hx0 1).trans rfl
 have y0:=zbD hx0 0
 have y1:=zbD hx0 1
 have HX:=Aside0.mk (And.intro hx0 hbw)
 have hf1:(f == 0)=false:=by rw [beq_eq_false_iff_ne]; exact hne
 have hf2:(f != 0)=true:=by rw [bne_iff_ne]; exact hne
 clear hx0 hbw hB HFIT
 go_wp2
 have hn1:=zbK (cs':=#[.slice none 0 0,.slice none 0 0]) (zbK (cs':=#[.slice none 0 0,.slice none 0 0]) HX.out.1 0 (.slice none 0 0) rfl) 1 (.slice none 0 0) rfl
 refine bodyPost_ret (results_ct rfl _ _ w.heap.size 67 _ (0,0) _ rfl hn1 hu67 rfl (by kernel_rfl)) rfl ?_
 exact⟨rfl,zbE (zbE HX.out.2 (Nat.le_refl _)) (Nat.le_refl _)⟩
end Go.Proofs.Ytehghijlchpeaaa.Nat1
end
section
namespace Go.Proofs.Ytehghijlchpeaaa.Ev
open Go.RowKit YtehghijlchpeaaaW.PrintWords YtehghijlchpeaaaW.PrintLast YtehghijlchpeaaaW.PrintMore L Nt Nat1
theorem eqS_loop {l:List Int} (hl:l.length≤4611686018427387904) (n:Nat):∀ i,i+n=l.length→Ev (fun k=>M.api_Shape_int.l0 k l l (l.length:Int) (i:Int)) true:=by
 induction n with
 | zero =>
  intro i hi
  refine Ev.succ (Ev.congr (Ev.some _) (fun k=>?_))
  rw [M.api_Shape_int.l0,if_neg (by omega)]
 | succ n ih =>
  intro i hi
  refine Ev.succ (Ev.congr (ih (i+1) (by omega)) (fun k=>?_))
  rw [M.api_Shape_int.l0,if_pos (by omega),if_pos (by omega),if_pos (by omega),if_pos (by omega),if_pos rfl,w_succ (by omega)]
theorem eqS_ev {l:List Int} (hl:l.length≤4611686018427387904):Ev (fun k=>M.api_Shape_int.f k l l) true:=by
 refine Ev.congr (eqS_loop hl l.length 0 (by omega)) (fun k=>?_)
 rw [M.api_Shape_int.f,if_pos rfl]
 rfl
end Go.Proofs.Ytehghijlchpeaaa.Ev
namespace Go.Proofs.Ytehghijlchpeaaa.Nat1
open Go.RowKit YtehghijlchpeaaaW.PrintWords YtehghijlchpeaaaW.PrintLast YtehghijlchpeaaaW.PrintMore L Nt Ev
def zbJ (es fs:List M.S25):Nat→QN
 | 0=>(false,0,1)
 | i+1=>addQ (zbJ es fs i) (mulQ (eN (M.rd_T25 es (i:Int))) (eN (M.rd_T25 fs (i:Int))))
theorem red_eN (x:M.S25):red (eN x):=nrm_red _ _ _
theorem red_dotP (es fs:List M.S25):∀ i,red (zbJ es fs i)
 | 0=>show red ((false,0,1):QN) from ⟨by decide,by decide,by decide⟩
 | i+1=>red_add _ _
theorem lim_dotP {es fs:List M.S25} {L:Nat} (h1:∀ i:Nat,lim L (eN (M.rd_T25 es (i:Int)))) (h2:∀ i:Nat,lim L (eN (M.rd_T25 fs (i:Int)))) (hL:0 < L):∀ i,lim (1+i*(L+L+1)) (zbJ es fs i)
 | 0=>⟨show 0 < B32 ^ _ from Nat.pow_pos (by decide),show 1 < B32 ^ (1+0*(L+L+1)) by rw [Nat.zero_mul]; decide⟩
 | i+1=>by
  have h:=lim_add (lim_dotP h1 h2 hL i) (lim_mul (h1 i) (h2 i) (by omega))
  have e:1+i*(L+L+1)+(L+L)+1=1+(i+1)*(L+L+1):=by rw [Nat.succ_mul]; omega
  rw [e] at h
  exact h
end Go.Proofs.Ytehghijlchpeaaa.Nat1
end
section
namespace Go.Proofs.Ytehghijlchpeaaa.Nat1
open Go.RowKit Go.Shelf YtehghijlchpeaaaW.PrintWords YtehghijlchpeaaaW.PrintLast YtehghijlchpeaaaW.PrintMore L Nt Ev Rd
attribute [local go_sem] Oper.semAt_some
def dotF (es fs:List M.S25) (a:QN) (i:Nat):QN:=addQ a (mulQ (eN (M.rd_T25 es (i:Int))) (eN (M.rd_T25 fs (i:Int))))
def dotI (es fs:List M.S25) (l:List Nat):QN:=l.foldl (dotF es fs) (false,0,1)
theorem dotI_range (es fs:List M.S25):∀ n,dotI es fs (List.range n)=zbJ es fs n
 | 0=>rfl
 | n+1=>by
  rw [List.range_succ,dotI,List.foldl_append]
  show dotF es fs (dotI es fs (List.range n)) n=_
  rw [dotI_range es fs n]
  rfl
theorem dotI_snoc (es fs:List M.S25) (l:List Nat) (i:Nat):dotI es fs (l++[i])=addQ (dotI es fs l) (mulQ (eN (M.rd_T25 es (i:Int))) (eN (M.rd_T25 fs (i:Int)))):=by
 rw [dotI,List.foldl_append]
 rfl
theorem red_foldl (es fs:List M.S25):∀ (l:List Nat) (a:QN),red a→red (l.foldl (dotF es fs) a)
 | [],_,h=>h
 | _ :: l,_,_=>red_foldl es fs l _ (red_add _ _)
theorem red_dotI (es fs:List M.S25) (l:List Nat):red (dotI es fs l):=red_foldl es fs l _ (show red ((false,0,1):QN) from ⟨by decide,by decide,by decide⟩)
theorem lim_foldl {es fs:List M.S25} {L:Nat} (h1:∀ i:Nat,lim L (eN (M.rd_T25 es (i:Int)))) (h2:∀ i:Nat,lim L (eN (M.rd_T25 fs (i:Int)))) (hL:0 < L):∀ (l:List Nat) (a:QN) (k:Nat),lim k a→lim (k+l.length*(L+L+1)) (l.foldl (dotF es fs) a)
 | [],a,k,h=>by rw [List.length_nil,Nat.zero_mul]; exact h
 | x :: l,a,k,h=>by
  have h3:=lim_foldl h1 h2 hL l _ _ (lim_add h (lim_mul (h1 x) (h2 x) (by omega)))
  have e:k+(L+L)+1+l.length*(L+L+1)=k+(x :: l).length*(L+L+1):=by rw [List.length_cons,Nat.succ_mul]; omega
  rw [e] at h3
  exact h3
theorem lim_dotI {es fs:List M.S25} {L:Nat} (h1:∀ i:Nat,lim L (eN (M.rd_T25 es (i:Int)))) (h2:∀ i:Nat,lim L (eN (M.rd_T25 fs (i:Int)))) (hL:0 < L) (l:List Nat):lim (1+l.length*(L+L+1)) (dotI es fs l) :=
 lim_foldl h1 h2 hL l _ 1 ⟨by decide,by decide⟩
theorem lim_eN {es:List M.S25} {L:Nat} (hL:0 < L) (h:∀ x∈es,eOk x∧x.f1.length≤L∧x.f2.length≤L) (i:Nat):lim L (eN (M.rd_T25 es (i:Int))):=by
 have key:eOk (M.rd_T25 es (i:Int))∧(M.rd_T25 es (i:Int)).f1.length≤L∧(M.rd_T25 es (i:Int)).f2.length≤L:=by
  unfold M.rd_T25
  rw [Int.toNat_natCast,List.getD_eq_getElem?_getD]
  rcases Nat.lt_or_ge i es.length with hi | hi
  ·
   rw [List.getElem?_eq_getElem hi]
   exact h _ (List.getElem_mem hi)
  ·
   rw [List.getElem?_eq_none hi]
   exact⟨⟨okS_nil,okS_nil⟩,Nat.zero_le _,Nat.zero_le _⟩
 exact lim_nrm (Nat.lt_of_lt_of_le (val_lt key.1.1.1) (Nat.pow_le_pow_right (by decide) key.2.1)) (Nat.lt_of_lt_of_le (val_lt key.1.2.1) (Nat.pow_le_pow_right (by decide) key.2.2)) hL
theorem RT.grown {w w':World} {b:Nat} {v:Value} {r:QN} {row:Option Nat} (h:RT w b v r) (hg:w.grownBy w' row) (hr:∀ k,row=some k→∃ o:Obj,w.heap[k]? = some o∧o.isCells=false):RT w' b v r:=by
 obtain⟨v1,v2,rfl,h1,h2⟩:=h
 have key:∀ (v:Value) (l:List Int),Kd.R (Kd.int .u32) 63 w b (fun _=>True) v l→∀ k,row=some k→some k≠v.ownBlock:=by
  intro v l h k e e2
  obtain⟨cells,hc⟩:=Kd.R_typed h k e2.symm
  obtain⟨o,ho,hn⟩:=hr k e
  rw [hc] at ho
  cases ho
  cases hn
 exact⟨v1,v2,rfl,Kd.R_grown2 h1 rfl hg (key _ _ h1),Kd.R_grown2 h2 rfl hg (key _ _ h2)⟩
structure DBx (w:World) (A B A' B':Value) (W:World):Prop where
 b0:W.heap[w.heap.size]? = some (.cells #[A,B] 67 (0,0))
 b1:W.heap[w.heap.size+1]? = some (.cells #[A',B'] 67 (0,0))
 b2:W.heap[w.heap.size+1+1]? = some (.cells #[.bool false,.slice none 0 0,.slice none 0 0] 25 (0,0))
 b3:W.heap[w.heap.size+1+1+1]? = some (.cells #[A,B,A',B'] 67 (0,0))
 be:Below w.heap.size w W
theorem DBx.below {w W W':World} {A B A' B':Value} (h:DBx w A B A' B' W) (hb:Below W.heap.size W W'):DBx w A B A' B' W' :=
 ⟨zbt h.b0 hb,zbt h.b1 hb,zbt h.b2 hb,zbt h.b3 hb,zbp h.be hb⟩
theorem DBx.alloc {w W:World} {A B A' B':Value} (h:DBx w A B A' B' W) (o:Obj):DBx w A B A' B' (W.alloc o):=h.below (zbq (Below.refl _ _) _)
theorem keeps3 (W:World) (g:Nat) (a b c:Value):KeepsOthers W (store3 W g a b c):=((KeepsOthers.setCell _ _ _).trans (KeepsOthers.setCell _ _ _)).trans (KeepsOthers.setCell _ _ _)
theorem below3 {n:Nat} {W V:World} (h:Below n W V) {g:Nat} (hg:n≤g) (a b c:Value):Below n W (store3 V g a b c):=((h.setCell (p:=⟨g,0,none⟩) hg a).setCell (p:=⟨g,1,none⟩) hg b).setCell (p:=⟨g,2,none⟩) hg c
theorem DBx.store3 {w W:World} {A B A' B':Value} (h:DBx w A B A' B' W) {g:Nat} (hg:w.heap.size+1+1+1 < g) (a b c:Value):DBx w A B A' B' (store3 W g a b c) :=
 ⟨(zb3 (by omega) a b c).trans h.b0,(zb3 (by omega) a b c).trans h.b1,(zb3 (by omega) a b c).trans h.b2,(zb3 (by omega) a b c).trans h.b3,zbZ h.be (by omega) a b c⟩
theorem blk_own {W W':World} {b:Nat} {cs:Array Value} {t:Nat} {row:Option Nat} (h:W.heap[b]? = some (.cells cs t (0,0))) (hg:W.grownBy W' row) (hr:∀ k,row=some k→∃ o:Obj,W.heap[k]? = some o∧o.isCells=false):W'.heap[b]? = some (.cells cs t (0,0)) :=
 (hg.block _ (lt_of_block h) (fun e=>by
  obtain⟨o,ho,hc⟩:=hr b e.symm
  rw [h] at ho
  cases ho
  cases hc)).trans h
def SUM (w:World) (gs:Nat) (X:QN) (W:World):Prop:=∃ F1 f1 F2 f2,W.heap[gs]? = some (.cells #[.bool X.1,.slice F1 (dg B32 X.2.1).length f1,.slice F2 (dg B32 X.2.2).length f2] 25 (0,0))∧RT W w.heap.size (.agg #[.bool X.1,.slice F1 (dg B32 X.2.1).length f1,.slice F2 (dg B32 X.2.2).length f2]) X
theorem dot_n (A:Option Addr) (c:Nat) (sh:List Int) (B:Option Addr) (d:Nat) (es:List M.S25) (A':Option Addr) (c':Nat) (B':Option Addr) (d':Nat) (fs:List M.S25) (L:Nat) (w:World) (hr1:Kd.C (Kd.int .i64) w A sh.length sh) (hc1:sh.length≤c) (hr2:Kd.C M.k25 w B es.length es) (hc2:es.length≤d) (hr3:Kd.C (Kd.int .i64) w A' sh.length sh) (hc3:sh.length≤c') (hr4:Kd.C M.k25 w B' fs.length fs) (hc4:fs.length≤d')
  (hlen:es.length≤1024) (hle:fs.length=es.length) (hL0:0 < L) (hL1:L≤33554432) (hok:∀ x∈es,eOk x∧x.f1.length≤L∧x.f2.length≤L) (hok':∀ x∈fs,eOk x∧x.f1.length≤L∧x.f2.length≤L) (hm1:tmayV sh es=0) (hm2:tmayV sh fs=0) (hls:sh.length≤4611686018427387904) :
  Calls Try.prog 55 #[.agg #[.slice A sh.length c,.slice B es.length d],.agg #[.slice A' sh.length c',.slice B' fs.length d']] w (RTE w (zbJ es fs es.length) 0):=by
 have hu67:=Try.underlying67
 have hu25:=Try.underlying25
 have HMA:=Aside0.mk (fun (W:World) (hb:Below w.heap.size w W)=>tmay_n A c sh B d es W (Kd.C_below hr1 hb) hc1 (Kd.C_below hr2 hb) hc2 (Nat.le_trans hlen (by decide)) (fun x hx=>(hok x hx).1))
 have HMB:=Aside0.mk (fun (W:World) (hb:Below w.heap.size w W)=>tmay_n A' c' sh B' d' fs W (Kd.C_below hr3 hb) hc3 (Kd.C_below hr4 hb) hc4 (by rw [hle]; exact Nat.le_trans hlen (by decide)) (fun x hx=>(hok' x hx).1))
 have HEQ:=Aside0.mk (fun (W:World) (hb:Below w.heap.size w W)=>by
  obtain⟨k,hk⟩:=eqS_ev (l:=sh) hls
  exact M.api_Shape_int.calls k A c sh A' c' sh _ W (Kd.C_below hr1 hb) hc1 (Kd.C_below hr3 hb) hc3 (hk k (Nat.le_refl _)))
 rw [hm1] at HMA
 rw [hm2] at HMB
 have HQ:Aside0 (∀ pre:List Nat,pre.length≤es.length→okQ (dotI es fs pre)):=⟨fun pre hp=>lim_ok (lim_dotI (lim_eN hL0 hok) (lim_eN hL0 hok') hL0 pre) (by
  have h1:pre.length*(L+L+1)≤1024*(33554432+33554432+1):=Nat.mul_le_mul (by omega) (by omega)
  omega)⟩
 have HQM:Aside0 (∀ i:Nat,okQ (mulQ (eN (M.rd_T25 es (i:Int))) (eN (M.rd_T25 fs (i:Int))))):=⟨fun i=>lim_ok (lim_mul (lim_eN hL0 hok i) (lim_eN hL0 hok' i) (by omega)) (by omega)⟩
 obtain⟨ev,hev,hec⟩:=evs hr2
 have HEV:=Aside0.mk hev
 have HEC:=Aside0.mk hec
 have HR4:=Aside0.mk hr4
 have HOK:=Aside0.mk (fun i:Nat=>rd_ok (fun x hx=>(hok x hx).1) i)
 have HOK':=Aside0.mk (fun i:Nat=>rd_ok (fun x hx=>(hok' x hx).1) i)
 have HLE:=Aside0.mk hle
 clear hr1 hr2 hr3 hr4 hok hok' hev hec hL0 hL1 hm1 hm2 hls hle
 refine(callsIn_wide (n:=3)).1 ?_
 refine callsIn_of_wp_marks Try.func55 rfl trivial ?_ rfl
 simp only [Try.ntmps55,List.size_toArray,List.length_cons,List.length_nil,Nat.reduceAdd,Nat.reduceSub,Array.replicate_succ,Array.replicate_zero,List.push_toArray,List.append_toArray,List.nil_append,List.cons_append]
 gi_wp2_with fail
 have hx0:=zbw (zbw (zbw (zbL w (.cells #[.slice A sh.length c,.slice B es.length d] 67)) (.cells #[.slice A' sh.length c',.slice B' fs.length d'] 67)) (.cells #[.bool false,.slice none 0 0,.slice none 0 0] 25)) (.cells #[.slice A sh.length c,.slice B es.length d,.slice A' sh.length c',.slice B' fs.length d'] 67)
 have hx1:=zbw (zbw (zbL (w.alloc (.cells #[.slice A sh.length c,.slice B es.length d] 67)) (.cells #[.slice A' sh.length c',.slice B' fs.length d'] 67)) (.cells #[.bool false,.slice none 0 0,.slice none 0 0] 25)) (.cells #[.slice A sh.length c,.slice B es.length d,.slice A' sh.length c',.slice B' fs.length d'] 67)
 have hx2:=zbw (zbL ((w.alloc (.cells #[.slice A sh.length c,.slice B es.length d] 67)).alloc (.cells #[.slice A' sh.length c',.slice B' fs.length d'] 67)) (.cells #[.bool false,.slice none 0 0,.slice none 0 0] 25)) (.cells #[.slice A sh.length c,.slice B es.length d,.slice A' sh.length c',.slice B' fs.length d'] 67)
 have hx3:=zbL (((w.alloc (.cells #[.slice A sh.length c,.slice B es.length d] 67)).alloc (.cells #[.slice A' sh.length c',.slice B' fs.length d'] 67)).alloc (.cells #[.bool false,.slice none 0 0,.slice none 0 0] 25)) (.cells #[.slice A sh.length c,.slice B es.length d,.slice A' sh.length c',.slice B' fs.length d'] 67)
 have hbw:Below w.heap.size w ((((w.alloc (.cells #[.slice A sh.length c,.slice B es.length d] 67)).alloc (.cells #[.slice A' sh.length c',.slice B' fs.length d'] 67)).alloc (.cells #[.bool false,.slice none 0 0,.slice none 0 0] 25)).alloc (.cells #[.slice A sh.length c,.slice B es.length d,.slice A' sh.length c',.slice B' fs.length d'] 67)):=zbq (zbq (zbq (zbq (Below.refl _ _) _) _) _) _
 rw [show (w.alloc (.cells #[.slice A sh.length c,.slice B es.length d] 67)).heap.size=w.heap.size+1 by simp] at hx1
 rw [show ((w.alloc (.cells #[.slice A sh.length c,.slice B es.length d] 67)).alloc (.cells #[.slice A' sh.length c',.slice B' fs.length d'] 67)).heap.size=w.heap.size+1+1 by simp] at hx2
 rw [show (((w.alloc (.cells #[.slice A sh.length c,.slice B es.length d] 67)).alloc (.cells #[.slice A' sh.length c',.slice B' fs.length d'] 67)).alloc (.cells #[.bool false,.slice none 0 0,.slice none 0 0] 25)).heap.size=w.heap.size+1+1+1 by simp] at hx3
 generalize ((((w.alloc (.cells #[.slice A sh.length c,.slice B es.length d] 67)).alloc (.cells #[.slice A' sh.length c',.slice B' fs.length d'] 67)).alloc (.cells #[.bool false,.slice none 0 0,.slice none 0 0] 25)).alloc (.cells #[.slice A sh.length c,.slice B es.length d,.slice A' sh.length c',.slice B' fs.length d'] 67))=W0 at hx0 hx1 hx2 hx3 hbw ⊢
 have HX0:=Aside0.mk (show DBx w (.slice A sh.length c) (.slice B es.length d) (.slice A' sh.length c') (.slice B' fs.length d') W0 from ⟨hx0,hx1,hx2,hx3,hbw⟩)
 clear hx0 hx1 hx2 hx3 hbw
 gi_loopw [16] (fun iv wr=>∃ k:Nat,k≤2∧iv=.int .i64 k∧Aside0 (DBx w (.slice A sh.length c) (.slice B es.length d) (.slice A' sh.length c') (.slice B' fs.length d') wr)) (fun iv _=>2-(intOf iv).toNat)
 case atStart=>exact⟨0,by omega,rfl,HX0⟩
 case round =>
  obtain⟨k,hk,rfl,HI⟩:=hrel
  obtain rfl | rfl | rfl:k=0∨k=1∨k=2:=by omega
  ·
   have c0:wr.cell? ⟨w.heap.size+1+1+1,0,none⟩=some (.slice A sh.length c):=(zbu HI.out.b3 0).trans rfl
   have c1:wr.cell? ⟨w.heap.size+1+1+1,1,none⟩=some (.slice B es.length d):=(zbu HI.out.b3 1).trans rfl
   gi_wp2_with fail
   clear c0 c1
   refine⟨trivial,(callsIn_wide.2 (HMA.out _ (zbq HI.out.be _))).mono ?_⟩
   rintro e W1 ⟨rfl,hB⟩
   have HI1:=Aside0.mk ((HI.out.alloc (.cells #[.slice A sh.length c,.slice B es.length d] 67)).below hB)
   clear hB
   gi_wp2
   go_roundw
   case rel=>exact⟨1,by omega,rfl,HI1⟩
   case measure=>simp [intOf]
  ·
   have c0:wr.cell? ⟨w.heap.size+1+1+1,2,none⟩=some (.slice A' sh.length c'):=(zbu HI.out.b3 2).trans rfl
   have c1:wr.cell? ⟨w.heap.size+1+1+1,3,none⟩=some (.slice B' fs.length d'):=(zbu HI.out.b3 3).trans rfl
   gi_wp2_with fail
   clear c0 c1
   refine⟨trivial,(callsIn_wide.2 (HMB.out _ (zbq HI.out.be _))).mono ?_⟩
   rintro e W1 ⟨rfl,hB⟩
   have HI1:=Aside0.mk ((HI.out.alloc (.cells #[.slice A' sh.length c',.slice B' fs.length d'] 67)).below hB)
   clear hB
   gi_wp2
   go_roundw
   case rel=>exact⟨2,by omega,rfl,HI1⟩
   case measure=>simp [intOf]
  ·
   have c0:wr.cell? ⟨w.heap.size,0,none⟩=some (.slice A sh.length c):=(zbu HI.out.b0 0).trans rfl
   have c1:wr.cell? ⟨w.heap.size+1,0,none⟩=some (.slice A' sh.length c'):=(zbu HI.out.b1 0).trans rfl
   gi_wp2_with fail
   clear c0 c1
   refine⟨trivial,(callsIn_wide.2 (HEQ.out _ HI.out.be)).mono ?_⟩
   rintro e W1 ⟨rfl,hB⟩
   have hB2:Below wr.heap.size wr W1:=by obtain⟨m,rfl⟩:=hB.out; exact zbr (Below.refl _ _) m
   have HI1:=Aside0.mk (HI.out.below hB2)
   clear hB hB2 HI
   gi_wp2_with fail
   refine⟨trivial,(callsIn_wide.2 (int_n W1 (by decide) (by decide))).mono ?_⟩
   rintro e W2 ⟨v,rfl,hR,hB⟩
   rw [show ((decide ((0:Int) < 0),(0:Int).natAbs,1):QN)=(false,0,1) from rfl] at hR
   obtain⟨D1,m1,D2,m2,hv,-,-⟩:=hR.args
   have hv:v=.agg #[.bool false,.slice D1 (dg B32 0).length m1,.slice D2 (dg B32 1).length m2]:=hv
   subst hv
   have HI2:=Aside0.mk ((HI1.out.below hB).alloc (.cells #[.bool false,.slice D1 (dg B32 0).length m1,.slice D2 (dg B32 1).length m2] 25))
   replace hR:=(hR.lower HI1.out.be.size).below (zbq (Below.refl _ _) (.cells #[.bool false,.slice D1 (dg B32 0).length m1,.slice D2 (dg B32 1).length m2] 25))
   have hs:=zbL W2 (.cells #[.bool false,.slice D1 (dg B32 0).length m1,.slice D2 (dg B32 1).length m2] 25)
   have hsz:=zbQ (zbt HI1.out.b3 hB)
   have HS:=Aside0.mk (And.intro hR (And.intro hs hsz))
   have c0:=(zbu HI2.out.b0 0).trans rfl
   have c1:=(zbu HI2.out.b0 1).trans rfl
   have c0:(W2.alloc (.cells #[.bool false,.slice D1 (dg B32 0).length m1,.slice D2 (dg B32 1).length m2] 25)).cell? ⟨w.heap.size,0,none⟩=some (.slice A sh.length c):=c0
   have c1:(W2.alloc (.cells #[.bool false,.slice D1 (dg B32 0).length m1,.slice D2 (dg B32 1).length m2] 25)).cell? ⟨w.heap.size,1,none⟩=some (.slice B es.length d):=c1
   clear hB HI1 hR hs hsz
   gi_wp2_with fail
   clear c0 c1
   generalize hW3:W2.alloc (.cells #[.bool false,.slice D1 (dg B32 0).length m1,.slice D2 (dg B32 1).length m2] 25)=W3 at HI2 HS ⊢
   clear hW3
   generalize W2.heap.size=gs at HS ⊢
   refine⟨trivial,(callsIn_wide.2 (of_t W3 A sh.length c B es.length d)).mono ?_⟩
   rintro e W4 ⟨rfl,hB⟩
   have HI3:=Aside0.mk (HI2.out.below hB)
   have HS3:=Aside0.mk (And.intro (HS.out.1.below hB) (And.intro (zbt HS.out.2.1 hB) HS.out.2.2))
   clear hB HI2 HS
   gi_wp2_with fail
   refine⟨trivial,(callsIn_wide.2 (all_calls (.slice A sh.length c) (.slice B es.length d) W4)).mono ?_⟩
   rintro e W5 ⟨rfl,hG,hB⟩
   have HI4:=Aside0.mk (HI3.out.below hB)
   have HS4:=Aside0.mk (And.intro (HS3.out.1.below hB) (And.intro (zbt HS3.out.2.1 hB) HS3.out.2.2))
   have HG:=Aside0.mk hG
   clear hG hB HI3 HS3
   gi_wp2_with fail
   have HSM:=Aside0.mk (show SUM w gs (dotI es fs []) W5 from ⟨D1,m1,D2,m2,HS4.out.2.1,HS4.out.1⟩)
   have HGS:=Aside0.mk HS4.out.2.2
   clear HS4
   refine wpIn_rangeFunc_ownH rfl (by omega) (gf:=110) (lb:=#[.pointer (some ⟨W4.heap.size,0,none⟩)]) rfl trivial (zcv Try.func110 (by kernel_rfl) rfl)
    (all_stopsF Fence.wide _ trivial rfl (by omega) W4.heap.size w.heap.size es.length (Nat.le_trans hlen (by decide)) (.slice A sh.length c) B d ev w W5 HI4.out.be (Nat.le_refl _) HI4.out.be.size HEC.out HG.out) belowK_t (belowK_b HI4.out.be.size) (Below.refl _ _) (fun _=>rfl)
    (fun (pre:List (Fin es.length)) W=>DBx w (.slice A sh.length c) (.slice B es.length d) (.slice A' sh.length c') (.slice B' fs.length d') W∧SUM w gs (dotI es fs (pre.map Fin.val)) W)
    (fun _ _ _=>False)
    ?hI ?hIx ?h0
    (fun (x:Fin es.length) a' W=>∃ (b:Nat) (p q r:Value),a'={ tmps:=#[.agg #[.slice A sh.length c,.slice B es.length d],.agg #[.slice A' sh.length c',.slice B' fs.length d'],.pointer (some ⟨w.heap.size,0,none⟩),.pointer (some ⟨w.heap.size+1,0,none⟩),.pointer (some ⟨w.heap.size+1+1,0,none⟩),u5,undef,u7,u8,.pointer (some ⟨gs,0,none⟩),.int .i64 (x.val:Int),.pointer (some ⟨b,0,none⟩),.agg #[.slice A sh.length c,.slice B es.length d],.agg #[.slice A' sh.length c',.slice B' fs.length d'],.slice (some ⟨w.heap.size+1+1+1,0,none⟩) 2 2,.int .i64 2,.int .i64 2,.bool false,u18,u19,u20,u21,u22,u23,u24,u25,u26,.pointer (some ⟨w.heap.size,0,none⟩),.slice A sh.length c,.pointer (some ⟨w.heap.size+1,0,none⟩),.slice A' sh.length c',.bool true,.bool false,undef,.agg #[.bool false,.slice D1 (dg B32 0).length m1,.slice D2 (dg B32 1).length m2],.agg #[.slice A sh.length c,.slice B es.length d],.agg #[.slice A sh.length c,.slice B es.length d],.func (.func 110) #[] #[.pointer (some ⟨W4.heap.size,0,none⟩)],.int .i64 (x.val:Int),ev x.val,undef,undef,undef,undef,undef,undef,undef,undef,undef,undef],defers:=[] }∧ev x.val=.agg #[p,q,r]∧w.heap.size≤b∧b≠gs∧W.heap[b]? = some (.cells #[p,q,r] 25 (0,0)))
    ?hAx ?assign ?body ?done ?stop
   case hI =>
    rintro pre X Y row ⟨h1,F1,f1,F2,f2,h2,h3⟩ hg hr
    have hr2:=fun k e=>(hr k e).2
    exact⟨⟨blk_own h1.b0 hg hr2,blk_own h1.b1 hg hr2,blk_own h1.b2 hg hr2,blk_own h1.b3 hg hr2,ownFrom_below (β:=List (Fin es.length)) (Nat.le_refl _) HI4.out.be.size pre X Y row h1.be hg hr⟩,F1,f1,F2,f2,blk_own h2 hg hr2,h3.grown hg hr2⟩
   case hIx=>exact fun c s W W' row hs hg hr=>hs
   case h0=>exact⟨HI4.out,HSM.out⟩
   case hAx =>
    rintro x a' s X Y row ⟨b,p,q,r,h1,h2,h3,h5,h4⟩ hg hr
    exact⟨b,p,q,r,h1,h2,h3,h5,blk_own h4 hg (fun k e=>(hr k e).2)⟩
   case assign =>
    rintro l pre x W K ⟨hI,hS⟩ hK
    obtain⟨A1,c1,A2,c2,hex,-,-⟩:=HEV.out x.val
    rw [hex]
    have HK2:=Aside0.mk hK
    clear hK
    gi_wp2_with fail
    have hA:=zbq (Below.refl W.heap.size W) (.cells #[.bool (M.rd_T25 es (x.val:Int)).f0,.slice A1 (M.rd_T25 es (x.val:Int)).f1.length c1,.slice A2 (M.rd_T25 es (x.val:Int)).f2.length c2] 25)
    obtain⟨F1,f1,F2,f2,h2,h3⟩:=hS
    exact HK2.out _ _ ((keepsO hA).from _) (hA.mono hI.be.size) ⟨hI.alloc _,F1,f1,F2,f2,zbw h2 _,h3.below hA⟩ ⟨W.heap.size,_,_,_,by rw [hex],hex,hI.be.size,Nat.ne_of_gt (zbQ h2),zbL W _⟩
   case body =>
    rintro l pre x a' W hl hr ⟨hI,hS⟩ ⟨b,p,q,r,rfl,hex,hb,hbne,hbk⟩ hlen2
    obtain⟨F1,f1,F2,f2,h2,h3⟩:=hS
    generalize hacc:dotI es fs (pre.map Fin.val)=acc at h2 h3
    have HAC:=Aside0.mk hacc
    have HNS:=Aside0.mk (h3.nr (by rw [← hacc]; exact red_dotI _ _ _) (by rw [← hacc]; exact HQ.out _ (by rw [List.length_map]; omega)))
    obtain⟨ad,A1,c1,A2,c2,e,q0,q1,q2,l1,g1,l2,g2⟩:=M.at_T25 HR4.out (x.val:Int) (by omega) (by have:=HLE.out; have:=x.isLt; omega)
    subst e
    rw [Int.toNat_natCast] at q0 q1 q2
    have HM:=Aside0.mk (fun (W':World) (h:Below W.heap.size W W')=>mul_n (EL.nr ((HEV.out x.val).below (zbp hI.be h)) (HOK.out x.val)) (EL.nr (w:=W') (x:=(M.rd_T25 fs (x.val:Int))) ⟨A1,c1,A2,c2,rfl,⟨Kd.C_below g1 (zbp hI.be h),l1⟩,⟨Kd.C_below g2 (zbp hI.be h),l2⟩⟩ (HOK'.out x.val)))
    rw [hex] at HM
    have HF:Aside0 (∀ w':World,Below W.heap.size W w'→(w'.cell? ⟨gs,0,none⟩=some (.bool acc.1)∧w'.cell? ⟨gs,1,none⟩=some (.slice F1 (dg B32 acc.2.1).length f1)∧w'.cell? ⟨gs,2,none⟩=some (.slice F2 (dg B32 acc.2.2).length f2)∧w'.cell? ⟨b,0,none⟩=some p∧w'.cell? ⟨b,1,none⟩=some q∧w'.cell? ⟨b,2,none⟩=some r∧w'.cell? ⟨w.heap.size+1,1,none⟩=some (.slice (some ad) fs.length d')∧w'.cell? (ad.add (x.val*3))=some (.bool (M.rd_T25 fs (x.val:Int)).f0)∧w'.cell? ⟨(ad.add (x.val*3)).block,(ad.add (x.val*3)).off+1,none⟩=some (.slice A1 (M.rd_T25 fs (x.val:Int)).f1.length c1)∧w'.cell? ⟨(ad.add (x.val*3)).block,(ad.add (x.val*3)).off+2,none⟩=some (.slice A2 (M.rd_T25 fs (x.val:Int)).f2.length c2))∧w'.heap[gs]? = some (.cells #[.bool acc.1,.slice F1 (dg B32 acc.2.1).length f1,.slice F2 (dg B32 acc.2.2).length f2] 25 (0,0))):=⟨fun w' h=>⟨⟨(zbu (zbt h2 h) 0).trans rfl,(zbu (zbt h2 h) 1).trans rfl,(zbu (zbt h2 h) 2).trans rfl,(zbu (zbt hbk h) 0).trans rfl,(zbu (zbt hbk h) 1).trans rfl,(zbu (zbt hbk h) 2).trans rfl,(zbu (zbt hI.b1 h) 1).trans rfl,((zbp hI.be h).cell (World.block_lt_of_cell? w _ q0)).trans q0,((zbp hI.be h).cell (World.block_lt_of_cell? w _ q1)).trans q1,((zbp hI.be h).cell (World.block_lt_of_cell? w _ q2)).trans q2⟩,zbt h2 h⟩⟩
    have HI:=Aside0.mk hI
    have hxl:x.val < fs.length:=by have:=HLE.out; have:=x.isLt; omega
    clear hI h2 h3 hacc hbk hbne hr q0 q1 q2 g1 g2 l1 l2 hlen2
    gi_wp2_with fail
    refine start_round (m:=10) (S:=fun w'=>(w'.cell? ⟨gs,0,none⟩=some (.bool acc.1)∧w'.cell? ⟨gs,1,none⟩=some (.slice F1 (dg B32 acc.2.1).length f1)∧w'.cell? ⟨gs,2,none⟩=some (.slice F2 (dg B32 acc.2.2).length f2)∧w'.cell? ⟨b,0,none⟩=some p∧w'.cell? ⟨b,1,none⟩=some q∧w'.cell? ⟨b,2,none⟩=some r∧w'.cell? ⟨w.heap.size+1,1,none⟩=some (.slice (some ad) fs.length d')∧w'.cell? (ad.add (x.val*3))=some (.bool (M.rd_T25 fs (x.val:Int)).f0)∧w'.cell? ⟨(ad.add (x.val*3)).block,(ad.add (x.val*3)).off+1,none⟩=some (.slice A1 (M.rd_T25 fs (x.val:Int)).f1.length c1)∧w'.cell? ⟨(ad.add (x.val*3)).block,(ad.add (x.val*3)).off+2,none⟩=some (.slice A2 (M.rd_T25 fs (x.val:Int)).f2.length c2))) (ds:=[9]) #[zf,zf,zf,zf,zf,zf,zf,zf,zf,zf] (by kernel_rfl) (by kernel_rfl) (by rintro⟨a,w,h⟩; exact h) rfl rfl ((HF.out _ (zbv (Below.refl _ _))).1) (fun hHeld=>?_)
    have hb0:=Aside0.mk (show Below W.heap.size W W.drew from zbv (Below.refl _ _))
    generalize W.drew=V0 at hb0 hHeld ⊢
    refine qp 2 (some 42) ?_
    refine qp 4 (some 44) ?_
    refine qt 0 (some 40) ?_
    refine qt 1 (some 41) ?_
    refine qt 3 (some 43) ?_
    refine qp 5 (some 45) ?_
    refine qt 6 (some 46) ?_
    refine qo 7 (some 47) (fun K hK=>?_)
    refine qg Try.func35 #[.agg #[p,q,r],.agg #[.bool (M.rd_T25 fs (x.val:Int)).f0,.slice A1 (M.rd_T25 fs (x.val:Int)).f1.length c1,.slice A2 (M.rd_T25 fs (x.val:Int)).f2.length c2]] ?_
    refine(HM.out V0 hb0.out).mono ?_
    rintro e V1 ⟨v,rfl,hR,hB⟩
    obtain⟨D3,m3,D4,m4,rfl,-,-⟩:=hR.args
    refine⟨_,rfl,?_⟩
    have hb1:=Aside0.mk (zbp hb0.out hB)
    have HP:=Aside0.mk (hR.nr (nrm_red _ _ _) (HQM.out x.val))
    clear hB hb0 hR
    refine hK.out _ _ ((HF.out _ hb1.out).1) (fun hHeld=>?_)
    clear hK K
    refine qn ?_
    refine qo 8 (some 48) (fun K hK=>?_)
    refine qg Try.func31 #[.agg #[.bool acc.1,.slice F1 (dg B32 acc.2.1).length f1,.slice F2 (dg B32 acc.2.2).length f2],.agg #[.bool (mulQ (eN (M.rd_T25 es (x.val:Int))) (eN (M.rd_T25 fs (x.val:Int)))).1,.slice D3 (dg B32 (mulQ (eN (M.rd_T25 es (x.val:Int))) (eN (M.rd_T25 fs (x.val:Int)))).2.1).length m3,.slice D4 (dg B32 (mulQ (eN (M.rd_T25 es (x.val:Int))) (eN (M.rd_T25 fs (x.val:Int)))).2.2).length m4]] ?_
    refine(add_n (HNS.out.below hb1.out) HP.out).mono ?_
    rintro e V2 ⟨v,rfl,hR,hB⟩
    obtain⟨D5,m5,D6,m6,rfl,-,-⟩:=hR.args
    refine⟨_,rfl,?_⟩
    have hb2:=Aside0.mk (zbp hb1.out hB)
    have HT:=Aside0.mk (hR.lower (Nat.le_trans HI.out.be.size hb1.out.size))
    clear hB hb1 hR
    refine hK.out _ _ ((HF.out _ hb2.out).1) (fun hHeld=>?_)
    clear hK K
    refine qn ?_
    refine ql 9 none (fun K hK=>?_)
    obtain⟨⟨k0,k1,k2⟩,j0,j1,j2⟩:=zbM (HF.out _ hb2.out).2
    refine qx ?_
    refine hK.out _ _ ?_
    clear hK K
    refine done_ (by kernel_rfl) ?_
    have hE:dotI es fs ((pre++[x]).map Fin.val)=addQ acc (mulQ (eN (M.rd_T25 es (x.val:Int))) (eN (M.rd_T25 fs (x.val:Int)))):=by
     rw [List.map_append,← HAC.out]
     exact dotI_snoc _ _ _ _
    have hgs:w.heap.size+1+1+1 < gs:=HGS.out
    refine⟨((keepsO hb2.out).trans (keeps3 V2 gs _ _ _)).from _,below3 (hb2.out.mono HI.out.be.size) (by omega) _ _ _,⟨(HI.out.below hb2.out).store3 hgs _ _ _,?_⟩⟩
    rw [hE]
    exact⟨D5,m5,D6,m6,zb0 (HF.out _ hb2.out).2 _ _ _,HT.out.store3 (HF.out _ hb2.out).2 _ _ _⟩
   case done =>
    rintro D ys W hD hys ⟨hI,hS⟩ hK
    rw [hys,dotI_range] at hS
    obtain⟨F1,f1,F2,f2,h2,h3⟩:=hS
    obtain⟨⟨z0,z1,z2⟩,z3,z4,z5⟩:=zbM hI.b2
    obtain⟨⟨k0,k1,k2⟩,-⟩:=zbM h2
    have HI:=Aside0.mk (And.intro hI (And.intro h2 h3))
    have HDl:=Aside0.mk (Nat.le_trans HI4.out.be.size hD)
    clear hI h2 h3
    gi_wp2
    have hK':=(keeps3 W (w.heap.size+1+1) (.bool (zbJ es fs es.length).1) (.slice F1 (dg B32 (zbJ es fs es.length).2.1).length f1) (.slice F2 (dg B32 (zbJ es fs es.length).2.2).length f2)).same D _ hK rfl
    have hb2':=zb0 HI.out.1.b2 (.bool (zbJ es fs es.length).1) (.slice F1 (dg B32 (zbJ es fs es.length).2.1).length f1) (.slice F2 (dg B32 (zbJ es fs es.length).2.2).length f2)
    refine⟨by simp,.inl ⟨_,_,rfl,run_takeDeferred hK',?_⟩⟩
    have hr2:∀ k,some D=some k→∃ o:Obj,(store3 W (w.heap.size+1+1) (.bool (zbJ es fs es.length).1) (.slice F1 (dg B32 (zbJ es fs es.length).2.1).length f1) (.slice F2 (dg B32 (zbJ es fs es.length).2.2).length f2)).heap[k]? = some o∧o.isCells=false:=fun k e=>by cases e; exact⟨_,hK',rfl⟩
    have hb3:=blk_own hb2' (grownBy_putObj' _ D (.deferred none)) hr2
    refine⟨_,results_ct rfl _ _ (w.heap.size+1+1) 25 _ (0,0) _ rfl hb3 Try.underlying25 rfl (by kernel_rfl),?_⟩
    exact⟨F1,f1,F2,f2,rfl,(HI.out.2.2.store3 HI.out.1.b2 _ _ _).grown (grownBy_putObj' _ D (.deferred none)) hr2,(zbZ HI.out.1.be (by omega) _ _ _).trans (belowK_b (w:=w) (Nat.le_refl _) _ D _ _ HDl.out hK' rfl rfl)⟩
   case stop =>
    rintro D cd pre W hD hpre hF hK
    exact hF.elim
end Go.Proofs.Ytehghijlchpeaaa.Nat1
end
section
namespace Go.Proofs.Ytehghijlchpeaaa.Nat1
open Go.RowKit YtehghijlchpeaaaW.PrintWords YtehghijlchpeaaaW.PrintLast YtehghijlchpeaaaW.PrintMore L Nt Ev
def lS (x:Int):M.S25:=⟨false,[x],[1]⟩
def es4:List M.S25:=[lS 1,lS 2,lS 3,lS 4]
def gk (x:SR):M.S25:=⟨x.f0,x.f1,x.f2⟩
theorem dgk {n:Nat} (h0:0 < n) (h:n < 10000):dg 10000 n=[(n:Int)]:=by
 rw [dg_pos (by decide) h0,Nat.mod_eq_of_lt h,Nat.div_eq_of_lt h,zbU]
theorem iR_lit {x:Nat} (h0:0 < x) (h:x < 10000):iR (x:Int)=⟨false,[(x:Int)],[1]⟩:=by
 unfold iR
 rw [decide_eq_false (by omega),Int.natAbs_natCast,dgk h0 h,dgk (by decide) (by decide)]
 rfl
theorem es4_map:([1,2,3,4]:List Int).map (fun x=>gk (iR x))=es4:=by
 simp only [List.map_cons,List.map_nil]
 rw [show iR 1=_ from iR_lit (x:=1) (by decide) (by decide),show iR 2=_ from iR_lit (x:=2) (by decide) (by decide),show iR 3=_ from iR_lit (x:=3) (by decide) (by decide),show iR 4=_ from iR_lit (x:=4) (by decide) (by decide)]
 rfl
theorem back4:∀ x∈([1,2,3,4]:List Int).map iR,∃ k,M.fluxionref03_Back.f k x.f0 x.f1 x.f2=some ((gk x).f0,(gk x).f1,(gk x).f2):=by
 simp only [List.map_cons,List.map_nil]
 rw [show iR 1=_ from iR_lit (x:=1) (by decide) (by decide),show iR 2=_ from iR_lit (x:=2) (by decide) (by decide),show iR 3=_ from iR_lit (x:=3) (by decide) (by decide),show iR 4=_ from iR_lit (x:=4) (by decide) (by decide)]
 intro x hx
 simp only [List.mem_cons,List.not_mem_nil,or_false] at hx
 rcases hx with rfl | rfl | rfl | rfl
 ·
  exact⟨10,by kernel_rfl⟩
 ·
  exact⟨10,by kernel_rfl⟩
 ·
  exact⟨10,by kernel_rfl⟩
 ·
  exact⟨10,by kernel_rfl⟩
theorem es4_all {P:M.S25→Prop} (h:∀ x:Nat,0 < x→x < 5→P (lS x)):∀ x∈es4,P x:=by
 intro x hx
 simp only [es4,List.mem_cons,List.not_mem_nil,or_false] at hx
 rcases hx with rfl | rfl | rfl | rfl
 ·
  exact h 1 (by decide) (by decide)
 ·
  exact h 2 (by decide) (by decide)
 ·
  exact h 3 (by decide) (by decide)
 ·
  exact h 4 (by decide) (by decide)
theorem okS_one {x:Nat} (h:x < 5):okS [(x:Int)]:=⟨fun y hy=>by rw [List.mem_singleton.1 hy]; unfold B32; omega,by simp⟩
theorem es4_ok:∀ x∈es4,eOk x∧x.f1.length≤1∧x.f2.length≤1:=es4_all (fun x h0 h=>⟨⟨okS_one h,okS_one (x:=1) (by decide)⟩,Nat.le_refl _,Nat.le_refl _⟩)
theorem val_lit (x:Nat):val B32 [(x:Int)]=x:=by simp [val]
theorem val_1:val B32 [1]=1:=by decide
theorem nrm_one (x:Nat):nrm false x 1=(false,x,1)∨x=0:=by
 rcases Nat.eq_zero_or_pos x with h | h
 ·
  exact Or.inr h
 ·
  left
  unfold nrm
  rw [if_neg (by omega),Nat.gcd_one_right,Nat.div_one]
theorem eN_lS {x:Nat} (h0:0 < x):eN (lS x)=(false,x,1):=by
 unfold eN lS
 simp only [val_lit,val_1]
 rcases nrm_one x with h | h
 ·
  exact h
 ·
  omega
theorem tmay4:tmayV [2,2] es4=0:=by
 have h:fitV [2,2] es4.length=0:=by decide
 unfold tmayV
 rw [if_pos h,if_pos]
 refine es4_all (fun x h0 h=>?_)
 unfold eV mayV lS
 simp only [val_lit,val_1]
 rw [show nrm false x 1=(false,x,1) from (nrm_one x).resolve_right (by omega),if_pos]
 refine⟨rfl,?_,?_⟩
 ·
  show [(x:Int)]=dg B32 x
  rw [dg_lit h0 (by unfold B32; omega)]
 ·
  show [(1:Int)]=dg B32 1
  rw [dg_lit (by decide) (by decide)]
  rfl
theorem bits_4:bitsL 0 es4=3:=by decide
theorem dot_4:zbJ es4 es4 es4.length=(false,30,1):=by decide
theorem C_lits {W:World} {b t:Nat} {l:List Int} (h:W.heap[b]? = some (.cells (l.map (Value.int .i64)).toArray t (0,0))) (hl:l.length≤9223372036854775807):Kd.C (Kd.int .i64) W (some ⟨b,0,none⟩) l.length l :=
 ⟨rfl,hl,fun _=>⟨_,rfl,fun j p hp=>⟨[.int .i64 p],rfl,rfl,fun i u hu=>by
  rcases i with _ | i
  ·
   have hu:Value.int .i64 p=u:=Option.some.inj hu
   subst hu
   have hj:=zbu h j
   have e:(⟨b,0,none⟩:Addr).add (j*1+0)=⟨b,j,none⟩:=by simp [Addr.add]; intro h; omega
   show W.cell? ((⟨b,0,none⟩:Addr).add (j*1+0))=_
   rw [e,hj]
   simp [hp]
  ·
   simp at hu⟩⟩⟩
theorem C_rat3 {W:World} {b t:Nat} {x y z:M.S25} {a1 a2 a3 b1 b2 b3 c1 c2 c3:Value} (h:W.heap[b]? = some (.cells #[a1,a2,a3,b1,b2,b3,c1,c2,c3] t (0,0))) (h1:M.k25.K W x [a1,a2,a3]) (h2:M.k25.K W y [b1,b2,b3]) (h3:M.k25.K W z [c1,c2,c3]):Kd.C M.k25 W (some ⟨b,0,none⟩) 3 [x,y,z]:=by
 have key:∀ (j i:Nat) (u:Value),(#[a1,a2,a3,b1,b2,b3,c1,c2,c3]:Array Value)[j*3+i]? = some u→W.cell? ((⟨b,0,none⟩:Addr).add (j*3+i))=some u:=by
  intro j i u hu
  have:=zbu h (j*3+i)
  have e:(⟨b,0,none⟩:Addr).add (j*3+i)=⟨b,j*3+i,none⟩:=by simp [Addr.add]; intro h; omega
  rw [e]
  exact this.trans hu
 refine⟨rfl,by decide,fun _=>⟨_,rfl,fun j p hp=>?_⟩⟩
 rcases j with _ | _ | _ | j
 ·
  cases hp
  exact⟨_,rfl,h1,fun i u hu=>key 0 i u (by rcases i with _ | _ | _ | i<;>simp_all)⟩
 ·
  cases hp
  exact⟨_,rfl,h2,fun i u hu=>key 1 i u (by rcases i with _ | _ | _ | i<;>simp_all)⟩
 ·
  cases hp
  exact⟨_,rfl,h3,fun i u hu=>key 2 i u (by rcases i with _ | _ | _ | i<;>simp_all)⟩
 ·
  simp at hp
structure KT (w:World) (gt:Nat) (A:Option Addr) (c:Nat) (B:Option Addr) (d:Nat) (W:World):Prop where
 t:W.heap[gt]? = some (.cells #[.slice A 2 c,.slice B 4 d] 67 (0,0))
 s:Kd.C (Kd.int .i64) W A 2 [2,2]
 sc:2≤c
 e:Kd.C M.k25 W B 4 es4
 ec:4≤d
 be:Below w.heap.size w W
theorem KT.below {w W W':World} {gt:Nat} {A:Option Addr} {c:Nat} {B:Option Addr} {d:Nat} (h:KT w gt A c B d W) (hb:Below W.heap.size W W'):KT w gt A c B d W' :=
 ⟨zbt h.t hb,Kd.C_below h.s hb,h.sc,Kd.C_below h.e hb,h.ec,zbp h.be hb⟩
def XB (w:World) (g:Nat) (X:QN) (A1:Option Addr) (c1:Nat) (A2:Option Addr) (c2:Nat) (W:World):Prop :=
 W.heap[g]? = some (.cells #[.bool X.1,.slice A1 (dg B32 X.2.1).length c1,.slice A2 (dg B32 X.2.2).length c2] 25 (0,0))∧RT W w.heap.size (.agg #[.bool X.1,.slice A1 (dg B32 X.2.1).length c1,.slice A2 (dg B32 X.2.2).length c2]) X
theorem XB.below {w W W':World} {g:Nat} {X:QN} {A1:Option Addr} {c1:Nat} {A2:Option Addr} {c2:Nat} (h:XB w g X A1 c1 A2 c2 W) (hb:Below W.heap.size W W'):XB w g X A1 c1 A2 c2 W':=⟨zbt h.1 hb,h.2.below hb⟩
theorem tknown_n (w:World):Calls Try.prog 53 #[] w fun e w'=>e=.returned (.bool true)∧Below w.heap.size w w':=by
 have hu67:=Try.underlying67
 have hu25:=Try.underlying25
 obtain⟨X,hX⟩:∃ X:QN,X=(false,3,1):=⟨_,rfl⟩
 obtain⟨Y,hY⟩:∃ Y:QN,Y=(false,30,1):=⟨_,rfl⟩
 have KX:=Aside0.mk (show red X∧okQ X from by rw [hX]; exact⟨⟨by decide,by decide,by decide⟩,okQ_small (by decide) (by decide)⟩)
 have KY:=Aside0.mk (show red Y∧okQ Y from by rw [hY]; exact⟨⟨by decide,by decide,by decide⟩,okQ_small (by decide) (by decide)⟩)
 have EX:=Aside0.mk hX
 have EY:=Aside0.mk hY
 clear hX hY
 go_enter Try.func53,Try.ntmps53
 go_wp2_with fail
 have hbw:Below w.heap.size w ((w.alloc (.cells #[.int .i64 2,.int .i64 2] 3)).alloc (.cells #[.int .i64 1,.int .i64 2,.int .i64 3,.int .i64 4] 3)):=zbq (zbq (Below.refl _ _) _) _
 have hC1:=C_lits (l:=[2,2]) (zbw (zbL w (.cells #[.int .i64 2,.int .i64 2] 3)) (.cells #[.int .i64 1,.int .i64 2,.int .i64 3,.int .i64 4] 3)) (by decide)
 have hC2:=C_lits (l:=[1,2,3,4]) (zbL (w.alloc (.cells #[.int .i64 2,.int .i64 2] 3)) (.cells #[.int .i64 1,.int .i64 2,.int .i64 3,.int .i64 4] 3)) (by decide)
 rw [show (w.alloc (.cells #[.int .i64 2,.int .i64 2] 3)).heap.size=w.heap.size+1 by simp] at hC2
 generalize ((w.alloc (.cells #[.int .i64 2,.int .i64 2] 3)).alloc (.cells #[.int .i64 1,.int .i64 2,.int .i64 3,.int .i64 4] 3))=W1 at hbw hC1 hC2 ⊢
 refine(twhole_n gk (some ⟨w.heap.size,0,none⟩) 2 [2,2] (some ⟨w.heap.size+1,0,none⟩) 4 [1,2,3,4] W1 hC1 (by decide) hC2 (by decide) (by decide) (by decide) (by decide) back4).mono ?_
 rintro e W2 ⟨A,c,B,d,he,R1,R2,hB⟩
 have he:e=.returned (.agg #[.slice A 2 c,.slice B 4 d]):=he
 subst he
 rw [es4_map] at R2
 have hA:=zbq (Below.refl W2.heap.size W2) (.cells #[.slice A 2 c,.slice B 4 d] 67)
 have HT:=Aside0.mk (show KT w W2.heap.size A c B d (W2.alloc (.cells #[.slice A 2 c,.slice B 4 d] 67)) from ⟨zbL W2 _,Kd.C_below (Kd.R_reads' R1).2.2 hA,(Kd.R_reads' R1).2.1,Kd.C_below (Kd.R_reads' R2).2.2 hA,(Kd.R_reads' R2).2.1,zbq (zbp hbw hB) _⟩)
 have c0:(W2.alloc (.cells #[.slice A 2 c,.slice B 4 d] 67)).cell? ⟨W2.heap.size,0,none⟩=some (.slice A 2 c):=(zbu HT.out.t 0).trans rfl
 have c1:(W2.alloc (.cells #[.slice A 2 c,.slice B 4 d] 67)).cell? ⟨W2.heap.size,1,none⟩=some (.slice B 4 d):=(zbu HT.out.t 1).trans rfl
 clear hA R1 R2 hB hbw hC1 hC2
 go_wp2_with fail
 clear c0 c1
 have hC1:=C_lits (l:=[1,0]) (zbL (W2.alloc (.cells #[.slice A 2 c,.slice B 4 d] 67)) (.cells #[.int .i64 1,.int .i64 0] 3)) (by decide)
 rw [show (W2.alloc (.cells #[.slice A 2 c,.slice B 4 d] 67)).heap.size=W2.heap.size+1 by simp] at hC1
 have hA:=zbq (Below.refl (W2.alloc (.cells #[.slice A 2 c,.slice B 4 d] 67)).heap.size (W2.alloc (.cells #[.slice A 2 c,.slice B 4 d] 67))) (.cells #[.int .i64 1,.int .i64 0] 3)
 replace HT:=Aside0.mk (HT.out.below hA)
 clear hA
 generalize ((W2.alloc (.cells #[.slice A 2 c,.slice B 4 d] 67)).alloc (.cells #[.int .i64 1,.int .i64 0] 3))=W3 at HT hC1 ⊢
 generalize W2.heap.size=gt at HT hC1 ⊢
 have hat:=at_n (sh:=[2,2]) (es:=es4) (ci:=2) (idx:=[1,0]) (k:=10) (o:=2) HT.out.s HT.out.sc HT.out.e HT.out.ec (by decide) (fun x hx=>(es4_ok x hx).1) hC1 (by decide) tmay4 (by kernel_rfl) (by decide)
 rw [show eN (M.rd_T25 es4 ((2:Nat):Int))=X from (eN_lS (x:=3) (by decide)).trans EX.out.symm] at hat
 refine hat.mono ?_
 clear hat hC1
 rintro e W4 ⟨A1,c1,A2,c2,rfl,hR,hB⟩
 have hA:=zbq (Below.refl W4.heap.size W4) (.cells #[.bool X.1,.slice A1 (dg B32 X.2.1).length c1,.slice A2 (dg B32 X.2.2).length c2] 25)
 have HX:=Aside0.mk (show XB w W4.heap.size X A1 c1 A2 c2 (W4.alloc (.cells #[.bool X.1,.slice A1 (dg B32 X.2.1).length c1,.slice A2 (dg B32 X.2.2).length c2] 25)) from ⟨zbL W4 _,(hR.lower HT.out.be.size).below hA⟩)
 replace HT:=Aside0.mk (HT.out.below (zbp hB hA))
 have d0:(W4.alloc (.cells #[.bool X.1,.slice A1 (dg B32 X.2.1).length c1,.slice A2 (dg B32 X.2.2).length c2] 25)).cell? ⟨gt,0,none⟩=some (.slice A 2 c):=(zbu HT.out.t 0).trans rfl
 have d1:(W4.alloc (.cells #[.bool X.1,.slice A1 (dg B32 X.2.1).length c1,.slice A2 (dg B32 X.2.2).length c2] 25)).cell? ⟨gt,1,none⟩=some (.slice B 4 d):=(zbu HT.out.t 1).trans rfl
 clear hA hR hB
 go_wp2_with fail
 clear d0 d1
 generalize W4.alloc (.cells #[.bool X.1,.slice A1 (dg B32 X.2.1).length c1,.slice A2 (dg B32 X.2.2).length c2] 25)=W5 at HX HT ⊢
 generalize W4.heap.size=gx at HX ⊢
 have hdot:=dot_n A c [2,2] B d es4 A c B d es4 1 W5 HT.out.s HT.out.sc HT.out.e HT.out.ec HT.out.s HT.out.sc HT.out.e HT.out.ec (by decide) rfl (by decide) (by decide) es4_ok es4_ok tmay4 tmay4 (by decide)
 rw [show zbJ es4 es4 es4.length=Y from dot_4.trans EY.out.symm] at hdot
 refine hdot.mono ?_
 clear hdot
 rintro e W6 ⟨B1,b1,B2,b2,rfl,hR,hB⟩
 have hA:=zbq (Below.refl W6.heap.size W6) (.cells #[.bool Y.1,.slice B1 (dg B32 Y.2.1).length b1,.slice B2 (dg B32 Y.2.2).length b2] 25)
 have HY:=Aside0.mk (show XB w W6.heap.size Y B1 b1 B2 b2 (W6.alloc (.cells #[.bool Y.1,.slice B1 (dg B32 Y.2.1).length b1,.slice B2 (dg B32 Y.2.2).length b2] 25)) from ⟨zbL W6 _,(hR.lower HT.out.be.size).below hA⟩)
 replace HX:=Aside0.mk (HX.out.below (zbp hB hA))
 replace HT:=Aside0.mk (HT.out.below (zbp hB hA))
 clear hA hR hB
 go_wp2_with fail
 have hC1:=C_lits (l:=[2,2]) (zbL (W6.alloc (.cells #[.bool Y.1,.slice B1 (dg B32 Y.2.1).length b1,.slice B2 (dg B32 Y.2.2).length b2] 25)) (.cells #[.int .i64 2,.int .i64 2] 3)) (by decide)
 rw [show (W6.alloc (.cells #[.bool Y.1,.slice B1 (dg B32 Y.2.1).length b1,.slice B2 (dg B32 Y.2.2).length b2] 25)).heap.size=W6.heap.size+1 by simp] at hC1
 have hA:=zbq (Below.refl (W6.alloc (.cells #[.bool Y.1,.slice B1 (dg B32 Y.2.1).length b1,.slice B2 (dg B32 Y.2.2).length b2] 25)).heap.size (W6.alloc (.cells #[.bool Y.1,.slice B1 (dg B32 Y.2.1).length b1,.slice B2 (dg B32 Y.2.2).length b2] 25))) (.cells #[.int .i64 2,.int .i64 2] 3)
 replace HT:=Aside0.mk (HT.out.below hA)
 replace HX:=Aside0.mk (HX.out.below hA)
 replace HY:=Aside0.mk (HY.out.below hA)
 clear hA
 generalize ((W6.alloc (.cells #[.bool Y.1,.slice B1 (dg B32 Y.2.1).length b1,.slice B2 (dg B32 Y.2.2).length b2] 25)).alloc (.cells #[.int .i64 2,.int .i64 2] 3))=W7 at HT HX HY hC1 ⊢
 generalize W6.heap.size=gd at HY hC1 ⊢
 have HC:=Aside0.mk hC1
 clear hC1
 refine(int_n W7 (by decide) (by decide)).mono ?_
 rintro e W8 ⟨v,rfl,hR,hB⟩
 rw [show ((decide ((1:Int) < 0),(1:Int).natAbs,1):QN)=(false,1,1) from rfl] at hR
 obtain⟨P1,p1,Q1,q1,hv,-,-⟩:=hR.args
 have hv:v=.agg #[.bool false,.slice P1 (dg B32 1).length p1,.slice Q1 (dg B32 1).length q1]:=hv
 subst hv
 have hb:=Aside0.mk hB
 have HR1:=Aside0.mk hR
 replace HT:=Aside0.mk (HT.out.below hB)
 replace HX:=Aside0.mk (HX.out.below hB)
 replace HY:=Aside0.mk (HY.out.below hB)
 replace HC:=Aside0.mk (Kd.C_below HC.out hB)
 clear hb hB hR
 go_wp2_with fail
 refine(int_n W8 (by decide) (by decide)).mono ?_
 rintro e W9 ⟨v,rfl,hR,hB⟩
 rw [show ((decide ((2:Int) < 0),(2:Int).natAbs,1):QN)=(false,2,1) from rfl] at hR
 obtain⟨P2,p2,Q2,q2,hv,-,-⟩:=hR.args
 have hv:v=.agg #[.bool false,.slice P2 (dg B32 2).length p2,.slice Q2 (dg B32 1).length q2]:=hv
 subst hv
 have hb:=Aside0.mk hB
 replace HR1:=Aside0.mk (HR1.out.below hB)
 have HR2:=Aside0.mk hR
 replace HT:=Aside0.mk (HT.out.below hB)
 replace HX:=Aside0.mk (HX.out.below hB)
 replace HY:=Aside0.mk (HY.out.below hB)
 replace HC:=Aside0.mk (Kd.C_below HC.out hB)
 clear hb hB hR
 go_wp2_with fail
 refine(int_n W9 (by decide) (by decide)).mono ?_
 rintro e W10 ⟨v,rfl,hR,hB⟩
 rw [show ((decide ((3:Int) < 0),(3:Int).natAbs,1):QN)=(false,3,1) from rfl] at hR
 obtain⟨P3,p3,Q3,q3,hv,-,-⟩:=hR.args
 have hv:v=.agg #[.bool false,.slice P3 (dg B32 3).length p3,.slice Q3 (dg B32 1).length q3]:=hv
 subst hv
 have hb:=Aside0.mk hB
 replace HR1:=Aside0.mk (HR1.out.below hB)
 replace HR2:=Aside0.mk (HR2.out.below hB)
 have HR3:=Aside0.mk hR
 replace HT:=Aside0.mk (HT.out.below hB)
 replace HX:=Aside0.mk (HX.out.below hB)
 replace HY:=Aside0.mk (HY.out.below hB)
 replace HC:=Aside0.mk (Kd.C_below HC.out hB)
 clear hb hB hR
 go_wp2_with fail
 have hA:=zbq (Below.refl W10.heap.size W10) (.cells #[.bool false,.slice P1 (dg B32 1).length p1,.slice Q1 (dg B32 1).length q1,.bool false,.slice P2 (dg B32 2).length p2,.slice Q2 (dg B32 1).length q2,.bool false,.slice P3 (dg B32 3).length p3,.slice Q3 (dg B32 1).length q3] 25)
 have hK:∀ (n:Nat) (b:Nat) (P:Option Addr) (p:Nat) (Q:Option Addr) (q:Nat),RT W10 b (.agg #[.bool false,.slice P (dg B32 n).length p,.slice Q (dg B32 1).length q]) (false,n,1)→M.k25.K (W10.alloc (.cells #[.bool false,.slice P1 (dg B32 1).length p1,.slice Q1 (dg B32 1).length q1,.bool false,.slice P2 (dg B32 2).length p2,.slice Q2 (dg B32 1).length q2,.bool false,.slice P3 (dg B32 3).length p3,.slice Q3 (dg B32 1).length q3] 25)) ⟨false,dg B32 n,dg B32 1⟩ [.bool false,.slice P (dg B32 n).length p,.slice Q (dg B32 1).length q]:=by
  rintro n b P p Q q ⟨v1,v2,e,R1,R2⟩
  simp only [Value.agg.injEq,Array.mk.injEq,List.cons.injEq,and_true,true_and] at e
  obtain⟨rfl,rfl⟩:=e
  exact M.k25_mk _ ⟨false,dg B32 n,dg B32 1⟩ (Kd.R_reads' R1).2.1 (Kd.C_below (Kd.R_reads' R1).2.2 hA) (Kd.R_reads' R2).2.1 (Kd.C_below (Kd.R_reads' R2).2.2 hA)
 have hC3:=C_rat3 (zbL W10 (.cells #[.bool false,.slice P1 (dg B32 1).length p1,.slice Q1 (dg B32 1).length q1,.bool false,.slice P2 (dg B32 2).length p2,.slice Q2 (dg B32 1).length q2,.bool false,.slice P3 (dg B32 3).length p3,.slice Q3 (dg B32 1).length q3] 25)) (hK _ _ _ _ _ _ HR1.out) (hK _ _ _ _ _ _ HR2.out) (hK _ _ _ _ _ _ HR3.out)
 have hmk:=makeF_n (some ⟨gd+1,0,none⟩) 2 [2,2] (some ⟨W10.heap.size,0,none⟩) 3 [⟨false,dg B32 1,dg B32 1⟩,⟨false,dg B32 2,dg B32 1⟩,⟨false,dg B32 3,dg B32 1⟩] _ (Kd.C_below HC.out hA) (by decide) hC3 (by decide) (show fitV [2,2] 3≠0 by decide)
 rw [show fitV [2,2] ([⟨false,dg B32 1,dg B32 1⟩,⟨false,dg B32 2,dg B32 1⟩,⟨false,dg B32 3,dg B32 1⟩]:List M.S25).length=13 from (show fitV [2,2] 3=13 by decide)] at hmk
 refine hmk.mono ?_
 rintro e W11 ⟨rfl,hB⟩
 have hA2:=zbq (Below.refl W11.heap.size W11) (.cells #[.slice none 0 0,.slice none 0 0] 67)
 have hbb:=zbp (zbp hA hB) hA2
 replace HT:=Aside0.mk (HT.out.below hbb)
 replace HX:=Aside0.mk (HX.out.below hbb)
 replace HY:=Aside0.mk (HY.out.below hbb)
 clear hmk hC3 hK HR1 HR2 HR3 HC hA hA2 hB hbb
 go_wp2_with fail
 generalize W11.alloc (.cells #[.slice none 0 0,.slice none 0 0] 67)=W12 at HT HX HY ⊢
 generalize W11.heap.size=gm
 generalize W10.heap.size=gb

 have HF:Aside0 (∀ w':World,Below W12.heap.size W12 w'→(w'.cell? ⟨gx,0,none⟩=some (.bool X.1)∧w'.cell? ⟨gx,1,none⟩=some (.slice A1 (dg B32 X.2.1).length c1)∧w'.cell? ⟨gx,2,none⟩=some (.slice A2 (dg B32 X.2.2).length c2)∧w'.cell? ⟨gd,0,none⟩=some (.bool Y.1)∧w'.cell? ⟨gd,1,none⟩=some (.slice B1 (dg B32 Y.2.1).length b1)∧w'.cell? ⟨gd,2,none⟩=some (.slice B2 (dg B32 Y.2.2).length b2)∧w'.cell? ⟨gt,0,none⟩=some (.slice A 2 c)∧w'.cell? ⟨gt,1,none⟩=some (.slice B 4 d))∧XB w gx X A1 c1 A2 c2 w'∧XB w gd Y B1 b1 B2 b2 w'∧KT w gt A c B d w'):=⟨fun w' h=>⟨⟨(zbu (HX.out.below h).1 0).trans rfl,(zbu (HX.out.below h).1 1).trans rfl,(zbu (HX.out.below h).1 2).trans rfl,(zbu (HY.out.below h).1 0).trans rfl,(zbu (HY.out.below h).1 1).trans rfl,(zbu (HY.out.below h).1 2).trans rfl,(zbu (HT.out.below h).t 0).trans rfl,(zbu (HT.out.below h).t 1).trans rfl⟩,HX.out.below h,HY.out.below h,HT.out.below h⟩⟩
 have HBE:=Aside0.mk HT.out.be
 clear HX HY HT
 refine start_ (n:=26) (S:=fun w'=>(w'.cell? ⟨gx,0,none⟩=some (.bool X.1)∧w'.cell? ⟨gx,1,none⟩=some (.slice A1 (dg B32 X.2.1).length c1)∧w'.cell? ⟨gx,2,none⟩=some (.slice A2 (dg B32 X.2.2).length c2)∧w'.cell? ⟨gd,0,none⟩=some (.bool Y.1)∧w'.cell? ⟨gd,1,none⟩=some (.slice B1 (dg B32 Y.2.1).length b1)∧w'.cell? ⟨gd,2,none⟩=some (.slice B2 (dg B32 Y.2.2).length b2)∧w'.cell? ⟨gt,0,none⟩=some (.slice A 2 c)∧w'.cell? ⟨gt,1,none⟩=some (.slice B 4 d))) (ds:=[]) #[zf,zf,zf,zf,zf,zf,zf,zf,zf,zf,zf,zf,zf,zf,zf,zf,zf,zf,zf,zf,zf,zf,zf,zf,zf,zf] (by kernel_rfl) rfl rfl ((HF.out _ (zbv (Below.refl _ _))).1) (fun hHeld=>?_)
 have hb0:=Aside0.mk (show Below W12.heap.size W12 W12.drew from zbv (Below.refl _ _))
 generalize W12.drew=V0 at hb0 hHeld ⊢
 refine qp 0 (some 32) ?_
 refine qp 1 (some 33) ?_
 refine qp 2 (some 34) ?_
 refine qt 4 (some 36) ?_
 refine qo 3 (some 35) (fun K hK=>?_)
 refine qg Try.func27 #[.int .i64 3] ?_
 refine(ref_int_n (x:=3) V0 (by decide) (by decide)).mono ?_
 rintro e V1 ⟨f3,rfl,hQ,hB⟩
 refine⟨_,rfl,?_⟩
 have hb1:=Aside0.mk (zbp hb0.out hB)
 have HQ3:=Aside0.mk hQ
 clear hQ
 clear hB hb0
 refine hK.out _ _ ((HF.out _ hb1.out).1) (fun hHeld=>?_)
 clear hK K
 refine qn ?_
 refine qo 5 (some 37) (fun K hK=>?_)
 refine qg Try.func20 #[f3,.agg #[.bool X.1,.slice A1 (dg B32 X.2.1).length c1,.slice A2 (dg B32 X.2.2).length c2]] ?_
 refine(ref_is_same HQ3.out (HF.out _ hb1.out).2.1.2 KX.out.2 (by rw [EX.out]; decide)).mono ?_
 rintro e V2 ⟨rfl,hB⟩
 refine⟨_,rfl,?_⟩
 have hb2:=Aside0.mk (zbp hb1.out hB)
 clear HQ3
 clear hB hb1
 refine hK.out _ _ ((HF.out _ hb2.out).1) (fun hHeld=>?_)
 clear hK K
 refine qn ?_
 refine qp 6 (some 38) ?_
 refine qp 7 (some 39) ?_
 refine qp 8 (some 40) ?_
 refine qp 9 (some 41) ?_
 refine qp 10 (some 42) ?_
 refine qp 11 (some 43) ?_
 refine qt 13 (some 45) ?_
 refine qo 12 (some 44) (fun K hK=>?_)
 refine qg Try.func27 #[.int .i64 30] ?_
 refine(ref_int_n (x:=30) V2 (by decide) (by decide)).mono ?_
 rintro e V3 ⟨f12,rfl,hQ,hB⟩
 refine⟨_,rfl,?_⟩
 have hb3:=Aside0.mk (zbp hb2.out hB)
 have HQ12:=Aside0.mk hQ
 clear hQ
 clear hB hb2
 refine hK.out _ _ ((HF.out _ hb3.out).1) (fun hHeld=>?_)
 clear hK K
 refine qn ?_
 refine qo 14 (some 46) (fun K hK=>?_)
 refine qg Try.func20 #[f12,.agg #[.bool Y.1,.slice B1 (dg B32 Y.2.1).length b1,.slice B2 (dg B32 Y.2.2).length b2]] ?_
 refine(ref_is_same HQ12.out (HF.out _ hb3.out).2.2.1.2 KY.out.2 (by rw [EY.out]; decide)).mono ?_
 rintro e V4 ⟨rfl,hB⟩
 refine⟨_,rfl,?_⟩
 have hb4:=Aside0.mk (zbp hb3.out hB)
 clear HQ12
 clear hB hb3
 refine hK.out _ _ ((HF.out _ hb4.out).1) (fun hHeld=>?_)
 clear hK K
 refine qn ?_
 refine qp 15 (some 47) ?_
 refine qp 16 (some 48) ?_
 refine qt 17 (some 49) ?_
 refine qo 18 (some 50) (fun K hK=>?_)
 refine qg Try.func90 #[.agg #[.slice A 2 c,.slice B 4 d]] ?_
 have hbt:=tbits_n A 2 c B d es4 V4 (HF.out _ hb4.out).2.2.2.e (HF.out _ hb4.out).2.2.2.ec (by decide) (fun x hx=>(es4_ok x hx).1)
 rw [bits_4] at hbt
 refine hbt.mono ?_
 clear hbt
 rintro e V5 ⟨rfl,hB⟩
 refine⟨_,rfl,?_⟩
 have hb5:=Aside0.mk (zbp hb4.out hB)
 clear hB hb4
 refine hK.out _ _ ((HF.out _ hb5.out).1) (fun hHeld=>?_)
 clear hK K
 refine qn ?_
 refine qp 19 (some 51) ?_
 refine qp 20 (some 52) ?_
 refine qp 21 (some 53) ?_
 refine qp 22 (some 54) ?_
 refine qp 23 (some 55) ?_
 refine qp 24 (some 56) ?_
 refine qp 25 (some 0) ?_
 refine done_ (by kernel_rfl) ?_
 clear hHeld
 go_wp2
 go_ret
 exact⟨rfl,zbp HBE.out hb5.out⟩
end Go.Proofs.Ytehghijlchpeaaa.Nat1
end
section
namespace Go.Proofs.Ytehghijlchpeaaa.Nat1
open Go.RowKit YtehghijlchpeaaaW.PrintWords YtehghijlchpeaaaW.PrintLast YtehghijlchpeaaaW.PrintMore L Nt Ev
def refSame.T1:Bool×List (List Nat×List Nat):=(true,[([],[]),([0],[0]),([],[]),([2,1],[2]),([],[]),([],[]),([4,1,3,0,1,4,5],[1,4]),([5,3,6,0,1,2,3,4,5,6],[3,5])])
def refSame.B1:List Nat:=[0,1,0,7,0,0,63,127]
theorem refSame.tab1:rtab .any (opsOf Try.f57 1)=refSame.T1:=by kernel_rfl
theorem refSame.bits1:waitsOk refSame.T1.2 refSame.B1=true:=by kernel_rfl
theorem okQ_sm {X:QN} (h:okQ X):sm X.2.1∧sm X.2.2:=⟨sm_of (okE_dg h.1).1 (Nat.le_trans (okE_dg h.1).2 (by decide)) _ (by rw [zbT zbB]; exact Nat.le_refl _),sm_of (okE_dg h.2).1 (Nat.le_trans (okE_dg h.2).2 (by decide)) _ (by rw [zbT zbB]; exact Nat.le_refl _)⟩
theorem ref_same_n {w:World} {u v:Value} {X:QN} (hu:NR w u X) (hv:NR w v X):Calls Try.prog 57 #[u,v] w fun e w'=>e=.returned (.bool true)∧Below w.heap.size w w':=by
 have hu25:=Try.underlying25
 have hu36:=Try.underlying36
 have HP1:=Aside0.mk (fun (W:World) (hb:Below w.heap.size w W)=>hu.below hb)
 have HP2:=Aside0.mk (fun (W:World) (hb:Below w.heap.size w W)=>hv.below hb)
 have HOK:=Aside0.mk (okQ_sm hu.okQ)
 obtain⟨n1,Aa1,ca1,p1,Ab1,cb1,q1,rfl,-⟩:=hu
 obtain⟨n2,Aa2,ca2,p2,Ab2,cb2,q2,rfl,-⟩:=hv
 go_enter Try.func57,Try.ntmps57
 go_wp2_with fail
 have hx1:=zbw (zbL w (.cells #[.bool n1,.slice Aa1 p1.length ca1,.slice Ab1 q1.length cb1] 25)) (.cells #[.bool n2,.slice Aa2 p2.length ca2,.slice Ab2 q2.length cb2] 25)
 have hx2:=zbL (w.alloc (.cells #[.bool n1,.slice Aa1 p1.length ca1,.slice Ab1 q1.length cb1] 25)) (.cells #[.bool n2,.slice Aa2 p2.length ca2,.slice Ab2 q2.length cb2] 25)
 rw [show (w.alloc (.cells #[.bool n1,.slice Aa1 p1.length ca1,.slice Ab1 q1.length cb1] 25)).heap.size=w.heap.size+1 by simp] at hx2
 have hbw:Below w.heap.size w ((w.alloc (.cells #[.bool n1,.slice Aa1 p1.length ca1,.slice Ab1 q1.length cb1] 25)).alloc (.cells #[.bool n2,.slice Aa2 p2.length ca2,.slice Ab2 q2.length cb2] 25)):=zbq (zbq (Below.refl _ _) _) _
 generalize (w.alloc (.cells #[.bool n1,.slice Aa1 p1.length ca1,.slice Ab1 q1.length cb1] 25)).alloc (.cells #[.bool n2,.slice Aa2 p2.length ca2,.slice Ab2 q2.length cb2] 25)=W2 at hx1 hx2 hbw ⊢
 have HF:Aside0 (∀ w':World,Below W2.heap.size W2 w'→(w'.cell? ⟨w.heap.size,0,none⟩=some (.bool n1)∧w'.cell? ⟨w.heap.size,1,none⟩=some (.slice Aa1 p1.length ca1)∧w'.cell? ⟨w.heap.size,2,none⟩=some (.slice Ab1 q1.length cb1)∧w'.cell? ⟨w.heap.size+1,0,none⟩=some (.bool n2)∧w'.cell? ⟨w.heap.size+1,1,none⟩=some (.slice Aa2 p2.length ca2)∧w'.cell? ⟨w.heap.size+1,2,none⟩=some (.slice Ab2 q2.length cb2))∧Below w.heap.size w w'):=⟨fun W hb=>⟨⟨(zbu (zbt hx1 hb) 0).trans rfl,(zbu (zbt hx1 hb) 1).trans rfl,(zbu (zbt hx1 hb) 2).trans rfl,(zbu (zbt hx2 hb) 0).trans rfl,(zbu (zbt hx2 hb) 1).trans rfl,(zbu (zbt hx2 hb) 2).trans rfl⟩,zbp hbw hb⟩⟩
 clear hx1 hx2 hbw
 refine start_ (n:=8) (S:=fun w'=>(w'.cell? ⟨w.heap.size,0,none⟩=some (.bool n1)∧w'.cell? ⟨w.heap.size,1,none⟩=some (.slice Aa1 p1.length ca1)∧w'.cell? ⟨w.heap.size,2,none⟩=some (.slice Ab1 q1.length cb1)∧w'.cell? ⟨w.heap.size+1,0,none⟩=some (.bool n2)∧w'.cell? ⟨w.heap.size+1,1,none⟩=some (.slice Aa2 p2.length ca2)∧w'.cell? ⟨w.heap.size+1,2,none⟩=some (.slice Ab2 q2.length cb2))) (ds:=[6,7]) #[zf,zf,zf,zf,zf,zf,zf,zf] (by kernel_rfl) rfl rfl ((HF.out _ (zbv (Below.refl _ _))).1) (fun hHeld=>?_)
 have hb0:=Aside0.mk (show Below W2.heap.size W2 W2.drew from zbv (Below.refl _ _))
 generalize W2.drew=V0 at hb0 hHeld ⊢
 refine with_tabW refSame.tab1 refSame.bits1 (fun HT_ HW_=>?_)
 refine qtT 0 (some 7) ?_
 refine qtT 2 (some 9) ?_
 refine join_ (σ:=Option Addr×Nat×Option Addr×Nat×Option Addr×Nat×Option Addr×Nat×Nat×Nat) 2 #[zt,zt,zt,zt,zt,zt,zf,zf] (fun s=>[(8,.agg #[.bool X.1,.slice s.1 (dg 10000 X.2.1).length s.2.1,.slice s.2.2.1 (dg 10000 X.2.2).length s.2.2.2.1]),(10,.agg #[.bool X.1,.slice s.2.2.2.2.1 (dg 10000 X.2.1).length s.2.2.2.2.2.1,.slice s.2.2.2.2.2.2.1 (dg 10000 X.2.2).length s.2.2.2.2.2.2.2.1]),(5,.pointer (some ⟨s.2.2.2.2.2.2.2.2.1,0,none⟩)),(6,.pointer (some ⟨s.2.2.2.2.2.2.2.2.2,0,none⟩))]) (fun s w'=>(w'.cell? ⟨w.heap.size,0,none⟩=some (.bool n1)∧w'.cell? ⟨w.heap.size,1,none⟩=some (.slice Aa1 p1.length ca1)∧w'.cell? ⟨w.heap.size,2,none⟩=some (.slice Ab1 q1.length cb1)∧w'.cell? ⟨w.heap.size+1,0,none⟩=some (.bool n2)∧w'.cell? ⟨w.heap.size+1,1,none⟩=some (.slice Aa2 p2.length ca2)∧w'.cell? ⟨w.heap.size+1,2,none⟩=some (.slice Ab2 q2.length cb2))∧(QT w' w.heap.size (.agg #[.bool X.1,.slice s.1 (dg 10000 X.2.1).length s.2.1,.slice s.2.2.1 (dg 10000 X.2.2).length s.2.2.2.1]) X)∧(QT w' w.heap.size (.agg #[.bool X.1,.slice s.2.2.2.2.1 (dg 10000 X.2.1).length s.2.2.2.2.2.1,.slice s.2.2.2.2.2.2.1 (dg 10000 X.2.2).length s.2.2.2.2.2.2.2.1]) X)∧(w'.heap[s.2.2.2.2.2.2.2.2.1]? = some (.cells #[.bool false,.slice none 0 0,.slice none 0 0] 36 (0,0))∧W2.heap.size≤s.2.2.2.2.2.2.2.2.1)∧(w'.heap[s.2.2.2.2.2.2.2.2.2]? = some (.cells #[.bool false,.slice none 0 0,.slice none 0 0] 36 (0,0))∧W2.heap.size≤s.2.2.2.2.2.2.2.2.2)∧(s.2.2.2.2.2.2.2.2.1≠s.2.2.2.2.2.2.2.2.2)∧Below W2.heap.size W2 w') ?_ ?_
 rotate_left
 ·
  intro hJ1_3_4_5
  refine join_ (σ:=Option Addr×Nat×Option Addr×Nat×Option Addr×Nat×Option Addr×Nat×Nat) 3 #[zt,zt,zt,zt,zt,zf,zf,zf] (fun s=>[(8,.agg #[.bool X.1,.slice s.1 (dg 10000 X.2.1).length s.2.1,.slice s.2.2.1 (dg 10000 X.2.2).length s.2.2.2.1]),(10,.agg #[.bool X.1,.slice s.2.2.2.2.1 (dg 10000 X.2.1).length s.2.2.2.2.2.1,.slice s.2.2.2.2.2.2.1 (dg 10000 X.2.2).length s.2.2.2.2.2.2.2.1]),(5,.pointer (some ⟨s.2.2.2.2.2.2.2.2,0,none⟩))]) (fun s w'=>(w'.cell? ⟨w.heap.size,0,none⟩=some (.bool n1)∧w'.cell? ⟨w.heap.size,1,none⟩=some (.slice Aa1 p1.length ca1)∧w'.cell? ⟨w.heap.size,2,none⟩=some (.slice Ab1 q1.length cb1)∧w'.cell? ⟨w.heap.size+1,0,none⟩=some (.bool n2)∧w'.cell? ⟨w.heap.size+1,1,none⟩=some (.slice Aa2 p2.length ca2)∧w'.cell? ⟨w.heap.size+1,2,none⟩=some (.slice Ab2 q2.length cb2))∧(QT w' w.heap.size (.agg #[.bool X.1,.slice s.1 (dg 10000 X.2.1).length s.2.1,.slice s.2.2.1 (dg 10000 X.2.2).length s.2.2.2.1]) X)∧(QT w' w.heap.size (.agg #[.bool X.1,.slice s.2.2.2.2.1 (dg 10000 X.2.1).length s.2.2.2.2.2.1,.slice s.2.2.2.2.2.2.1 (dg 10000 X.2.2).length s.2.2.2.2.2.2.2.1]) X)∧(w'.heap[s.2.2.2.2.2.2.2.2]? = some (.cells #[.bool false,.slice none 0 0,.slice none 0 0] 36 (0,0))∧W2.heap.size≤s.2.2.2.2.2.2.2.2)∧Below W2.heap.size W2 w') ?_ ?_
  rotate_left
  ·
   intro hJ1_3_4
   refine join_ (σ:=Option Addr×Nat×Option Addr×Nat×Option Addr×Nat×Option Addr×Nat×Nat) 3 #[zt,zt,zt,zt,zf,zt,zf,zf] (fun s=>[(8,.agg #[.bool X.1,.slice s.1 (dg 10000 X.2.1).length s.2.1,.slice s.2.2.1 (dg 10000 X.2.2).length s.2.2.2.1]),(10,.agg #[.bool X.1,.slice s.2.2.2.2.1 (dg 10000 X.2.1).length s.2.2.2.2.2.1,.slice s.2.2.2.2.2.2.1 (dg 10000 X.2.2).length s.2.2.2.2.2.2.2.1]),(6,.pointer (some ⟨s.2.2.2.2.2.2.2.2,0,none⟩))]) (fun s w'=>(w'.cell? ⟨w.heap.size,0,none⟩=some (.bool n1)∧w'.cell? ⟨w.heap.size,1,none⟩=some (.slice Aa1 p1.length ca1)∧w'.cell? ⟨w.heap.size,2,none⟩=some (.slice Ab1 q1.length cb1)∧w'.cell? ⟨w.heap.size+1,0,none⟩=some (.bool n2)∧w'.cell? ⟨w.heap.size+1,1,none⟩=some (.slice Aa2 p2.length ca2)∧w'.cell? ⟨w.heap.size+1,2,none⟩=some (.slice Ab2 q2.length cb2))∧(QT w' w.heap.size (.agg #[.bool X.1,.slice s.1 (dg 10000 X.2.1).length s.2.1,.slice s.2.2.1 (dg 10000 X.2.2).length s.2.2.2.1]) X)∧(QT w' w.heap.size (.agg #[.bool X.1,.slice s.2.2.2.2.1 (dg 10000 X.2.1).length s.2.2.2.2.2.1,.slice s.2.2.2.2.2.2.1 (dg 10000 X.2.2).length s.2.2.2.2.2.2.2.1]) X)∧(w'.heap[s.2.2.2.2.2.2.2.2]? = some (.cells #[.bool false,.slice none 0 0,.slice none 0 0] 36 (0,0))∧W2.heap.size≤s.2.2.2.2.2.2.2.2)∧Below W2.heap.size W2 w') ?_ ?_
   rotate_left
   ·
    intro hJ1_3_5
    refine join_ (σ:=Option Addr×Nat×Option Addr×Nat×Nat×Nat) 3 #[zt,zt,zt,zf,zt,zt,zf,zf] (fun s=>[(8,.agg #[.bool X.1,.slice s.1 (dg 10000 X.2.1).length s.2.1,.slice s.2.2.1 (dg 10000 X.2.2).length s.2.2.2.1]),(5,.pointer (some ⟨s.2.2.2.2.1,0,none⟩)),(6,.pointer (some ⟨s.2.2.2.2.2,0,none⟩))]) (fun s w'=>(w'.cell? ⟨w.heap.size,0,none⟩=some (.bool n1)∧w'.cell? ⟨w.heap.size,1,none⟩=some (.slice Aa1 p1.length ca1)∧w'.cell? ⟨w.heap.size,2,none⟩=some (.slice Ab1 q1.length cb1)∧w'.cell? ⟨w.heap.size+1,0,none⟩=some (.bool n2)∧w'.cell? ⟨w.heap.size+1,1,none⟩=some (.slice Aa2 p2.length ca2)∧w'.cell? ⟨w.heap.size+1,2,none⟩=some (.slice Ab2 q2.length cb2))∧(QT w' w.heap.size (.agg #[.bool X.1,.slice s.1 (dg 10000 X.2.1).length s.2.1,.slice s.2.2.1 (dg 10000 X.2.2).length s.2.2.2.1]) X)∧(w'.heap[s.2.2.2.2.1]? = some (.cells #[.bool false,.slice none 0 0,.slice none 0 0] 36 (0,0))∧W2.heap.size≤s.2.2.2.2.1)∧(w'.heap[s.2.2.2.2.2]? = some (.cells #[.bool false,.slice none 0 0,.slice none 0 0] 36 (0,0))∧W2.heap.size≤s.2.2.2.2.2)∧(s.2.2.2.2.1≠s.2.2.2.2.2)∧Below W2.heap.size W2 w') ?_ ?_
    rotate_left
    ·
     intro hJ1_4_5
     refine join_ (σ:=Option Addr×Nat×Option Addr×Nat×Option Addr×Nat×Option Addr×Nat) 4 #[zt,zt,zt,zt,zf,zf,zf,zf] (fun s=>[(8,.agg #[.bool X.1,.slice s.1 (dg 10000 X.2.1).length s.2.1,.slice s.2.2.1 (dg 10000 X.2.2).length s.2.2.2.1]),(10,.agg #[.bool X.1,.slice s.2.2.2.2.1 (dg 10000 X.2.1).length s.2.2.2.2.2.1,.slice s.2.2.2.2.2.2.1 (dg 10000 X.2.2).length s.2.2.2.2.2.2.2])]) (fun s w'=>(w'.cell? ⟨w.heap.size,0,none⟩=some (.bool n1)∧w'.cell? ⟨w.heap.size,1,none⟩=some (.slice Aa1 p1.length ca1)∧w'.cell? ⟨w.heap.size,2,none⟩=some (.slice Ab1 q1.length cb1)∧w'.cell? ⟨w.heap.size+1,0,none⟩=some (.bool n2)∧w'.cell? ⟨w.heap.size+1,1,none⟩=some (.slice Aa2 p2.length ca2)∧w'.cell? ⟨w.heap.size+1,2,none⟩=some (.slice Ab2 q2.length cb2))∧(QT w' w.heap.size (.agg #[.bool X.1,.slice s.1 (dg 10000 X.2.1).length s.2.1,.slice s.2.2.1 (dg 10000 X.2.2).length s.2.2.2.1]) X)∧(QT w' w.heap.size (.agg #[.bool X.1,.slice s.2.2.2.2.1 (dg 10000 X.2.1).length s.2.2.2.2.2.1,.slice s.2.2.2.2.2.2.1 (dg 10000 X.2.2).length s.2.2.2.2.2.2.2]) X)∧Below W2.heap.size W2 w') ?_ ?_
     rotate_left
     ·
      intro hJ1_3
      refine join_ (σ:=Option Addr×Nat×Option Addr×Nat×Nat) 4 #[zt,zt,zt,zf,zt,zf,zf,zf] (fun s=>[(8,.agg #[.bool X.1,.slice s.1 (dg 10000 X.2.1).length s.2.1,.slice s.2.2.1 (dg 10000 X.2.2).length s.2.2.2.1]),(5,.pointer (some ⟨s.2.2.2.2,0,none⟩))]) (fun s w'=>(w'.cell? ⟨w.heap.size,0,none⟩=some (.bool n1)∧w'.cell? ⟨w.heap.size,1,none⟩=some (.slice Aa1 p1.length ca1)∧w'.cell? ⟨w.heap.size,2,none⟩=some (.slice Ab1 q1.length cb1)∧w'.cell? ⟨w.heap.size+1,0,none⟩=some (.bool n2)∧w'.cell? ⟨w.heap.size+1,1,none⟩=some (.slice Aa2 p2.length ca2)∧w'.cell? ⟨w.heap.size+1,2,none⟩=some (.slice Ab2 q2.length cb2))∧(QT w' w.heap.size (.agg #[.bool X.1,.slice s.1 (dg 10000 X.2.1).length s.2.1,.slice s.2.2.1 (dg 10000 X.2.2).length s.2.2.2.1]) X)∧(w'.heap[s.2.2.2.2]? = some (.cells #[.bool false,.slice none 0 0,.slice none 0 0] 36 (0,0))∧W2.heap.size≤s.2.2.2.2)∧Below W2.heap.size W2 w') ?_ ?_
      rotate_left
      ·
       intro hJ1_4
       refine join_ (σ:=Option Addr×Nat×Option Addr×Nat×Nat) 4 #[zt,zt,zt,zf,zf,zt,zf,zf] (fun s=>[(8,.agg #[.bool X.1,.slice s.1 (dg 10000 X.2.1).length s.2.1,.slice s.2.2.1 (dg 10000 X.2.2).length s.2.2.2.1]),(6,.pointer (some ⟨s.2.2.2.2,0,none⟩))]) (fun s w'=>(w'.cell? ⟨w.heap.size,0,none⟩=some (.bool n1)∧w'.cell? ⟨w.heap.size,1,none⟩=some (.slice Aa1 p1.length ca1)∧w'.cell? ⟨w.heap.size,2,none⟩=some (.slice Ab1 q1.length cb1)∧w'.cell? ⟨w.heap.size+1,0,none⟩=some (.bool n2)∧w'.cell? ⟨w.heap.size+1,1,none⟩=some (.slice Aa2 p2.length ca2)∧w'.cell? ⟨w.heap.size+1,2,none⟩=some (.slice Ab2 q2.length cb2))∧(QT w' w.heap.size (.agg #[.bool X.1,.slice s.1 (dg 10000 X.2.1).length s.2.1,.slice s.2.2.1 (dg 10000 X.2.2).length s.2.2.2.1]) X)∧(w'.heap[s.2.2.2.2]? = some (.cells #[.bool false,.slice none 0 0,.slice none 0 0] 36 (0,0))∧W2.heap.size≤s.2.2.2.2)∧Below W2.heap.size W2 w') ?_ ?_
       rotate_left
       ·
        intro hJ1_5
        refine join_ (σ:=Nat×Nat) 4 #[zt,zf,zt,zf,zt,zt,zf,zf] (fun s=>[(5,.pointer (some ⟨s.1,0,none⟩)),(6,.pointer (some ⟨s.2,0,none⟩))]) (fun s w'=>(w'.cell? ⟨w.heap.size,0,none⟩=some (.bool n1)∧w'.cell? ⟨w.heap.size,1,none⟩=some (.slice Aa1 p1.length ca1)∧w'.cell? ⟨w.heap.size,2,none⟩=some (.slice Ab1 q1.length cb1)∧w'.cell? ⟨w.heap.size+1,0,none⟩=some (.bool n2)∧w'.cell? ⟨w.heap.size+1,1,none⟩=some (.slice Aa2 p2.length ca2)∧w'.cell? ⟨w.heap.size+1,2,none⟩=some (.slice Ab2 q2.length cb2))∧(w'.heap[s.1]? = some (.cells #[.bool false,.slice none 0 0,.slice none 0 0] 36 (0,0))∧W2.heap.size≤s.1)∧(w'.heap[s.2]? = some (.cells #[.bool false,.slice none 0 0,.slice none 0 0] 36 (0,0))∧W2.heap.size≤s.2)∧(s.1≠s.2)∧Below W2.heap.size W2 w') ?_ ?_
        rotate_left
        ·
         intro hJ4_5
         refine join_ (σ:=Option Addr×Nat×Option Addr×Nat) 5 #[zt,zt,zt,zf,zf,zf,zf,zf] (fun s=>[(8,.agg #[.bool X.1,.slice s.1 (dg 10000 X.2.1).length s.2.1,.slice s.2.2.1 (dg 10000 X.2.2).length s.2.2.2])]) (fun s w'=>(w'.cell? ⟨w.heap.size,0,none⟩=some (.bool n1)∧w'.cell? ⟨w.heap.size,1,none⟩=some (.slice Aa1 p1.length ca1)∧w'.cell? ⟨w.heap.size,2,none⟩=some (.slice Ab1 q1.length cb1)∧w'.cell? ⟨w.heap.size+1,0,none⟩=some (.bool n2)∧w'.cell? ⟨w.heap.size+1,1,none⟩=some (.slice Aa2 p2.length ca2)∧w'.cell? ⟨w.heap.size+1,2,none⟩=some (.slice Ab2 q2.length cb2))∧(QT w' w.heap.size (.agg #[.bool X.1,.slice s.1 (dg 10000 X.2.1).length s.2.1,.slice s.2.2.1 (dg 10000 X.2.2).length s.2.2.2]) X)∧Below W2.heap.size W2 w') ?_ ?_
         rotate_left
         ·
          intro hJ1
          refine join_ (σ:=Nat) 5 #[zt,zf,zt,zf,zt,zf,zf,zf] (fun s=>[(5,.pointer (some ⟨s,0,none⟩))]) (fun s w'=>(w'.cell? ⟨w.heap.size,0,none⟩=some (.bool n1)∧w'.cell? ⟨w.heap.size,1,none⟩=some (.slice Aa1 p1.length ca1)∧w'.cell? ⟨w.heap.size,2,none⟩=some (.slice Ab1 q1.length cb1)∧w'.cell? ⟨w.heap.size+1,0,none⟩=some (.bool n2)∧w'.cell? ⟨w.heap.size+1,1,none⟩=some (.slice Aa2 p2.length ca2)∧w'.cell? ⟨w.heap.size+1,2,none⟩=some (.slice Ab2 q2.length cb2))∧(w'.heap[s]? = some (.cells #[.bool false,.slice none 0 0,.slice none 0 0] 36 (0,0))∧W2.heap.size≤s)∧Below W2.heap.size W2 w') ?_ ?_
          rotate_left
          ·
           intro hJ4
           refine join_ (σ:=Nat) 5 #[zt,zf,zt,zf,zf,zt,zf,zf] (fun s=>[(6,.pointer (some ⟨s,0,none⟩))]) (fun s w'=>(w'.cell? ⟨w.heap.size,0,none⟩=some (.bool n1)∧w'.cell? ⟨w.heap.size,1,none⟩=some (.slice Aa1 p1.length ca1)∧w'.cell? ⟨w.heap.size,2,none⟩=some (.slice Ab1 q1.length cb1)∧w'.cell? ⟨w.heap.size+1,0,none⟩=some (.bool n2)∧w'.cell? ⟨w.heap.size+1,1,none⟩=some (.slice Aa2 p2.length ca2)∧w'.cell? ⟨w.heap.size+1,2,none⟩=some (.slice Ab2 q2.length cb2))∧(w'.heap[s]? = some (.cells #[.bool false,.slice none 0 0,.slice none 0 0] 36 (0,0))∧W2.heap.size≤s)∧Below W2.heap.size W2 w') ?_ ?_
           rotate_left
           ·
            intro hJ5
            refine three_ (i:=1) (j:=4) (k:=5) (Ni:=some 8) (Nj:=some 5) (Nk:=some 6) #[zt,zt,zt,zf,zf,zf,zf,zf] #[zt,zf,zt,zf,zt,zf,zf,zf] #[zt,zf,zt,zf,zf,zt,zf,zf] rfl rfl rfl rfl rfl rfl (three_of HT_.out (by kernel_rfl)) (by decide) (by decide) (by decide) (fun K hK=>?_) (fun K hK=>?_) (fun K hK=>?_)
            ·
             skip
             refine qg Try.func21 #[.agg #[.bool n1,.slice Aa1 p1.length ca1,.slice Ab1 q1.length cb1]] ?_
             refine(ref_of_n (HP1.out V0 (HF.out _ hb0.out).2)).mono ?_
             rintro e Vn ⟨_,rfl,⟨m1,m2,rfl,R1,R2⟩,hB⟩
             refine⟨_,rfl,?_⟩
             obtain⟨A1,c1,rfl⟩:=Kd.R_slice R1
             obtain⟨B1,d1,rfl⟩:=Kd.R_slice R2
             have new:QT Vn w.heap.size (.agg #[.bool X.1,.slice A1 (dg 10000 X.2.1).length c1,.slice B1 (dg 10000 X.2.2).length d1]) X:=⟨_,_,rfl,Kd.R_lower R1 (HF.out _ hb0.out).2.size,Kd.R_lower R2 (HF.out _ hb0.out).2.size⟩
             have hbn:=Aside0.mk (zbp hb0.out hB)
             refine hK.out _ _ ((HF.out _ hbn.out).1) (fun hHeld=>?_)
             clear hK K
             refine qn ?_
             exact zcc (by first | (simp only [zbN,Act.put,zA1,zA2,zA3]; done) | (simp only [zbN,Act.put,zA1,zA2,zA3]; rfl)) (hJ1 (A1,c1,B1,d1) _ ⟨(HF.out _ hbn.out).1,new,hbn.out⟩)
            ·
             skip
             refine qv ?_
             have hB:Below V0.heap.size V0 (V0.alloc (.cells #[.bool false,.slice none 0 0,.slice none 0 0] 36 (0,0))):=zbq (Below.refl _ _) _
             have hN:=zbL V0 (.cells #[.bool false,.slice none 0 0,.slice none 0 0] 36 (0,0))
             have hbn:=Aside0.mk (zbp hb0.out hB)
             refine hK.out _ _ ((HF.out _ hbn.out).1) (fun hHeld=>?_)
             clear hK K
             refine qn ?_
             exact zcc (by first | (simp only [zbN,Act.put,zA1,zA2,zA3]; done) | (simp only [zbN,Act.put,zA1,zA2,zA3]; rfl)) (hJ4 (V0.heap.size) _ ⟨(HF.out _ hbn.out).1,⟨hN,hb0.out.size⟩,hbn.out⟩)
            ·
             skip
             refine qv ?_
             have hB:Below V0.heap.size V0 (V0.alloc (.cells #[.bool false,.slice none 0 0,.slice none 0 0] 36 (0,0))):=zbq (Below.refl _ _) _
             have hN:=zbL V0 (.cells #[.bool false,.slice none 0 0,.slice none 0 0] 36 (0,0))
             have hbn:=Aside0.mk (zbp hb0.out hB)
             refine hK.out _ _ ((HF.out _ hbn.out).1) (fun hHeld=>?_)
             clear hK K
             refine qn ?_
             exact zcc (by first | (simp only [zbN,Act.put,zA1,zA2,zA3]; done) | (simp only [zbN,Act.put,zA1,zA2,zA3]; rfl)) (hJ5 (V0.heap.size) _ ⟨(HF.out _ hbn.out).1,⟨hN,hb0.out.size⟩,hbn.out⟩)
           ·
            skip
            rintro g5 V ⟨hHeld,kK5,hb⟩
            have K5:=Aside0.mk kK5
            have hbv:=Aside0.mk hb
            clear hb kK5
            refine zcc (a':=?_) ?_ ?_
            rotate_left
            ·
             simp only [zbN,Act.put,zA1,zA2,zA3]
             rfl
            refine two_ (i:=1) (j:=4) (Ni:=some 8) (Nj:=some 5) #[zt,zt,zt,zf,zf,zt,zf,zf] #[zt,zf,zt,zf,zt,zt,zf,zf] rfl rfl rfl rfl (two_of HT_.out (by kernel_rfl)) (by decide) (by decide) (fun K hK=>?_) (fun K hK=>?_)
            ·
             skip
             refine qg Try.func21 #[.agg #[.bool n1,.slice Aa1 p1.length ca1,.slice Ab1 q1.length cb1]] ?_
             refine(ref_of_n (HP1.out V (HF.out _ hbv.out).2)).mono ?_
             rintro e Vn ⟨_,rfl,⟨m1,m2,rfl,R1,R2⟩,hB⟩
             refine⟨_,rfl,?_⟩
             obtain⟨A1,c1,rfl⟩:=Kd.R_slice R1
             obtain⟨B1,d1,rfl⟩:=Kd.R_slice R2
             have new:QT Vn w.heap.size (.agg #[.bool X.1,.slice A1 (dg 10000 X.2.1).length c1,.slice B1 (dg 10000 X.2.2).length d1]) X:=⟨_,_,rfl,Kd.R_lower R1 (HF.out _ hbv.out).2.size,Kd.R_lower R2 (HF.out _ hbv.out).2.size⟩
             have hbn:=Aside0.mk (zbp hbv.out hB)
             refine hK.out _ _ ((HF.out _ hbn.out).1) (fun hHeld=>?_)
             clear hK K
             refine qn ?_
             exact zcc (by first | (simp only [zbN,Act.put,zA1,zA2,zA3]; done) | (simp only [zbN,Act.put,zA1,zA2,zA3]; rfl)) (hJ1_5 (A1,c1,B1,d1,g5) _ ⟨(HF.out _ hbn.out).1,new,⟨zbt K5.out.1 hB,K5.out.2⟩,hbn.out⟩)
            ·
             skip
             refine qv ?_
             have hB:Below V.heap.size V (V.alloc (.cells #[.bool false,.slice none 0 0,.slice none 0 0] 36 (0,0))):=zbq (Below.refl _ _) _
             have hN:=zbL V (.cells #[.bool false,.slice none 0 0,.slice none 0 0] 36 (0,0))
             have hbn:=Aside0.mk (zbp hbv.out hB)
             refine hK.out _ _ ((HF.out _ hbn.out).1) (fun hHeld=>?_)
             clear hK K
             refine qn ?_
             exact zcc (by first | (simp only [zbN,Act.put,zA1,zA2,zA3]; done) | (simp only [zbN,Act.put,zA1,zA2,zA3]; rfl)) (hJ4_5 (V.heap.size,g5) _ ⟨(HF.out _ hbn.out).1,⟨hN,hbv.out.size⟩,⟨zbt K5.out.1 hB,K5.out.2⟩,(Nat.ne_of_lt (zbQ K5.out.1)).symm,hbn.out⟩)
          ·
           skip
           rintro g4 V ⟨hHeld,kK4,hb⟩
           have K4:=Aside0.mk kK4
           have hbv:=Aside0.mk hb
           clear hb kK4
           refine zcc (a':=?_) ?_ ?_
           rotate_left
           ·
            simp only [zbN,Act.put,zA1,zA2,zA3]
            rfl
           refine two_ (i:=1) (j:=5) (Ni:=some 8) (Nj:=some 6) #[zt,zt,zt,zf,zt,zf,zf,zf] #[zt,zf,zt,zf,zt,zt,zf,zf] rfl rfl rfl rfl (two_of HT_.out (by kernel_rfl)) (by decide) (by decide) (fun K hK=>?_) (fun K hK=>?_)
           ·
            skip
            refine qg Try.func21 #[.agg #[.bool n1,.slice Aa1 p1.length ca1,.slice Ab1 q1.length cb1]] ?_
            refine(ref_of_n (HP1.out V (HF.out _ hbv.out).2)).mono ?_
            rintro e Vn ⟨_,rfl,⟨m1,m2,rfl,R1,R2⟩,hB⟩
            refine⟨_,rfl,?_⟩
            obtain⟨A1,c1,rfl⟩:=Kd.R_slice R1
            obtain⟨B1,d1,rfl⟩:=Kd.R_slice R2
            have new:QT Vn w.heap.size (.agg #[.bool X.1,.slice A1 (dg 10000 X.2.1).length c1,.slice B1 (dg 10000 X.2.2).length d1]) X:=⟨_,_,rfl,Kd.R_lower R1 (HF.out _ hbv.out).2.size,Kd.R_lower R2 (HF.out _ hbv.out).2.size⟩
            have hbn:=Aside0.mk (zbp hbv.out hB)
            refine hK.out _ _ ((HF.out _ hbn.out).1) (fun hHeld=>?_)
            clear hK K
            refine qn ?_
            exact zcc (by first | (simp only [zbN,Act.put,zA1,zA2,zA3]; done) | (simp only [zbN,Act.put,zA1,zA2,zA3]; rfl)) (hJ1_4 (A1,c1,B1,d1,g4) _ ⟨(HF.out _ hbn.out).1,new,⟨zbt K4.out.1 hB,K4.out.2⟩,hbn.out⟩)
           ·
            skip
            refine qv ?_
            have hB:Below V.heap.size V (V.alloc (.cells #[.bool false,.slice none 0 0,.slice none 0 0] 36 (0,0))):=zbq (Below.refl _ _) _
            have hN:=zbL V (.cells #[.bool false,.slice none 0 0,.slice none 0 0] 36 (0,0))
            have hbn:=Aside0.mk (zbp hbv.out hB)
            refine hK.out _ _ ((HF.out _ hbn.out).1) (fun hHeld=>?_)
            clear hK K
            refine qn ?_
            exact zcc (by first | (simp only [zbN,Act.put,zA1,zA2,zA3]; done) | (simp only [zbN,Act.put,zA1,zA2,zA3]; rfl)) (hJ4_5 (g4,V.heap.size) _ ⟨(HF.out _ hbn.out).1,⟨zbt K4.out.1 hB,K4.out.2⟩,⟨hN,hbv.out.size⟩,Nat.ne_of_lt (zbQ K4.out.1),hbn.out⟩)
         ·
          skip
          rintro⟨A1,c1,B1,d1⟩ V ⟨hHeld,kK1,hb⟩
          have K1:=Aside0.mk kK1
          have hbv:=Aside0.mk hb
          clear hb kK1
          refine zcc (a':=?_) ?_ ?_
          rotate_left
          ·
           simp only [zbN,Act.put,zA1,zA2,zA3]
           rfl
          refine three_ (i:=3) (j:=4) (k:=5) (Ni:=some 10) (Nj:=some 5) (Nk:=some 6) #[zt,zt,zt,zt,zf,zf,zf,zf] #[zt,zt,zt,zf,zt,zf,zf,zf] #[zt,zt,zt,zf,zf,zt,zf,zf] rfl rfl rfl rfl rfl rfl (three_of HT_.out (by kernel_rfl)) (by decide) (by decide) (by decide) (fun K hK=>?_) (fun K hK=>?_) (fun K hK=>?_)
          ·
           skip
           refine qg Try.func21 #[.agg #[.bool n2,.slice Aa2 p2.length ca2,.slice Ab2 q2.length cb2]] ?_
           refine(ref_of_n (HP2.out V (HF.out _ hbv.out).2)).mono ?_
           rintro e Vn ⟨_,rfl,⟨m1,m2,rfl,R1,R2⟩,hB⟩
           refine⟨_,rfl,?_⟩
           obtain⟨A3,c3,rfl⟩:=Kd.R_slice R1
           obtain⟨B3,d3,rfl⟩:=Kd.R_slice R2
           have new:QT Vn w.heap.size (.agg #[.bool X.1,.slice A3 (dg 10000 X.2.1).length c3,.slice B3 (dg 10000 X.2.2).length d3]) X:=⟨_,_,rfl,Kd.R_lower R1 (HF.out _ hbv.out).2.size,Kd.R_lower R2 (HF.out _ hbv.out).2.size⟩
           have hbn:=Aside0.mk (zbp hbv.out hB)
           refine hK.out _ _ ((HF.out _ hbn.out).1) (fun hHeld=>?_)
           clear hK K
           refine qn ?_
           exact zcc (by first | (simp only [zbN,Act.put,zA1,zA2,zA3]; done) | (simp only [zbN,Act.put,zA1,zA2,zA3]; rfl)) (hJ1_3 (A1,c1,B1,d1,A3,c3,B3,d3) _ ⟨(HF.out _ hbn.out).1,K1.out.below hB,new,hbn.out⟩)
          ·
           skip
           refine qv ?_
           have hB:Below V.heap.size V (V.alloc (.cells #[.bool false,.slice none 0 0,.slice none 0 0] 36 (0,0))):=zbq (Below.refl _ _) _
           have hN:=zbL V (.cells #[.bool false,.slice none 0 0,.slice none 0 0] 36 (0,0))
           have hbn:=Aside0.mk (zbp hbv.out hB)
           refine hK.out _ _ ((HF.out _ hbn.out).1) (fun hHeld=>?_)
           clear hK K
           refine qn ?_
           exact zcc (by first | (simp only [zbN,Act.put,zA1,zA2,zA3]; done) | (simp only [zbN,Act.put,zA1,zA2,zA3]; rfl)) (hJ1_4 (A1,c1,B1,d1,V.heap.size) _ ⟨(HF.out _ hbn.out).1,K1.out.below hB,⟨hN,hbv.out.size⟩,hbn.out⟩)
          ·
           skip
           refine qv ?_
           have hB:Below V.heap.size V (V.alloc (.cells #[.bool false,.slice none 0 0,.slice none 0 0] 36 (0,0))):=zbq (Below.refl _ _) _
           have hN:=zbL V (.cells #[.bool false,.slice none 0 0,.slice none 0 0] 36 (0,0))
           have hbn:=Aside0.mk (zbp hbv.out hB)
           refine hK.out _ _ ((HF.out _ hbn.out).1) (fun hHeld=>?_)
           clear hK K
           refine qn ?_
           exact zcc (by first | (simp only [zbN,Act.put,zA1,zA2,zA3]; done) | (simp only [zbN,Act.put,zA1,zA2,zA3]; rfl)) (hJ1_5 (A1,c1,B1,d1,V.heap.size) _ ⟨(HF.out _ hbn.out).1,K1.out.below hB,⟨hN,hbv.out.size⟩,hbn.out⟩)
        ·
         skip
         rintro⟨g4,g5⟩ V ⟨hHeld,kK4,kK5,kE4_5,hb⟩
         have K4:=Aside0.mk kK4
         have K5:=Aside0.mk kK5
         have E4_5:=Aside0.mk kE4_5
         have hbv:=Aside0.mk hb
         clear hb kK4 kK5 kE4_5
         refine zcc (a':=?_) ?_ ?_
         rotate_left
         ·
          simp only [zbN,Act.put,zA1,zA2,zA3]
          rfl
         refine qoT 1 (some 8) (fun K hK=>?_)
         refine qg Try.func21 #[.agg #[.bool n1,.slice Aa1 p1.length ca1,.slice Ab1 q1.length cb1]] ?_
         refine(ref_of_n (HP1.out V (HF.out _ hbv.out).2)).mono ?_
         rintro e Vn ⟨_,rfl,⟨m1,m2,rfl,R1,R2⟩,hB⟩
         refine⟨_,rfl,?_⟩
         obtain⟨A1,c1,rfl⟩:=Kd.R_slice R1
         obtain⟨B1,d1,rfl⟩:=Kd.R_slice R2
         have new:QT Vn w.heap.size (.agg #[.bool X.1,.slice A1 (dg 10000 X.2.1).length c1,.slice B1 (dg 10000 X.2.2).length d1]) X:=⟨_,_,rfl,Kd.R_lower R1 (HF.out _ hbv.out).2.size,Kd.R_lower R2 (HF.out _ hbv.out).2.size⟩
         have hbn:=Aside0.mk (zbp hbv.out hB)
         refine hK.out _ _ ((HF.out _ hbn.out).1) (fun hHeld=>?_)
         clear hK K
         refine qn ?_
         exact zcc (by first | (simp only [zbN,Act.put,zA1,zA2,zA3]; done) | (simp only [zbN,Act.put,zA1,zA2,zA3]; rfl)) (hJ1_4_5 (A1,c1,B1,d1,g4,g5) _ ⟨(HF.out _ hbn.out).1,new,⟨zbt K4.out.1 hB,K4.out.2⟩,⟨zbt K5.out.1 hB,K5.out.2⟩,E4_5.out,hbn.out⟩)
       ·
        skip
        rintro⟨A1,c1,B1,d1,g5⟩ V ⟨hHeld,kK1,kK5,hb⟩
        have K1:=Aside0.mk kK1
        have K5:=Aside0.mk kK5
        have hbv:=Aside0.mk hb
        clear hb kK1 kK5
        refine zcc (a':=?_) ?_ ?_
        rotate_left
        ·
         simp only [zbN,Act.put,zA1,zA2,zA3]
         rfl
        refine two_ (i:=3) (j:=4) (Ni:=some 10) (Nj:=some 5) #[zt,zt,zt,zt,zf,zt,zf,zf] #[zt,zt,zt,zf,zt,zt,zf,zf] rfl rfl rfl rfl (two_of HT_.out (by kernel_rfl)) (by decide) (by decide) (fun K hK=>?_) (fun K hK=>?_)
        ·
         skip
         refine qg Try.func21 #[.agg #[.bool n2,.slice Aa2 p2.length ca2,.slice Ab2 q2.length cb2]] ?_
         refine(ref_of_n (HP2.out V (HF.out _ hbv.out).2)).mono ?_
         rintro e Vn ⟨_,rfl,⟨m1,m2,rfl,R1,R2⟩,hB⟩
         refine⟨_,rfl,?_⟩
         obtain⟨A3,c3,rfl⟩:=Kd.R_slice R1
         obtain⟨B3,d3,rfl⟩:=Kd.R_slice R2
         have new:QT Vn w.heap.size (.agg #[.bool X.1,.slice A3 (dg 10000 X.2.1).length c3,.slice B3 (dg 10000 X.2.2).length d3]) X:=⟨_,_,rfl,Kd.R_lower R1 (HF.out _ hbv.out).2.size,Kd.R_lower R2 (HF.out _ hbv.out).2.size⟩
         have hbn:=Aside0.mk (zbp hbv.out hB)
         refine hK.out _ _ ((HF.out _ hbn.out).1) (fun hHeld=>?_)
         clear hK K
         refine qn ?_
         exact zcc (by first | (simp only [zbN,Act.put,zA1,zA2,zA3]; done) | (simp only [zbN,Act.put,zA1,zA2,zA3]; rfl)) (hJ1_3_5 (A1,c1,B1,d1,A3,c3,B3,d3,g5) _ ⟨(HF.out _ hbn.out).1,K1.out.below hB,new,⟨zbt K5.out.1 hB,K5.out.2⟩,hbn.out⟩)
        ·
         skip
         refine qv ?_
         have hB:Below V.heap.size V (V.alloc (.cells #[.bool false,.slice none 0 0,.slice none 0 0] 36 (0,0))):=zbq (Below.refl _ _) _
         have hN:=zbL V (.cells #[.bool false,.slice none 0 0,.slice none 0 0] 36 (0,0))
         have hbn:=Aside0.mk (zbp hbv.out hB)
         refine hK.out _ _ ((HF.out _ hbn.out).1) (fun hHeld=>?_)
         clear hK K
         refine qn ?_
         exact zcc (by first | (simp only [zbN,Act.put,zA1,zA2,zA3]; done) | (simp only [zbN,Act.put,zA1,zA2,zA3]; rfl)) (hJ1_4_5 (A1,c1,B1,d1,V.heap.size,g5) _ ⟨(HF.out _ hbn.out).1,K1.out.below hB,⟨hN,hbv.out.size⟩,⟨zbt K5.out.1 hB,K5.out.2⟩,(Nat.ne_of_lt (zbQ K5.out.1)).symm,hbn.out⟩)
      ·
       skip
       rintro⟨A1,c1,B1,d1,g4⟩ V ⟨hHeld,kK1,kK4,hb⟩
       have K1:=Aside0.mk kK1
       have K4:=Aside0.mk kK4
       have hbv:=Aside0.mk hb
       clear hb kK1 kK4
       refine zcc (a':=?_) ?_ ?_
       rotate_left
       ·
        simp only [zbN,Act.put,zA1,zA2,zA3]
        rfl
       refine two_ (i:=3) (j:=5) (Ni:=some 10) (Nj:=some 6) #[zt,zt,zt,zt,zt,zf,zf,zf] #[zt,zt,zt,zf,zt,zt,zf,zf] rfl rfl rfl rfl (two_of HT_.out (by kernel_rfl)) (by decide) (by decide) (fun K hK=>?_) (fun K hK=>?_)
       ·
        skip
        refine qg Try.func21 #[.agg #[.bool n2,.slice Aa2 p2.length ca2,.slice Ab2 q2.length cb2]] ?_
        refine(ref_of_n (HP2.out V (HF.out _ hbv.out).2)).mono ?_
        rintro e Vn ⟨_,rfl,⟨m1,m2,rfl,R1,R2⟩,hB⟩
        refine⟨_,rfl,?_⟩
        obtain⟨A3,c3,rfl⟩:=Kd.R_slice R1
        obtain⟨B3,d3,rfl⟩:=Kd.R_slice R2
        have new:QT Vn w.heap.size (.agg #[.bool X.1,.slice A3 (dg 10000 X.2.1).length c3,.slice B3 (dg 10000 X.2.2).length d3]) X:=⟨_,_,rfl,Kd.R_lower R1 (HF.out _ hbv.out).2.size,Kd.R_lower R2 (HF.out _ hbv.out).2.size⟩
        have hbn:=Aside0.mk (zbp hbv.out hB)
        refine hK.out _ _ ((HF.out _ hbn.out).1) (fun hHeld=>?_)
        clear hK K
        refine qn ?_
        exact zcc (by first | (simp only [zbN,Act.put,zA1,zA2,zA3]; done) | (simp only [zbN,Act.put,zA1,zA2,zA3]; rfl)) (hJ1_3_4 (A1,c1,B1,d1,A3,c3,B3,d3,g4) _ ⟨(HF.out _ hbn.out).1,K1.out.below hB,new,⟨zbt K4.out.1 hB,K4.out.2⟩,hbn.out⟩)
       ·
        skip
        refine qv ?_
        have hB:Below V.heap.size V (V.alloc (.cells #[.bool false,.slice none 0 0,.slice none 0 0] 36 (0,0))):=zbq (Below.refl _ _) _
        have hN:=zbL V (.cells #[.bool false,.slice none 0 0,.slice none 0 0] 36 (0,0))
        have hbn:=Aside0.mk (zbp hbv.out hB)
        refine hK.out _ _ ((HF.out _ hbn.out).1) (fun hHeld=>?_)
        clear hK K
        refine qn ?_
        exact zcc (by first | (simp only [zbN,Act.put,zA1,zA2,zA3]; done) | (simp only [zbN,Act.put,zA1,zA2,zA3]; rfl)) (hJ1_4_5 (A1,c1,B1,d1,g4,V.heap.size) _ ⟨(HF.out _ hbn.out).1,K1.out.below hB,⟨zbt K4.out.1 hB,K4.out.2⟩,⟨hN,hbv.out.size⟩,Nat.ne_of_lt (zbQ K4.out.1),hbn.out⟩)
     ·
      skip
      rintro⟨A1,c1,B1,d1,A3,c3,B3,d3⟩ V ⟨hHeld,kK1,kK3,hb⟩
      have K1:=Aside0.mk kK1
      have K3:=Aside0.mk kK3
      have hbv:=Aside0.mk hb
      clear hb kK1 kK3
      refine zcc (a':=?_) ?_ ?_
      rotate_left
      ·
       simp only [zbN,Act.put,zA1,zA2,zA3]
       rfl
      refine two_ (i:=4) (j:=5) (Ni:=some 5) (Nj:=some 6) #[zt,zt,zt,zt,zt,zf,zf,zf] #[zt,zt,zt,zt,zf,zt,zf,zf] rfl rfl rfl rfl (two_of HT_.out (by kernel_rfl)) (by decide) (by decide) (fun K hK=>?_) (fun K hK=>?_)
      ·
       skip
       refine qv ?_
       have hB:Below V.heap.size V (V.alloc (.cells #[.bool false,.slice none 0 0,.slice none 0 0] 36 (0,0))):=zbq (Below.refl _ _) _
       have hN:=zbL V (.cells #[.bool false,.slice none 0 0,.slice none 0 0] 36 (0,0))
       have hbn:=Aside0.mk (zbp hbv.out hB)
       refine hK.out _ _ ((HF.out _ hbn.out).1) (fun hHeld=>?_)
       clear hK K
       refine qn ?_
       exact zcc (by first | (simp only [zbN,Act.put,zA1,zA2,zA3]; done) | (simp only [zbN,Act.put,zA1,zA2,zA3]; rfl)) (hJ1_3_4 (A1,c1,B1,d1,A3,c3,B3,d3,V.heap.size) _ ⟨(HF.out _ hbn.out).1,K1.out.below hB,K3.out.below hB,⟨hN,hbv.out.size⟩,hbn.out⟩)
      ·
       skip
       refine qv ?_
       have hB:Below V.heap.size V (V.alloc (.cells #[.bool false,.slice none 0 0,.slice none 0 0] 36 (0,0))):=zbq (Below.refl _ _) _
       have hN:=zbL V (.cells #[.bool false,.slice none 0 0,.slice none 0 0] 36 (0,0))
       have hbn:=Aside0.mk (zbp hbv.out hB)
       refine hK.out _ _ ((HF.out _ hbn.out).1) (fun hHeld=>?_)
       clear hK K
       refine qn ?_
       exact zcc (by first | (simp only [zbN,Act.put,zA1,zA2,zA3]; done) | (simp only [zbN,Act.put,zA1,zA2,zA3]; rfl)) (hJ1_3_5 (A1,c1,B1,d1,A3,c3,B3,d3,V.heap.size) _ ⟨(HF.out _ hbn.out).1,K1.out.below hB,K3.out.below hB,⟨hN,hbv.out.size⟩,hbn.out⟩)
    ·
     skip
     rintro⟨A1,c1,B1,d1,g4,g5⟩ V ⟨hHeld,kK1,kK4,kK5,kE4_5,hb⟩
     have K1:=Aside0.mk kK1
     have K4:=Aside0.mk kK4
     have K5:=Aside0.mk kK5
     have E4_5:=Aside0.mk kE4_5
     have hbv:=Aside0.mk hb
     clear hb kK1 kK4 kK5 kE4_5
     refine zcc (a':=?_) ?_ ?_
     rotate_left
     ·
      simp only [zbN,Act.put,zA1,zA2,zA3]
      rfl
     refine qoT 3 (some 10) (fun K hK=>?_)
     refine qg Try.func21 #[.agg #[.bool n2,.slice Aa2 p2.length ca2,.slice Ab2 q2.length cb2]] ?_
     refine(ref_of_n (HP2.out V (HF.out _ hbv.out).2)).mono ?_
     rintro e Vn ⟨_,rfl,⟨m1,m2,rfl,R1,R2⟩,hB⟩
     refine⟨_,rfl,?_⟩
     obtain⟨A3,c3,rfl⟩:=Kd.R_slice R1
     obtain⟨B3,d3,rfl⟩:=Kd.R_slice R2
     have new:QT Vn w.heap.size (.agg #[.bool X.1,.slice A3 (dg 10000 X.2.1).length c3,.slice B3 (dg 10000 X.2.2).length d3]) X:=⟨_,_,rfl,Kd.R_lower R1 (HF.out _ hbv.out).2.size,Kd.R_lower R2 (HF.out _ hbv.out).2.size⟩
     have hbn:=Aside0.mk (zbp hbv.out hB)
     refine hK.out _ _ ((HF.out _ hbn.out).1) (fun hHeld=>?_)
     clear hK K
     refine qn ?_
     exact zcc (by first | (simp only [zbN,Act.put,zA1,zA2,zA3]; done) | (simp only [zbN,Act.put,zA1,zA2,zA3]; rfl)) (hJ1_3_4_5 (A1,c1,B1,d1,A3,c3,B3,d3,g4,g5) _ ⟨(HF.out _ hbn.out).1,K1.out.below hB,new,⟨zbt K4.out.1 hB,K4.out.2⟩,⟨zbt K5.out.1 hB,K5.out.2⟩,E4_5.out,hbn.out⟩)
   ·
    skip
    rintro⟨A1,c1,B1,d1,A3,c3,B3,d3,g5⟩ V ⟨hHeld,kK1,kK3,kK5,hb⟩
    have K1:=Aside0.mk kK1
    have K3:=Aside0.mk kK3
    have K5:=Aside0.mk kK5
    have hbv:=Aside0.mk hb
    clear hb kK1 kK3 kK5
    refine zcc (a':=?_) ?_ ?_
    rotate_left
    ·
     simp only [zbN,Act.put,zA1,zA2,zA3]
     rfl
    refine qoT 4 (some 5) (fun K hK=>?_)
    refine qv ?_
    have hB:Below V.heap.size V (V.alloc (.cells #[.bool false,.slice none 0 0,.slice none 0 0] 36 (0,0))):=zbq (Below.refl _ _) _
    have hN:=zbL V (.cells #[.bool false,.slice none 0 0,.slice none 0 0] 36 (0,0))
    have hbn:=Aside0.mk (zbp hbv.out hB)
    refine hK.out _ _ ((HF.out _ hbn.out).1) (fun hHeld=>?_)
    clear hK K
    refine qn ?_
    exact zcc (by first | (simp only [zbN,Act.put,zA1,zA2,zA3]; done) | (simp only [zbN,Act.put,zA1,zA2,zA3]; rfl)) (hJ1_3_4_5 (A1,c1,B1,d1,A3,c3,B3,d3,V.heap.size,g5) _ ⟨(HF.out _ hbn.out).1,K1.out.below hB,K3.out.below hB,⟨hN,hbv.out.size⟩,⟨zbt K5.out.1 hB,K5.out.2⟩,(Nat.ne_of_lt (zbQ K5.out.1)).symm,hbn.out⟩)
  ·
   skip
   rintro⟨A1,c1,B1,d1,A3,c3,B3,d3,g4⟩ V ⟨hHeld,kK1,kK3,kK4,hb⟩
   have K1:=Aside0.mk kK1
   have K3:=Aside0.mk kK3
   have K4:=Aside0.mk kK4
   have hbv:=Aside0.mk hb
   clear hb kK1 kK3 kK4
   refine zcc (a':=?_) ?_ ?_
   rotate_left
   ·
    simp only [zbN,Act.put,zA1,zA2,zA3]
    rfl
   refine qoT 5 (some 6) (fun K hK=>?_)
   refine qv ?_
   have hB:Below V.heap.size V (V.alloc (.cells #[.bool false,.slice none 0 0,.slice none 0 0] 36 (0,0))):=zbq (Below.refl _ _) _
   have hN:=zbL V (.cells #[.bool false,.slice none 0 0,.slice none 0 0] 36 (0,0))
   have hbn:=Aside0.mk (zbp hbv.out hB)
   refine hK.out _ _ ((HF.out _ hbn.out).1) (fun hHeld=>?_)
   clear hK K
   refine qn ?_
   exact zcc (by first | (simp only [zbN,Act.put,zA1,zA2,zA3]; done) | (simp only [zbN,Act.put,zA1,zA2,zA3]; rfl)) (hJ1_3_4_5 (A1,c1,B1,d1,A3,c3,B3,d3,g4,V.heap.size) _ ⟨(HF.out _ hbn.out).1,K1.out.below hB,K3.out.below hB,⟨zbt K4.out.1 hB,K4.out.2⟩,⟨hN,hbv.out.size⟩,Nat.ne_of_lt (zbQ K4.out.1),hbn.out⟩)
 rintro⟨A1,c1,B1,d1,A3,c3,B3,d3,g4,g5⟩ V ⟨hHeld,kK1,kK3,kK4,kK5,kE4_5,hb⟩
 have K1:=Aside0.mk kK1
 have K3:=Aside0.mk kK3
 have K4:=Aside0.mk kK4
 have K5:=Aside0.mk kK5
 have E4_5:=Aside0.mk kE4_5
 have hbv:=Aside0.mk hb
 clear hb kK1 kK3 kK4 kK5 kE4_5
 refine zcc (a':=?_) ?_ ?_
 rotate_left
 ·
  simp only [zbN,Act.put,zA1,zA2,zA3]
  rfl
 refine qlT 6 none (fun K hK=>?_)
 obtain⟨⟨z0,z1,z2⟩,z3,z4,z5⟩:=zbM K4.out.1
 obtain⟨⟨z6,z7,z8⟩,z9,z10,z11⟩:=zbM K5.out.1
 have ne1:=E4_5.out
 have ne2:=ne1.symm
 refine qx ?_
 refine hK.out _ _ ?_
 clear hK K
 refine qlT 7 none (fun K hK=>?_)
 refine qx ?_
 refine hK.out _ _ ?_
 clear hK K
 refine done_ (done_of HT_.out (by kernel_rfl)) ?_
 clear hHeld z0 z1 z2 z3 z4 z5 z6 z7 z8 z9 z10 z11 ne1 ne2
 rw [store3_eq,store3_eq]
 have hg4:=(zb3 E4_5.out (.bool X.1) (.slice A3 (dg 10000 X.2.1).length c3) (.slice B3 (dg 10000 X.2.2).length d3)).trans (zb0 (K4.out.1) (.bool X.1) (.slice A1 (dg 10000 X.2.1).length c1) (.slice B1 (dg 10000 X.2.2).length d1))
 have hg5:=zb0 ((zb3 E4_5.out.symm (.bool X.1) (.slice A1 (dg 10000 X.2.1).length c1) (.slice B1 (dg 10000 X.2.2).length d1)).trans (K5.out.1)) (.bool X.1) (.slice A3 (dg 10000 X.2.1).length c3) (.slice B3 (dg 10000 X.2.2).length d3)
 have hq1:=((K1.out.store3 K4.out.1 (.bool X.1) (.slice A1 (dg 10000 X.2.1).length c1) (.slice B1 (dg 10000 X.2.2).length d1)).store3 ((zb3 E4_5.out.symm (.bool X.1) (.slice A1 (dg 10000 X.2.1).length c1) (.slice B1 (dg 10000 X.2.2).length d1)).trans (K5.out.1)) (.bool X.1) (.slice A3 (dg 10000 X.2.1).length c3) (.slice B3 (dg 10000 X.2.2).length d3))
 have hq3:=((K3.out.store3 K4.out.1 (.bool X.1) (.slice A1 (dg 10000 X.2.1).length c1) (.slice B1 (dg 10000 X.2.2).length d1)).store3 ((zb3 E4_5.out.symm (.bool X.1) (.slice A1 (dg 10000 X.2.1).length c1) (.slice B1 (dg 10000 X.2.2).length d1)).trans (K5.out.1)) (.bool X.1) (.slice A3 (dg 10000 X.2.1).length c3) (.slice B3 (dg 10000 X.2.2).length d3))
 have hb8:Below W2.heap.size W2 (store3 (store3 V g4 (.bool X.1) (.slice A1 (dg 10000 X.2.1).length c1) (.slice B1 (dg 10000 X.2.2).length d1)) g5 (.bool X.1) (.slice A3 (dg 10000 X.2.1).length c3) (.slice B3 (dg 10000 X.2.2).length d3)):=zbZ (zbZ (hbv.out) K4.out.2 (.bool X.1) (.slice A1 (dg 10000 X.2.1).length c1) (.slice B1 (dg 10000 X.2.2).length d1)) K5.out.2 (.bool X.1) (.slice A3 (dg 10000 X.2.1).length c3) (.slice B3 (dg 10000 X.2.2).length d3)
 generalize store3 (store3 V g4 (.bool X.1) (.slice A1 (dg 10000 X.2.1).length c1) (.slice B1 (dg 10000 X.2.2).length d1)) g5 (.bool X.1) (.slice A3 (dg 10000 X.2.1).length c3) (.slice B3 (dg 10000 X.2.2).length d3)=W8 at hg4 hg5 hq1 hq3 hb8 ⊢
 clear hbv K1 K3 K4 K5 E4_5
 have s1:=hq1.qd
 have s3:=hq3.qd
 have HG:Aside0 (∀ w':World,Below W8.heap.size W8 w'→(w'.cell? ⟨g4,0,none⟩=some (.bool X.1)∧w'.cell? ⟨g4,1,none⟩=some (.slice A1 (dg 10000 X.2.1).length c1)∧w'.cell? ⟨g4,2,none⟩=some (.slice B1 (dg 10000 X.2.2).length d1)∧w'.cell? ⟨g5,0,none⟩=some (.bool X.1)∧w'.cell? ⟨g5,1,none⟩=some (.slice A3 (dg 10000 X.2.1).length c3)∧w'.cell? ⟨g5,2,none⟩=some (.slice B3 (dg 10000 X.2.2).length d3))∧Below w.heap.size w w'):=⟨fun W hb=>⟨⟨(zbu (zbt hg4 hb) 0).trans rfl,(zbu (zbt hg4 hb) 1).trans rfl,(zbu (zbt hg4 hb) 2).trans rfl,(zbu (zbt hg5 hb) 0).trans rfl,(zbu (zbt hg5 hb) 1).trans rfl,(zbu (zbt hg5 hb) 2).trans rfl⟩,zbp (HF.out _ hb8).2 hb⟩⟩
 have HQ1:=Aside0.mk (fun (W:World) (hb:Below W8.heap.size W8 W)=>s1.below hb)
 have HQ3:=Aside0.mk (fun (W:World) (hb:Below W8.heap.size W8 W)=>s3.below hb)
 obtain⟨x0,x1,x2,x3,x4,x5⟩:=(HG.out _ (Below.refl _ _)).1
 clear hg4 hg5 hq1 hq3 hb8 HF hb0 s1 s3
 go_wp2_with fail
 clear x0 x1 x2 x3 x4 x5
 obtain⟨_,_,e1,D1,D2⟩:=HQ1.out W8 (Below.refl _ _)
 obtain⟨_,_,e3,D3,D4⟩:=HQ3.out W8 (Below.refl _ _)
 obtain⟨rfl,rfl⟩:_∧_:=by simpa using e1
 obtain⟨rfl,rfl⟩:_∧_:=by simpa using e3
 have HD:=Aside0.mk (And.intro D2 D4)
 refine(ncmp_n D1 D3 HOK.out.1).mono ?_
 rintro e V1 ⟨rfl,hB⟩
 have hb1:=Aside0.mk hB
 obtain⟨x0,x1,x2,x3,x4,x5⟩:=(HG.out _ hB).1
 rw [show cmpN X.2.1 X.2.1=0 by simp [cmpN]]
 clear e1 e3 D1 D3 D2 D4 hB
 go_wp2_with fail
 clear x0 x1 x2 x3 x4 x5
 refine(ncmp_n (HD.out.1.below hb1.out) (HD.out.2.below hb1.out) HOK.out.2).mono ?_
 rintro e V2 ⟨rfl,hB⟩
 have hb2:=Aside0.mk (zbp hb1.out hB)
 rw [show cmpN X.2.2 X.2.2=0 by simp [cmpN]]
 clear hB
 go_wp2
 go_ret
 exact⟨rfl,(HG.out _ hb2.out).2⟩
end Go.Proofs.Ytehghijlchpeaaa.Nat1
end
section
namespace Go.Proofs.Ytehghijlchpeaaa.Nat1
open Go.RowKit YtehghijlchpeaaaW.PrintWords YtehghijlchpeaaaW.PrintLast YtehghijlchpeaaaW.PrintMore L Nt
theorem R_ne {α:Type} {d:Kd α} {e:Nat} {w:World} {base g:Nat} {ok:Nat→Prop} {v:Value} {xs:List α} (h:d.R e w base ok v xs) (hg:g < base) (u:Value) (i:Nat):d.R e (w.setCell ⟨g,i,none⟩ u) base ok v xs :=
 Kd.R_mono (Kd.R_far (p:=⟨g,i,none⟩) (Kd.R_bound h) (fun k hk=>by have:=hk.2.1; show k≠g; omega) u) (fun _ hk=>hk.1)
section
variable {α:Type} {K:Kd α} {T e gO:Nat} {W0 W W' V1 V2:World} {S:Value} {ys:List α} {y:α}
structure AR (K:Kd α) (T e:Nat) (W0:World) (gO:Nat) (S:Value) (ys:List α) (W:World):Prop where
 v:∃ (E:Option Addr) (cE:Nat),W.heap[gO]? = some (.cells #[S,.slice E ys.length cE] T (0,0))∧K.R e W (gO+1) (fun _=>True) (.slice E ys.length cE) ys
 be:Below gO W0 W
theorem AR.lt (h:AR K T e W0 gO S ys W):gO < W.heap.size:=by
 obtain⟨⟨E,cE,h1,_⟩,_⟩:=h
 exact lt_of_block h1
theorem AR.push (h:AR K T e W0 gO S ys W) (hb:Below W.heap.size W V1) {v:Value} (hR:K.R e V2 (gO+1) (fun _=>True) v (ys++[y])) (hB:Below (gO+1) V1 V2):AR K T e W0 gO S (ys++[y]) (V2.setCell ⟨gO,1,none⟩ v):=by
 have hl:=h.lt
 obtain⟨⟨E,cE,h1,h2⟩,h3⟩:=h
 obtain⟨E2,c2,rfl⟩:=Kd.R_slice hR
 have hc:V2.heap[gO]? = some (.cells #[S,.slice E ys.length cE] T (0,0)):=(hB.block gO (by omega)).trans (zbt h1 hb)
 exact⟨⟨E2,c2,zbK (cs:=#[S,.slice E ys.length cE]) hc 1 _ rfl,R_ne hR (Nat.lt_succ_self _) _ _⟩,((h3.trans (hb.mono (Nat.le_of_lt hl))).trans (hB.mono (Nat.le_succ _))).setCell (p:=⟨gO,1,none⟩) (Nat.le_refl gO) _⟩
end
end Go.Proofs.Ytehghijlchpeaaa.Nat1
end
section
namespace Go.Proofs.Ytehghijlchpeaaa.Nat1
open Go.RowKit YtehghijlchpeaaaW.PrintWords YtehghijlchpeaaaW.PrintLast YtehghijlchpeaaaW.PrintMore L Nt Ev
def SX (X:QN):M.S25:=⟨X.1,dg B32 X.2.1,dg B32 X.2.2⟩
def zcf (es fs:List M.S25) (K:QN) (i:Nat):List M.S25:=(List.range i).map (fun j:Nat=>SX (addQ (eN (M.rd_T25 es (j:Int))) (mulQ K (eN (M.rd_T25 fs (j:Int))))))
theorem mixI_succ (es fs:List M.S25) (K:QN) (i:Nat):zcf es fs K (i+1)=zcf es fs K i++[SX (addQ (eN (M.rd_T25 es (i:Int))) (mulQ K (eN (M.rd_T25 fs (i:Int)))))]:=by
 rw [zcf,List.range_succ,List.map_append]
 rfl
theorem mixI_len (es fs:List M.S25) (K:QN) (i:Nat):(zcf es fs K i).length=i:=by simp [zcf]
theorem mix_n (A:Option Addr) (c:Nat) (sh:List Int) (B:Option Addr) (d:Nat) (es:List M.S25) (A':Option Addr) (c':Nat) (sh':List Int) (B':Option Addr) (d':Nat) (fs:List M.S25) (n:Bool) (P:Option Addr) (pc:Nat) (p:List Int) (Q:Option Addr) (qc:Nat) (q:List Int) (X:QN) (w:World)
  (hr2:Kd.C M.k25 w B es.length es) (hr4:Kd.C M.k25 w B' fs.length fs) (hle:fs.length=es.length) (hlen:es.length≤1099511627776) (hok:∀ x∈es,eOk x) (hok':∀ x∈fs,eOk x) (hq:∀ i:Nat,okQ (mulQ X (eN (M.rd_T25 fs (i:Int)))))
  (hk:NR w (.agg #[.bool n,.slice P p.length pc,.slice Q q.length qc]) X) :
  Calls Try.prog 56 #[.agg #[.slice A sh.length c,.slice B es.length d],.agg #[.slice A' sh'.length c',.slice B' fs.length d'],.agg #[.bool n,.slice P p.length pc,.slice Q q.length qc]] w fun e w'=>∃ F f,e=.returned (.agg #[.slice A sh.length c,.slice F es.length f]) ∧
   Kd.R M.k25 25 w' w.heap.size (fun _=>True) (.slice F es.length f) (zcf es fs X es.length)∧Below w.heap.size w w':=by
 have hu67:=Try.underlying67
 have hu25:=Try.underlying25
 have HR2:=Aside0.mk hr2
 have HR4:=Aside0.mk hr4
 have HOK:=Aside0.mk (fun i:Nat=>rd_ok hok i)
 have HOK':=Aside0.mk (fun i:Nat=>rd_ok hok' i)
 have HQ:=Aside0.mk hq
 have HK:=Aside0.mk hk
 have HLE:=Aside0.mk hle
 clear hr2 hr4 hok hok' hq hk hle
 go_enter Try.func56,Try.ntmps56
 go_wp2_with fail
 have hx0:=zbw (zbw (zbw (zbw (zbL w (.cells #[.slice A sh.length c,.slice B es.length d] 67)) (.cells #[.slice A' sh'.length c',.slice B' fs.length d'] 67)) (.cells #[.bool n,.slice P p.length pc,.slice Q q.length qc] 25)) (.cells #[.slice none 0 0,.slice none 0 0] 67)) (.cells #[.slice A sh.length c,.slice none 0 0] 67)
 have hx1:=zbw (zbw (zbw (zbL (w.alloc (.cells #[.slice A sh.length c,.slice B es.length d] 67)) (.cells #[.slice A' sh'.length c',.slice B' fs.length d'] 67)) (.cells #[.bool n,.slice P p.length pc,.slice Q q.length qc] 25)) (.cells #[.slice none 0 0,.slice none 0 0] 67)) (.cells #[.slice A sh.length c,.slice none 0 0] 67)
 rw [show (w.alloc (.cells #[.slice A sh.length c,.slice B es.length d] 67)).heap.size=w.heap.size+1 by simp] at hx1
 have hx2:=zbw (zbw (zbL ((w.alloc (.cells #[.slice A sh.length c,.slice B es.length d] 67)).alloc (.cells #[.slice A' sh'.length c',.slice B' fs.length d'] 67)) (.cells #[.bool n,.slice P p.length pc,.slice Q q.length qc] 25)) (.cells #[.slice none 0 0,.slice none 0 0] 67)) (.cells #[.slice A sh.length c,.slice none 0 0] 67)
 rw [show ((w.alloc (.cells #[.slice A sh.length c,.slice B es.length d] 67)).alloc (.cells #[.slice A' sh'.length c',.slice B' fs.length d'] 67)).heap.size=w.heap.size+1+1 by simp] at hx2
 have hx3:=zbw (zbL (((w.alloc (.cells #[.slice A sh.length c,.slice B es.length d] 67)).alloc (.cells #[.slice A' sh'.length c',.slice B' fs.length d'] 67)).alloc (.cells #[.bool n,.slice P p.length pc,.slice Q q.length qc] 25)) (.cells #[.slice none 0 0,.slice none 0 0] 67)) (.cells #[.slice A sh.length c,.slice none 0 0] 67)
 rw [show (((w.alloc (.cells #[.slice A sh.length c,.slice B es.length d] 67)).alloc (.cells #[.slice A' sh'.length c',.slice B' fs.length d'] 67)).alloc (.cells #[.bool n,.slice P p.length pc,.slice Q q.length qc] 25)).heap.size=w.heap.size+1+1+1 by simp] at hx3
 have hx4:=zbL ((((w.alloc (.cells #[.slice A sh.length c,.slice B es.length d] 67)).alloc (.cells #[.slice A' sh'.length c',.slice B' fs.length d'] 67)).alloc (.cells #[.bool n,.slice P p.length pc,.slice Q q.length qc] 25)).alloc (.cells #[.slice none 0 0,.slice none 0 0] 67)) (.cells #[.slice A sh.length c,.slice none 0 0] 67)
 rw [show ((((w.alloc (.cells #[.slice A sh.length c,.slice B es.length d] 67)).alloc (.cells #[.slice A' sh'.length c',.slice B' fs.length d'] 67)).alloc (.cells #[.bool n,.slice P p.length pc,.slice Q q.length qc] 25)).alloc (.cells #[.slice none 0 0,.slice none 0 0] 67)).heap.size=w.heap.size+1+1+1+1 by simp] at hx4
 have hbw:Below w.heap.size w (((((w.alloc (.cells #[.slice A sh.length c,.slice B es.length d] 67)).alloc (.cells #[.slice A' sh'.length c',.slice B' fs.length d'] 67)).alloc (.cells #[.bool n,.slice P p.length pc,.slice Q q.length qc] 25)).alloc (.cells #[.slice none 0 0,.slice none 0 0] 67)).alloc (.cells #[.slice A sh.length c,.slice none 0 0] 67)):=zbq (zbq (zbq (zbq (zbq (Below.refl _ _) _) _) _) _) _
 generalize (((((w.alloc (.cells #[.slice A sh.length c,.slice B es.length d] 67)).alloc (.cells #[.slice A' sh'.length c',.slice B' fs.length d'] 67)).alloc (.cells #[.bool n,.slice P p.length pc,.slice Q q.length qc] 25)).alloc (.cells #[.slice none 0 0,.slice none 0 0] 67)).alloc (.cells #[.slice A sh.length c,.slice none 0 0] 67))=W0 at hx0 hx1 hx2 hx3 hx4 hbw ⊢
 obtain⟨gO,hgO⟩:∃ g,g=w.heap.size+1+1+1+1:=⟨_,rfl⟩
 have HX:=Aside0.mk (And.intro hx0 (And.intro hx1 (And.intro hx2 (And.intro hx3 hbw))))
 have HA0:=Aside0.mk (show AR M.k25 67 25 W0 gO (.slice A sh.length c) (zcf es fs X 0) W0 from ⟨⟨none,0,by rw [hgO]; exact hx4,Kd.R_nil _ _ _ _ _⟩,Below.refl _ _⟩)
 have HG:=Aside0.mk hgO
 rw [← hgO]
 clear hx0 hx1 hx2 hx3 hx4 hbw hgO
 go_loopw [8] (fun iv wr=>∃ i:Nat,iv=.int .i64 i∧i≤es.length∧Aside0 (AR M.k25 67 25 W0 gO (.slice A sh.length c) (zcf es fs X i) wr)) (fun iv _=>es.length-(intOf iv).toNat)
 case atStart=>exact⟨0,rfl,by omega,HA0⟩
 case round =>
  obtain⟨i,rfl,hi,HI⟩:=hrel
  have HW:=Aside0.mk (show Below w.heap.size w wr from HX.out.2.2.2.2.trans (HI.out.be.mono (by have:=HG.out; omega)))
  have b0:wr.heap[w.heap.size]? = some (.cells #[.slice A sh.length c,.slice B es.length d] 67 (0,0)):=(HI.out.be.block _ (by have:=HG.out; omega)).trans HX.out.1
  have b1:wr.heap[w.heap.size+1]? = some (.cells #[.slice A' sh'.length c',.slice B' fs.length d'] 67 (0,0)):=(HI.out.be.block _ (by have:=HG.out; omega)).trans HX.out.2.1
  have b2:wr.heap[w.heap.size+1+1]? = some (.cells #[.bool n,.slice P p.length pc,.slice Q q.length qc] 25 (0,0)):=(HI.out.be.block _ (by have:=HG.out; omega)).trans HX.out.2.2.1
  have b3:wr.heap[w.heap.size+1+1+1]? = some (.cells #[.slice none 0 0,.slice none 0 0] 67 (0,0)):=(HI.out.be.block _ (by have:=HG.out; omega)).trans HX.out.2.2.2.1
  have HB:=Aside0.mk (And.intro b0 (And.intro b1 (And.intro b2 b3)))
  obtain⟨E,cE,hv1,hv2⟩:=HI.out.v
  rw [mixI_len] at hv1 hv2
  clear b0 b1 b2 b3
  by_cases hlt:i < es.length
  ·
   skip
   obtain⟨ad,A1,c1,A2,c2,e,q0,q1,q2,l1,g1,l2,g2⟩:=M.at_T25 HR2.out (i:Int) (by omega) (by omega)
   subst e
   obtain⟨ae,A3,c3,A4,c4,e,q3,q4,q5,l3,g3,l4,g4⟩:=M.at_T25 HR4.out (i:Int) (by omega) (by have:=HLE.out; omega)
   subst e
   rw [Int.toNat_natCast] at q0 q1 q2 q3 q4 q5
   have HM:=Aside0.mk (fun (W:World) (hb:Below w.heap.size w W)=>mul_n (HK.out.below hb) (EL.nr (w:=W) (x:=(M.rd_T25 fs (i:Int))) ⟨A3,c3,A4,c4,rfl,⟨Kd.C_below g3 hb,l3⟩,⟨Kd.C_below g4 hb,l4⟩⟩ (HOK'.out i)))
   have HE:=Aside0.mk (fun (W:World) (hb:Below w.heap.size w W)=>EL.nr (w:=W) (x:=(M.rd_T25 es (i:Int))) ⟨A1,c1,A2,c2,rfl,⟨Kd.C_below g1 hb,l1⟩,⟨Kd.C_below g2 hb,l2⟩⟩ (HOK.out i))
   have HV2:=Aside0.mk (And.intro hv1 hv2)
   have hfl:i < fs.length:=by have:=HLE.out; omega
   clear g1 g2 g3 g4 l1 l2 l3 l4 hv1 hv2
   have s0:(wr.cell? ⟨gO,1,none⟩=some (.slice E i cE)∧wr.cell? ⟨w.heap.size,1,none⟩=some (.slice (some ad) es.length d)∧wr.cell? ⟨w.heap.size+1,1,none⟩=some (.slice (some ae) fs.length d')∧wr.cell? ⟨w.heap.size+1+1,0,none⟩=some (.bool n)∧wr.cell? ⟨w.heap.size+1+1,1,none⟩=some (.slice P p.length pc)∧wr.cell? ⟨w.heap.size+1+1,2,none⟩=some (.slice Q q.length qc)∧wr.cell? (ad.add (i*3))=some (.bool (M.rd_T25 es (i:Int)).f0)∧wr.cell? ⟨(ad.add (i*3)).block,(ad.add (i*3)).off+1,none⟩=some (.slice A1 (M.rd_T25 es (i:Int)).f1.length c1)∧wr.cell? ⟨(ad.add (i*3)).block,(ad.add (i*3)).off+2,none⟩=some (.slice A2 (M.rd_T25 es (i:Int)).f2.length c2)∧wr.cell? (ae.add (i*3))=some (.bool (M.rd_T25 fs (i:Int)).f0)∧wr.cell? ⟨(ae.add (i*3)).block,(ae.add (i*3)).off+1,none⟩=some (.slice A3 (M.rd_T25 fs (i:Int)).f1.length c3)∧wr.cell? ⟨(ae.add (i*3)).block,(ae.add (i*3)).off+2,none⟩=some (.slice A4 (M.rd_T25 fs (i:Int)).f2.length c4)):=⟨(zbu HV2.out.1 1).trans rfl,(zbu HB.out.1 1).trans rfl,(zbu HB.out.2.1 1).trans rfl,(zbu HB.out.2.2.1 0).trans rfl,(zbu HB.out.2.2.1 1).trans rfl,(zbu HB.out.2.2.1 2).trans rfl,(HW.out.cell (World.block_lt_of_cell? w _ q0)).trans q0,(HW.out.cell (World.block_lt_of_cell? w _ q1)).trans q1,(HW.out.cell (World.block_lt_of_cell? w _ q2)).trans q2,(HW.out.cell (World.block_lt_of_cell? w _ q3)).trans q3,(HW.out.cell (World.block_lt_of_cell? w _ q4)).trans q4,(HW.out.cell (World.block_lt_of_cell? w _ q5)).trans q5⟩
   have HS:Aside0 (∀ w':World,Below (gO+1) wr w'→(w'.cell? ⟨gO,1,none⟩=some (.slice E i cE)∧w'.cell? ⟨w.heap.size,1,none⟩=some (.slice (some ad) es.length d)∧w'.cell? ⟨w.heap.size+1,1,none⟩=some (.slice (some ae) fs.length d')∧w'.cell? ⟨w.heap.size+1+1,0,none⟩=some (.bool n)∧w'.cell? ⟨w.heap.size+1+1,1,none⟩=some (.slice P p.length pc)∧w'.cell? ⟨w.heap.size+1+1,2,none⟩=some (.slice Q q.length qc)∧w'.cell? (ad.add (i*3))=some (.bool (M.rd_T25 es (i:Int)).f0)∧w'.cell? ⟨(ad.add (i*3)).block,(ad.add (i*3)).off+1,none⟩=some (.slice A1 (M.rd_T25 es (i:Int)).f1.length c1)∧w'.cell? ⟨(ad.add (i*3)).block,(ad.add (i*3)).off+2,none⟩=some (.slice A2 (M.rd_T25 es (i:Int)).f2.length c2)∧w'.cell? (ae.add (i*3))=some (.bool (M.rd_T25 fs (i:Int)).f0)∧w'.cell? ⟨(ae.add (i*3)).block,(ae.add (i*3)).off+1,none⟩=some (.slice A3 (M.rd_T25 fs (i:Int)).f1.length c3)∧w'.cell? ⟨(ae.add (i*3)).block,(ae.add (i*3)).off+2,none⟩=some (.slice A4 (M.rd_T25 fs (i:Int)).f2.length c4))):=⟨fun w' h=>by
    have hg:=HG.out; have hs:=HI.out.lt; have hz:=HW.out.size
    obtain⟨s1,s2,s3,s4,s5,s6,s7,s8,s9,s10,s11,s12⟩:=s0
    exact⟨(h.cell (by first | (show _ < _; simp only []; omega) | exact Nat.lt_of_lt_of_le (World.block_lt_of_cell? w _ q0) (by omega))).trans s1,(h.cell (by first | (show _ < _; simp only []; omega) | exact Nat.lt_of_lt_of_le (World.block_lt_of_cell? w _ q0) (by omega))).trans s2,(h.cell (by first | (show _ < _; simp only []; omega) | exact Nat.lt_of_lt_of_le (World.block_lt_of_cell? w _ q0) (by omega))).trans s3,(h.cell (by first | (show _ < _; simp only []; omega) | exact Nat.lt_of_lt_of_le (World.block_lt_of_cell? w _ q0) (by omega))).trans s4,(h.cell (by first | (show _ < _; simp only []; omega) | exact Nat.lt_of_lt_of_le (World.block_lt_of_cell? w _ q0) (by omega))).trans s5,(h.cell (by first | (show _ < _; simp only []; omega) | exact Nat.lt_of_lt_of_le (World.block_lt_of_cell? w _ q0) (by omega))).trans s6,(h.cell (by first | (show _ < _; simp only []; omega) | exact Nat.lt_of_lt_of_le (World.block_lt_of_cell? w _ q0) (by omega))).trans s7,(h.cell (by first | (show _ < _; simp only []; omega) | exact Nat.lt_of_lt_of_le (World.block_lt_of_cell? w _ q1) (by omega))).trans s8,(h.cell (by first | (show _ < _; simp only []; omega) | exact Nat.lt_of_lt_of_le (World.block_lt_of_cell? w _ q2) (by omega))).trans s9,(h.cell (by first | (show _ < _; simp only []; omega) | exact Nat.lt_of_lt_of_le (World.block_lt_of_cell? w _ q3) (by omega))).trans s10,(h.cell (by first | (show _ < _; simp only []; omega) | exact Nat.lt_of_lt_of_le (World.block_lt_of_cell? w _ q4) (by omega))).trans s11,(h.cell (by first | (show _ < _; simp only []; omega) | exact Nat.lt_of_lt_of_le (World.block_lt_of_cell? w _ q5) (by omega))).trans s12⟩⟩
   obtain⟨s1,s2,s3,s4,s5,s6,s7,s8,s9,s10,s11,s12⟩:=s0
   go_wp2_with fail
   clear s1 s2 s3 s4 s5 s6 s7 s8 s9 s10 s11 s12 q0 q1 q2 q3 q4 q5
   refine start_ (n:=19) (S:=fun w'=>(w'.cell? ⟨gO,1,none⟩=some (.slice E i cE)∧w'.cell? ⟨w.heap.size,1,none⟩=some (.slice (some ad) es.length d)∧w'.cell? ⟨w.heap.size+1,1,none⟩=some (.slice (some ae) fs.length d')∧w'.cell? ⟨w.heap.size+1+1,0,none⟩=some (.bool n)∧w'.cell? ⟨w.heap.size+1+1,1,none⟩=some (.slice P p.length pc)∧w'.cell? ⟨w.heap.size+1+1,2,none⟩=some (.slice Q q.length qc)∧w'.cell? (ad.add (i*3))=some (.bool (M.rd_T25 es (i:Int)).f0)∧w'.cell? ⟨(ad.add (i*3)).block,(ad.add (i*3)).off+1,none⟩=some (.slice A1 (M.rd_T25 es (i:Int)).f1.length c1)∧w'.cell? ⟨(ad.add (i*3)).block,(ad.add (i*3)).off+2,none⟩=some (.slice A2 (M.rd_T25 es (i:Int)).f2.length c2)∧w'.cell? (ae.add (i*3))=some (.bool (M.rd_T25 fs (i:Int)).f0)∧w'.cell? ⟨(ae.add (i*3)).block,(ae.add (i*3)).off+1,none⟩=some (.slice A3 (M.rd_T25 fs (i:Int)).f1.length c3)∧w'.cell? ⟨(ae.add (i*3)).block,(ae.add (i*3)).off+2,none⟩=some (.slice A4 (M.rd_T25 fs (i:Int)).f2.length c4))) (ds:=[18]) #[zf,zf,zf,zf,zf,zf,zf,zf,zf,zf,zf,zf,zf,zf,zf,zf,zf,zf,zf] (by kernel_rfl) rfl rfl ((HS.out _ (zbv (Below.refl _ _)))) (fun hHeld=>?_)
   have hb0:=Aside0.mk (show Below wr.heap.size wr wr.drew from zbv (Below.refl _ _))
   generalize wr.drew=V0 at hb0 hHeld ⊢
   refine qp 0 (some 19) ?_
   refine qp 2 (some 21) ?_
   refine qp 4 (some 23) ?_
   refine qp 8 (some 27) ?_
   refine qp 10 (some 29) ?_
   refine qt 1 (some 20) ?_
   refine qt 3 (some 22) ?_
   refine qp 5 (some 24) ?_
   refine qt 6 (some 25) ?_
   refine qt 7 (some 26) ?_
   refine qt 9 (some 28) ?_
   refine qp 11 (some 30) ?_
   refine qt 12 (some 31) ?_
   refine qo 13 (some 32) (fun K hK=>?_)
   refine qg Try.func35 #[.agg #[.bool n,.slice P p.length pc,.slice Q q.length qc],.agg #[.bool (M.rd_T25 fs (i:Int)).f0,.slice A3 (M.rd_T25 fs (i:Int)).f1.length c3,.slice A4 (M.rd_T25 fs (i:Int)).f2.length c4]] ?_
   refine(HM.out V0 (zbp HW.out hb0.out)).mono ?_
   rintro e V1 ⟨v,rfl,hR,hB⟩
   obtain⟨D1,m1,D2,m2,rfl,-,-⟩:=hR.args
   refine⟨_,rfl,?_⟩
   have hb1:=Aside0.mk (zbp hb0.out hB)
   have HP:=Aside0.mk (hR.nr (nrm_red _ _ _) (HQ.out i))
   clear hB hb0 hR
   refine hK.out _ _ ((HS.out _ (hb1.out.mono HI.out.lt))) (fun hHeld=>?_)
   clear hK K
   refine qn ?_
   refine qo 14 (some 33) (fun K hK=>?_)
   refine qg Try.func31 #[.agg #[.bool (M.rd_T25 es (i:Int)).f0,.slice A1 (M.rd_T25 es (i:Int)).f1.length c1,.slice A2 (M.rd_T25 es (i:Int)).f2.length c2],.agg #[.bool (mulQ X (eN (M.rd_T25 fs (i:Int)))).1,.slice D1 (dg B32 (mulQ X (eN (M.rd_T25 fs (i:Int)))).2.1).length m1,.slice D2 (dg B32 (mulQ X (eN (M.rd_T25 fs (i:Int)))).2.2).length m2]] ?_
   refine(add_n (HE.out V1 (zbp HW.out hb1.out)) HP.out).mono ?_
   rintro e V2 ⟨v,rfl,hR,hB⟩
   obtain⟨D3,m3,D4,m4,rfl,R1,R2⟩:=hR.args
   refine⟨_,rfl,?_⟩
   have hlt1:=Nat.lt_of_lt_of_le HI.out.lt hb1.out.size
   have HP2:=Aside0.mk (M.k25_mkM V2 (gO+1) (fun k=>V1.heap.size≤k) (SX (addQ (eN (M.rd_T25 es (i:Int))) (mulQ X (eN (M.rd_T25 fs (i:Int)))))) (Kd.R_mono (Kd.R_lower (Kd.R_bound R1) (Nat.succ_le_of_lt hlt1)) (fun k hk=>hk.2.1)) (Kd.R_mono (Kd.R_lower (Kd.R_bound R2) (Nat.succ_le_of_lt hlt1)) (fun k hk=>hk.2.1)))
   have hb2:=Aside0.mk (zbp hb1.out hB)
   have HL:=Aside0.mk (show ∀ k,some k=(Value.slice E i cE).ownBlock→k < V1.heap.size from fun k e=>by have:=Kd.R_lt HV2.out.2 k e.symm; have:=hb1.out.size; omega)
   clear hB hb1 hR R1 R2 HP hlt1
   refine hK.out _ _ ((HS.out _ (hb2.out.mono HI.out.lt))) (fun hHeld=>?_)
   clear hK K
   refine qn ?_
   refine qo 15 (some 34) (fun K hK=>?_)
   refine qv ?_
   refine hK.out _ _ ((HS.out _ ((hb2.out.mono HI.out.lt).alloc (Nat.le_trans HI.out.lt hb2.out.size) _))) (fun hHeld=>?_)
   clear hK K
   refine qn ?_
   refine qo 16 (some 35) (fun K hK=>?_)
   have hO:=Kd.R_below HV2.out.2 hb2.out
   refine Kd.R_append_step M.k25 (w0:=V2) (W:=V2) (gO+1) (by rfl) (.tmp 20) (.tmp 34) 62 25 (.agg #[.bool false,.slice none 0 0,.slice none 0 0]) 56 rfl Try.underlying62 J.info25 rfl (by decide) (by decide) (.slice E i cE) (zcf es fs X i) (SX (addQ (eN (M.rd_T25 es (i:Int))) (mulQ X (eN (M.rd_T25 fs (i:Int)))))) [.bool (addQ (eN (M.rd_T25 es (i:Int))) (mulQ X (eN (M.rd_T25 fs (i:Int))))).1,.slice D3 (dg B32 (addQ (eN (M.rd_T25 es (i:Int))) (mulQ X (eN (M.rd_T25 fs (i:Int))))).2.1).length m3,.slice D4 (dg B32 (addQ (eN (M.rd_T25 es (i:Int))) (mulQ X (eN (M.rd_T25 fs (i:Int))))).2.2).length m4] (fun _=>True) (fun k=>V1.heap.size≤k) rfl rfl HP2.out (fun k hk=>⟨trivial,fun e=>by have:=HL.out k e; omega⟩) (fun _ _=>trivial) hO (Below.refl _ _) (by have:=HI.out.lt; have:=hb2.out.size; omega) (by rw [mixI_len]; omega) ?_
   intro v1 V3 hR hB hG hat
   rw [← mixI_succ] at hR
   have HQ3:=Aside0.mk (And.intro hR hB)
   obtain⟨E2,e2,rfl⟩:=Kd.R_slice hR
   have hc3:V3.heap[gO]? = some (.cells #[.slice A sh.length c,.slice E i cE] 67 (0,0)):=(hB.block gO (Nat.lt_succ_self _)).trans (zbt HV2.out.1 hb2.out)
   have HC3:=Aside0.mk hc3
   clear hR hB hG hat hc3 hO
   refine hK.out _ _ ((HS.out _ ((hb2.out.mono HI.out.lt).trans HQ3.out.2))) (fun hHeld=>?_)
   clear hK K
   refine qn ?_
   refine qp 17 (some 36) ?_
   refine ql 18 none (fun K hK=>?_)
   have hf3:=zbD HC3.out 1
   have hc3:V3.cell? ⟨gO,1,none⟩=some (.slice E i cE):=(zbu HC3.out 1).trans rfl
   refine qx ?_
   refine hK.out _ _ ?_
   clear hK K
   refine done_ (by kernel_rfl) ?_
   clear hHeld hf3 hc3
   go_wp2
   go_roundw
   case rel =>
    refine⟨i+1,by go_num,by omega,⟨?_⟩⟩
    have h1:=HQ3.out.1
    rw [mixI_succ] at h1 ⊢
    exact HI.out.push hb2.out h1 HQ3.out.2
   case measure=>simp [intOf]; omega
  ·
   have hie:i=es.length:=by omega
   subst hie
   have c1:wr.cell? ⟨w.heap.size,1,none⟩=some (.slice B es.length d):=(zbu HB.out.1 1).trans rfl
   obtain⟨o0,o1⟩:wr.cell? ⟨gO,0,none⟩=some (.slice A sh.length c)∧wr.cell? ⟨gO,1,none⟩=some (.slice E es.length cE):=⟨(zbu hv1 0).trans rfl,(zbu hv1 1).trans rfl⟩
   have z0:wr.cell? ⟨w.heap.size+1+1+1,0,none⟩=some (.slice none 0 0):=(zbu HB.out.2.2.2 0).trans rfl
   have z1:wr.cell? ⟨w.heap.size+1+1+1,1,none⟩=some (.slice none 0 0):=(zbu HB.out.2.2.2 1).trans rfl
   have y0:=zbD HB.out.2.2.2 0
   have y1:=zbD HB.out.2.2.2 1
   have HV2:=Aside0.mk hv2
   clear hv1 hv2
   go_wp2
   have hn1:=zbK (cs':=#[.slice A sh.length c,.slice E es.length cE]) (zbK (cs':=#[.slice A sh.length c,.slice none 0 0]) HB.out.2.2.2 0 (.slice A sh.length c) rfl) 1 (.slice E es.length cE) rfl
   refine bodyPost_ret (results_cell_row rfl _ _ (w.heap.size+1+1+1) 67 _ (0,0) _ rfl hn1 hu67 rfl (by kernel_rfl)) rfl ?_
   have hgo:=HG.out
   exact⟨E,cE,rfl,Kd.R_lower (R_ne (R_ne HV2.out (by omega) _ _) (by omega) _ _) (by omega),zbE (zbE HW.out (by show w.heap.size≤w.heap.size+1+1+1; omega)) (by show w.heap.size≤w.heap.size+1+1+1; omega)⟩
end Go.Proofs.Ytehghijlchpeaaa.Nat1
end
section
namespace Go.Proofs.Ytehghijlchpeaaa.Ev
open Go.RowKit YtehghijlchpeaaaW.PrintWords YtehghijlchpeaaaW.PrintLast YtehghijlchpeaaaW.PrintMore L Nt Nat1
theorem sameS_loop {a b:List Int} (h:a.length=b.length) (hl:a.length≤4611686018427387904) (n:Nat):∀ i,i+n=a.length→Ev (fun k=>M.fluxionref07_SameShape.l0 k a b (i:Int)) (decide (a.drop i=b.drop i)):=by
 induction n with
 | zero =>
  intro i hi
  rw [List.drop_eq_nil_of_le (by omega),List.drop_eq_nil_of_le (by omega),decide_eq_true rfl]
  refine Ev.succ (Ev.congr (Ev.some _) (fun k=>?_))
  rw [M.fluxionref07_SameShape.l0,if_neg (by omega)]
 | succ n ih =>
  intro i hi
  rw [drop_rd (l:=a) (show i < a.length by omega),drop_rd (l:=b) (show i < b.length by omega)]
  by_cases h1:rd a (i:Int)=rd b (i:Int)
  ·
   rw [show (decide (rd a (i:Int) :: a.drop (i+1)=rd b (i:Int) :: b.drop (i+1)))=decide (a.drop (i+1)=b.drop (i+1)) by rw [decide_eq_decide,h1]; simp]
   refine Ev.succ (Ev.congr (ih (i+1) (by omega)) (fun k=>?_))
   rw [M.fluxionref07_SameShape.l0,if_pos (by omega),if_pos (by omega),if_pos (by omega),if_pos h1,w_succ (by omega)]
  ·
   rw [show (decide (rd a (i:Int) :: a.drop (i+1)=rd b (i:Int) :: b.drop (i+1)))=false by rw [decide_eq_false_iff_not]; intro e; injection e with e _; exact h1 e]
   refine Ev.succ (Ev.congr (Ev.some _) (fun k=>?_))
   rw [M.fluxionref07_SameShape.l0,if_pos (by omega),if_pos (by omega),if_pos (by omega),if_neg h1]
theorem sameS_ev {a b:List Int} (hl:a.length≤4611686018427387904):Ev (fun k=>M.fluxionref07_SameShape.f k a b) (decide (a=b)):=by
 by_cases h:a.length=b.length
 ·
  have:=sameS_loop h hl a.length 0 (by omega)
  rw [List.drop_zero,List.drop_zero] at this
  refine Ev.congr this (fun k=>?_)
  rw [M.fluxionref07_SameShape.f,if_pos (by omega)]
  rfl
 ·
  rw [decide_eq_false (fun e=>h (by rw [e]))]
  refine Ev.congr (Ev.some _) (fun k=>?_)
  rw [M.fluxionref07_SameShape.f,if_neg (by omega)]
end Go.Proofs.Ytehghijlchpeaaa.Ev
namespace Go.Proofs.Ytehghijlchpeaaa.Nat1
open Go.RowKit YtehghijlchpeaaaW.PrintWords YtehghijlchpeaaaW.PrintLast YtehghijlchpeaaaW.PrintMore L Nt Ev
theorem samesh_n {A:Option Addr} {c:Nat} {a:List Int} {A':Option Addr} {c':Nat} {b:List Int} {w:World} (h1:Kd.C (Kd.int .i64) w A a.length a) (h2:a.length≤c) (h3:Kd.C (Kd.int .i64) w A' b.length b) (h4:b.length≤c') (hl:a.length≤4611686018427387904) :
  Calls Try.prog 54 #[.slice A a.length c,.slice A' b.length c'] w fun e w'=>e=.returned (.bool (decide (a=b)))∧Below w.heap.size w w':=by
 obtain⟨k,hk⟩:=sameS_ev (b:=b) hl
 refine(M.fluxionref07_SameShape.calls k A c a A' c' b _ w h1 h2 h3 h4 (hk k (Nat.le_refl _))).mono ?_
 rintro e w' ⟨rfl,hD⟩
 obtain⟨m,rfl⟩:=hD.out
 exact⟨rfl,zbr (Below.refl _ _) m⟩
theorem eN_SX {X:QN} (h:red X):eN (SX X)=X:=by
 unfold eN SX
 simp only []
 rw [zbT zbB,zbT zbB,nrm_of_red h]
theorem rd_mixI {es fs:List M.S25} {K:QN} {n i:Nat} (h:i < n):M.rd_T25 (zcf es fs K n) (i:Int)=SX (addQ (eN (M.rd_T25 es (i:Int))) (mulQ K (eN (M.rd_T25 fs (i:Int))))):=by
 simp [M.rd_T25,zcf,List.getD_eq_getElem?_getD,h]
theorem eN_mix {es fs:List M.S25} {K:QN} {n i:Nat} (h:i < n):eN (M.rd_T25 (zcf es fs K n) (i:Int))=addQ (eN (M.rd_T25 es (i:Int))) (mulQ K (eN (M.rd_T25 fs (i:Int)))):=by
 rw [rd_mixI h,eN_SX (red_add _ _)]
theorem dot_comm (es fs:List M.S25):∀ n,zbJ es fs n=zbJ fs es n
 | 0=>rfl
 | n+1=>by rw [zbJ,zbJ,dot_comm es fs n,mulQ_comm (red_eN _) (red_eN _)]
theorem dot_mix {es fs gs ms:List M.S25} {K:QN} (hK:red K):∀ n:Nat,(∀ i:Nat,i < n→eN (M.rd_T25 ms (i:Int))=addQ (eN (M.rd_T25 es (i:Int))) (mulQ K (eN (M.rd_T25 fs (i:Int)))))→zbJ ms gs n=addQ (zbJ es gs n) (mulQ K (zbJ fs gs n))
 | 0,_=>by
  rw [zbJ,zbJ,zbJ]
  have r0:red ((false,0,1):QN):=⟨by decide,by decide,by decide⟩
  have e0:toR ((false,0,1):QN)=0:=Rat.zero_mkRat 1
  refine toR_inj r0 (red_add _ _) ?_
  rw [toR_add r0 (red_mul _ _),toR_mul (zcd hK) (zcd r0),e0,Rat.mul_zero,Rat.add_zero]
 | n+1,h=>by
  have ih:=dot_mix (gs:=gs) hK n (fun i hi=>h i (by omega))
  rw [zbJ,ih,h n (by omega),zbJ,zbJ]
  generalize hA:zbJ es gs n=A
  generalize hB:zbJ fs gs n=B
  have rA:red A:=hA ▸ red_dotP _ _ _
  have rB:red B:=hB ▸ red_dotP _ _ _
  have ra:=red_eN (M.rd_T25 es (n:Int))
  have rb:=red_eN (M.rd_T25 fs (n:Int))
  have rc:=red_eN (M.rd_T25 gs (n:Int))
  generalize eN (M.rd_T25 es (n:Int))=a at ra ⊢
  generalize eN (M.rd_T25 fs (n:Int))=b at rb ⊢
  generalize eN (M.rd_T25 gs (n:Int))=c at rc ⊢
  refine toR_inj (red_add _ _) (red_add _ _) ?_
  rw [toR_add (red_add _ _) (red_mul _ _),toR_add rA (red_mul _ _),toR_mul (zcd hK) (zcd rB),toR_mul (zcd (red_add _ _)) (zcd rc),toR_add ra (red_mul _ _),toR_mul (zcd hK) (zcd rb),
   toR_add (red_add _ _) (red_mul _ _),toR_add rA (red_mul _ _),toR_mul (zcd ra) (zcd rc),toR_mul (zcd hK) (zcd (red_add _ _)),toR_add rB (red_mul _ _),toR_mul (zcd rb) (zcd rc)]
  rw [Rat.add_mul,Rat.mul_add,Rat.mul_assoc]
  generalize toR K*toR B=x
  generalize toR K*(toR b*toR c)=y
  generalize toR a*toR c=z
  generalize toR A=u
  rw [Rat.add_assoc,Rat.add_assoc,← Rat.add_assoc x z y,Rat.add_comm x z,Rat.add_assoc z x y]
theorem sq_pos (X:QN):(mulQ X X).1=false∧((mulQ X X).2.1=0 ↔ (X.2.1=0∨X.2.2=0)):=by
 unfold mulQ nrm
 rw [bne_self_eq_false]
 by_cases h:X.2.2*X.2.2=0∨X.2.1*X.2.1=0
 ·
  rw [if_pos h]
  refine⟨rfl,fun _=>?_,fun _=>rfl⟩
  rcases h with h | h
  ·
   exact .inr (by rcases Nat.mul_eq_zero.1 h with h | h<;>exact h)
  ·
   exact .inl (by rcases Nat.mul_eq_zero.1 h with h | h<;>exact h)
 ·
  rw [if_neg h]
  refine⟨rfl,fun e=>?_,fun e=>?_⟩
  ·
   simp only [] at e
   have hp:0 < X.2.1*X.2.1:=by omega
   have hg:0 < Nat.gcd (X.2.1*X.2.1) (X.2.2*X.2.2):=Nat.gcd_pos_of_pos_left _ hp
   have:=Nat.div_pos (Nat.le_of_dvd hp (Nat.gcd_dvd_left (X.2.1*X.2.1) (X.2.2*X.2.2))) hg
   omega
  ·
   exact absurd (by rcases e with e | e<;>simp [e]) h
theorem add_pos {X Y:QN} (hx:X.1=false) (hy:Y.1=false) (rX:red X) (rY:red Y):(addQ X Y).1=false∧((addQ X Y).2.1=0 ↔ (X.2.1=0∧Y.2.1=0)):=by
 have d1:=zcd rX
 have d2:=zcd rY
 unfold addQ
 rw [if_pos (hx.trans hy.symm),hx]
 unfold nrm
 by_cases h:X.2.2*Y.2.2=0∨X.2.1*Y.2.2+Y.2.1*X.2.2=0
 ·
  rw [if_pos h]
  refine⟨rfl,fun _=>?_,fun _=>rfl⟩
  rcases h with h | h
  ·
   rcases Nat.mul_eq_zero.1 h with h | h
   ·
    exact absurd h d1
   ·
    exact absurd h d2
  ·
   have h1:X.2.1*Y.2.2=0:=by omega
   have h2:Y.2.1*X.2.2=0:=by omega
   exact⟨(Nat.mul_eq_zero.1 h1).resolve_right d2,(Nat.mul_eq_zero.1 h2).resolve_right d1⟩
 ·
  rw [if_neg h]
  refine⟨rfl,fun e=>?_,fun e=>?_⟩
  ·
   simp only [] at e
   have hp:0 < X.2.1*Y.2.2+Y.2.1*X.2.2:=by omega
   have hg:0 < Nat.gcd (X.2.1*Y.2.2+Y.2.1*X.2.2) (X.2.2*Y.2.2):=Nat.gcd_pos_of_pos_left _ hp
   have:=Nat.div_pos (Nat.le_of_dvd hp (Nat.gcd_dvd_left (X.2.1*Y.2.2+Y.2.1*X.2.2) (X.2.2*Y.2.2))) hg
   omega
  ·
   exact absurd (by rw [e.1,e.2]; simp) h
theorem dot_self (es:List M.S25):∀ n:Nat,(zbJ es es n).1=false∧((zbJ es es n).2.1=0 ↔ ∀ i:Nat,i < n→(eN (M.rd_T25 es (i:Int))).2.1=0)
 | 0=>⟨rfl,fun _ i hi=>absurd hi (by omega),fun _=>rfl⟩
 | n+1=>by
  obtain⟨h1,h2⟩:=dot_self es n
  obtain⟨h3,h4⟩:=sq_pos (eN (M.rd_T25 es (n:Int)))
  obtain⟨h5,h6⟩:=add_pos h1 h3 (red_dotP _ _ _) (red_mul _ _)
  refine⟨h5,h6.trans ?_⟩
  rw [h2,h4]
  constructor
  ·
   rintro⟨ha,hb⟩ i hi
   rcases Nat.lt_or_ge i n with h | h
   ·
    exact ha i h
   ·
    obtain rfl:i=n:=by omega
    exact hb.resolve_right (zcd (red_eN _))
  ·
   exact fun h=>⟨fun i hi=>h i (by omega),.inl (h n (by omega))⟩
theorem may_len {x:M.S25} (h:eV x=0):(x.f1.length=0 ↔ (eN x).2.1=0):=by
 unfold eV mayV at h
 split at h
 ·
  rename_i h1
  rw [h1.2.1]
  show _ ↔ (nrm x.f0 (val B32 x.f1) (val B32 x.f2)).2.1=0
  generalize (nrm x.f0 (val B32 x.f1) (val B32 x.f2)).2.1=m
  rw [List.length_eq_zero_iff]
  exact zcg zbB _
 ·
  exact absurd h (by decide)
theorem tmay_all {sh:List Int} {es:List M.S25} (h:tmayV sh es=0):mayS sh=0∧(es.length:Int)=cntS sh∧es.length≤1024∧∀ x∈es,eV x=0:=by
 unfold tmayV at h
 split at h
 ·
  rename_i hf
  have h2:∀ x∈es,eV x=0:=by
   split at h
   ·
    assumption
   ·
    exact absurd h (by decide)
  unfold fitV at hf
  split at hf
  ·
   rename_i hm
   split at hf
   ·
    rename_i hc
    refine⟨hm,hc,?_,h2⟩
    obtain⟨-,-,-,h4⟩:=mayS_zero hm
    rw [cntS,if_pos hm] at hc
    omega
   ·
    exact absurd hf (by decide)
  ·
   rename_i hm
   exact absurd hf hm
 ·
  rename_i hf
  exact absurd h hf
theorem tmay_same {sh:List Int} {es fs:List M.S25} (h1:tmayV sh es=0) (h2:tmayV sh fs=0):fs.length=es.length:=by
 have a:=(tmay_all h1).2.1
 have b:=(tmay_all h2).2.1
 omega
theorem SX_may {X:QN} (h:red X):eV (SX X)=0:=by
 unfold eV mayV
 rw [if_pos]
 show X.1=(nrm X.1 (val B32 (dg B32 X.2.1)) (val B32 (dg B32 X.2.2))).1∧dg B32 X.2.1=dg B32 (nrm X.1 (val B32 (dg B32 X.2.1)) (val B32 (dg B32 X.2.2))).2.1∧dg B32 X.2.2=dg B32 (nrm X.1 (val B32 (dg B32 X.2.1)) (val B32 (dg B32 X.2.2))).2.2
 rw [zbT zbB,zbT zbB,nrm_of_red h]
 exact⟨rfl,rfl,rfl⟩
theorem lim_rawL {n:Bool} {p q:List Int} {L:Nat} (hp:ok B32 p) (hq:ok B32 q) (h1:p.length≤L) (h2:q.length≤L) (hL:0 < L):lim L (nrm n (val B32 p) (val B32 q)) :=
 lim_nrm (Nat.lt_of_lt_of_le (val_lt hp) (Nat.pow_le_pow_right (by decide) h1)) (Nat.lt_of_lt_of_le (val_lt hq) (Nat.pow_le_pow_right (by decide) h2)) hL
theorem okQ_dot {es fs:List M.S25} {L n:Nat} (hL0:0 < L) (hL:L≤33554432) (h1:∀ x∈es,eOk x∧x.f1.length≤L∧x.f2.length≤L) (h2:∀ x∈fs,eOk x∧x.f1.length≤L∧x.f2.length≤L) (hn:n≤1024):okQ (zbJ es fs n) :=
 lim_ok (lim_dotP (lim_eN hL0 h1) (lim_eN hL0 h2) hL0 n) (by
  have h1:n*(L+L+1)≤1024*(33554432+33554432+1):=Nat.mul_le_mul hn (by omega)
  omega)
theorem eOk_SX {X:QN} (h:okQ X):eOk (SX X):=⟨okS_dg h.1,okS_dg h.2⟩
theorem mix_ok {es fs:List M.S25} {X:QN} {L:Nat} (hL0:0 < L) (hL:L≤1048576) (h1:∀ x∈es,eOk x∧x.f1.length≤L∧x.f2.length≤L) (h2:∀ x∈fs,eOk x∧x.f1.length≤L∧x.f2.length≤L) (hX:lim L X) :
  (∀ i:Nat,okQ (mulQ X (eN (M.rd_T25 fs (i:Int)))))∧∀ n,∀ x∈zcf es fs X n,eOk x∧x.f1.length≤33554432∧x.f2.length≤33554432:=by
 refine⟨fun i=>lim_ok (lim_mul hX (lim_eN hL0 h2 i) (by omega)) (by omega),fun n x hx=>?_⟩
 obtain⟨i,hi,rfl⟩:=List.mem_map.1 hx
 have h:=lim_add (lim_eN hL0 h1 i) (lim_mul hX (lim_eN hL0 h2 i) (by omega))
 have d1:=zbS zbB h.1
 have d2:=zbS zbB h.2
 exact⟨eOk_SX (lim_ok h (by omega)),by show (dg B32 _).length≤_; omega,by show (dg B32 _).length≤_; omega⟩
theorem lin_ok {es fs gs:List M.S25} {X:QN} {L n:Nat} (hL0:0 < L) (hL:L≤1048576) (h1:∀ x∈es,eOk x∧x.f1.length≤L∧x.f2.length≤L) (h2:∀ x∈fs,eOk x∧x.f1.length≤L∧x.f2.length≤L) (h3:∀ x∈gs,eOk x∧x.f1.length≤L∧x.f2.length≤L) (hX:lim L X) (hn:n≤1024) :
  okQ (mulQ X (zbJ fs gs n))∧okQ (addQ (zbJ es gs n) (mulQ X (zbJ fs gs n))):=by
 have hb:n*(L+L+1)≤1024*(1048576+1048576+1):=Nat.mul_le_mul hn (by omega)
 have a:=lim_dotP (lim_eN hL0 h1) (lim_eN hL0 h3) hL0 n
 have b:=lim_mul hX (lim_dotP (lim_eN hL0 h2) (lim_eN hL0 h3) hL0 n) (by omega)
 exact⟨lim_ok b (by omega),lim_ok (lim_add a b) (by omega)⟩
def MX (w:World) (b:Nat) (v:Value) (l:List M.S25):Prop:=Kd.R M.k25 25 w b (fun _=>True) v l
theorem MX.below {w w':World} {b:Nat} {v:Value} {l:List M.S25} (h:MX w b v l) (hb:Below w.heap.size w w'):MX w' b v l:=Kd.R_below h hb
theorem tmay_mk {sh:List Int} {es fs:List M.S25} (h:tmayV sh es=0) (hl:fs.length=es.length) (hf:∀ x∈fs,eV x=0):tmayV sh fs=0:=by
 unfold tmayV at h ⊢
 rw [hl]
 split at h
 ·
  rename_i h1
  rw [if_pos h1,if_pos hf]
 ·
  rename_i h1
  exact absurd h h1
theorem mix_may {sh:List Int} {es:List M.S25} (h:tmayV sh es=0) (fs:List M.S25) (X:QN):tmayV sh (zcf es fs X es.length)=0 :=
 tmay_mk h (mixI_len _ _ _ _) (fun x hx=>by
  obtain⟨i,hi,rfl⟩:=List.mem_map.1 hx
  exact SX_may (red_add _ _))
theorem sgn_self {sh:List Int} {es:List M.S25} (h:tmayV sh es=0):(sgnQ (zbJ es es es.length) == 0)=decide (∀ j:Nat,j < es.length→(M.rd_T25 es (j:Int)).f1.length=0)∧decide (sgnQ (zbJ es es es.length) ≥ 0)=true:=by
 obtain⟨h1,h2⟩:=dot_self es es.length
 have h3:(zbJ es es es.length).2.1=0 ↔ ∀ j:Nat,j < es.length→(M.rd_T25 es (j:Int)).f1.length=0:=by
  rw [h2]
  exact⟨fun k j hj=>(may_len ((tmay_all h).2.2.2 _ (rd_mem hj))).2 (k j hj),fun k j hj=>(may_len ((tmay_all h).2.2.2 _ (rd_mem hj))).1 (k j hj)⟩
 unfold sgnQ
 rw [h1]
 by_cases hz:(zbJ es es es.length).2.1=0
 ·
  rw [if_pos hz,decide_eq_true (h3.1 hz)]
  exact⟨rfl,rfl⟩
 ·
  rw [if_neg hz,decide_eq_false (fun k=>hz (h3.2 k))]
  exact⟨rfl,rfl⟩
theorem int_eq0 (n:Nat):((n:Int) == 0)=decide (n=0):=by
 by_cases h:n=0
 ·
  rw [h]; rfl
 ·
  rw [decide_eq_false h,beq_eq_false_iff_ne]; omega
theorem NR.cast {w:World} {v:Value} {X Y:QN} (h:NR w v X) (e:X=Y):NR w v Y:=e ▸ h
end Go.Proofs.Ytehghijlchpeaaa.Nat1
end
