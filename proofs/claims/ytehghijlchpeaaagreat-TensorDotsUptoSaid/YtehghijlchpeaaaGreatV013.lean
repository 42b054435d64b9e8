/- Part 14 of the proof of tensorDotsUpto_holds: what it uses, in build order. -/
import Derived.Test.YtehghijlchpeaaaGreatV012
import Derived.Shelf.Bits.Mul64
import Derived.Shelf.Small.Bits
import Derived.Test.YtehghijlchpeaaaGreatProg
set_option maxHeartbeats 8000000
set_option maxRecDepth 100000
set_option linter.unusedVariables false
set_option linter.unusedSimpArgs false
set_option linter.unusedSectionVars false
section
namespace Go.Proofs
open Go.Shelf
def Tryz.lays128_ren:Go.Shelf.Ren:=⟨fun | 128=>171 | n=>n,fun | 51=>81 | 3=>3 | 4=>4 | 46=>129 | 5=>5 | 9=>9 | n=>n,fun | n=>n⟩
theorem Tryz.lays128:Go.Proofs.Lays.n128 Tryz.prog Tryz.lays128_ren:={
 mixed:=by kernel_rfl
 f128:=Tryz.func171.trans (congrArg some (by kernel_rfl))
 t3:=Tryz.underlying3
 a3:=Tryz.isAgg3
 z3:=Tryz.sizeOf3
 v3:=Tryz.zeroValue3
 t4:=Tryz.underlying4
 a4:=Tryz.isAgg4
 z4:=Tryz.sizeOf4
 v4:=Tryz.zeroValue4
 t5:=Tryz.underlying5
 a5:=Tryz.isAgg5
 z5:=Tryz.sizeOf5
 v5:=Tryz.zeroValue5
 t9:=Tryz.underlying9
 a9:=Tryz.isAgg9
 z9:=Tryz.sizeOf9
 v9:=Tryz.zeroValue9
 t46:=Tryz.underlying129
 a46:=Tryz.isAgg129
 z46:=Tryz.sizeOf129
 v46:=Tryz.zeroValue129
 t51:=Tryz.underlying81
 a51:=Tryz.isAgg81
 z51:=Tryz.sizeOf81
 v51:=Tryz.zeroValue81 }
theorem Tryz.bits_Len32 (x:Int) (w:World) (h0:0≤x) (h1:x≤4294967295) :
  Calls Tryz.prog 171 #[.int .u32 x] w fun e w'=>e=.returned (.int .i64 (Lib.bitLen x.toNat))∧w'=w:=Any.bits_Len32 Tryz.lays128 x w h0 h1
def Tryz.lays133_ren:Go.Shelf.Ren:=⟨fun | 133=>180 | 128=>171 | n=>n,fun | 51=>81 | 3=>3 | 4=>4 | 46=>129 | 5=>5 | 9=>9 | n=>n,fun | n=>n⟩
theorem Tryz.lays133:Go.Proofs.Lays.n133 Tryz.prog Tryz.lays133_ren:={
 mixed:=by kernel_rfl
 f128:=Tryz.func171.trans (congrArg some (by kernel_rfl))
 f133:=Tryz.func180.trans (congrArg some (by kernel_rfl))
 t3:=Tryz.underlying3
 a3:=Tryz.isAgg3
 z3:=Tryz.sizeOf3
 v3:=Tryz.zeroValue3
 t4:=Tryz.underlying4
 a4:=Tryz.isAgg4
 z4:=Tryz.sizeOf4
 v4:=Tryz.zeroValue4
 t5:=Tryz.underlying5
 a5:=Tryz.isAgg5
 z5:=Tryz.sizeOf5
 v5:=Tryz.zeroValue5
 t9:=Tryz.underlying9
 a9:=Tryz.isAgg9
 z9:=Tryz.sizeOf9
 v9:=Tryz.zeroValue9
 t46:=Tryz.underlying129
 a46:=Tryz.isAgg129
 z46:=Tryz.sizeOf129
 v46:=Tryz.zeroValue129
 t51:=Tryz.underlying81
 a51:=Tryz.isAgg81
 z51:=Tryz.sizeOf81
 v51:=Tryz.zeroValue81 }
theorem Tryz.bits_LeadingZeros32 (x:Int) (w:World) (h0:0≤x) (h1:x≤4294967295) :
  Calls Tryz.prog 180 #[.int .u32 x] w fun e w'=>e=.returned (.int .i64 (32-(Lib.bitLen x.toNat:Int)))∧w'=w:=Any.bits_LeadingZeros32 Tryz.lays133 x w h0 h1
end Go.Proofs
end
section
namespace Go.Proofs.YtehghijlchpeaaaGreat.Nat1
open Go.RowKit YtehghijlchpeaaaGreatW.PrintWords YtehghijlchpeaaaGreatW.PrintLast YtehghijlchpeaaaGreatW.PrintMore L Nt
def okD (l:List Int):Prop:=ok B32 l∧l.length≤549755813888
theorem okD.okL {l:List Int} (h:okD l):okL l:=⟨h.1,by have:=h.2; omega⟩
open Classical in
noncomputable def quo_DivMod.f (l0 l1:List Int):Option (List Int×List Int×Int):=if okD l0∧okD l1 then (if val B32 l1=0 then some ([],[],17) else some (dg B32 (val B32 l0 / val B32 l1),dg B32 (val B32 l0 % val B32 l1),0)) else none
theorem dg_okD {n:Nat} {l:List Int} (h:okD l) (hn:n=val B32 l):okD (dg B32 n)∧(dg B32 n).length≤l.length:=by
 subst hn
 have h1:=zbS zby (val_lt h.1)
 exact⟨⟨dg_ok zby _,Nat.le_trans h1 h.2⟩,h1⟩
theorem two_apart {w1 w2:World} {b0:Nat} {v0 v1:Value} {r1 r2:List Int} {ok0 ok1:Nat→Prop} (h0:Kd.R (Kd.int .u32) 81 w1 b0 ok0 v0 r1) (h1:Kd.R (Kd.int .u32) 81 w2 w1.heap.size ok1 v1 r2) (hb:Below w1.heap.size w1 w2) (hs:b0≤w1.heap.size) :
  Kd.R (Kd.int .u32) 81 w2 b0 (fun k_=>some k_≠v1.ownBlock) v0 r1∧Kd.R (Kd.int .u32) 81 w2 b0 (fun k_=>some k_≠v0.ownBlock) v1 r2 :=
 ⟨Kd.R_mono (Kd.R_elder' h0 (Kd.R_base h1) hb) (fun _ hk=>hk.2),Kd.R_lower (Kd.R_mono (Kd.R_new' h1 (fun k hk=>own_lt (Kd.own_of_R h0) k hk)) (fun _ hk=>hk.2)) hs⟩
def DivPost (w:World) (r1 r2:List Int) (r3:Int) (e:Ending) (w':World):Prop :=
 ∃ v0_ v1_:Value,e=.returned (.tuple #[v0_,v1_,.int .i64 r3])∧Kd.R (Kd.int .u32) 81 w' w.heap.size (fun k_=>some k_≠v1_.ownBlock) v0_ r1∧Kd.R (Kd.int .u32) 81 w' w.heap.size (fun k_=>some k_≠v0_.ownBlock) v1_ r2∧Below w.heap.size w w'
section
variable (A0:Option Addr) (c0:Nat) (l0:List Int) (A1:Option Addr) (c1:Nat) (l1:List Int) (w:World) (hr0:Kd.C (Kd.int .u32) w A0 l0.length l0) (hc0:l0.length≤c0) (hr1:Kd.C (Kd.int .u32) w A1 l1.length l1) (hc1:l1.length≤c1) (h0:okD l0) (h1:okD l1)
include hr0 hc0 hr1 hc1 h0 h1
theorem div_zero (hz:val B32 l1=0):Calls Tryz.prog 172 #[.slice A0 l0.length c0,.slice A1 l1.length c1] w (DivPost w [] [] 17):=by
 have HT0:=Aside0.mk (nat_Trim.calls A0 c0 l0 (dg B32 (val B32 l0)) w hr0 hc0 (if_pos h0.okL))
 have HT1:=Aside0.mk (fun (W:World) (hb:Below w.heap.size w W)=>nat_Trim.calls A1 c1 l1 (dg B32 0) W (Kd.C_below hr1 hb) hc1 (by rw [nat_Trim.f,if_pos h1.okL,hz]))
 rw [zbT] at HT1
 clear hr0 hr1 hz
 have hl0:(l0.length:Int)≤549755813888:=by have:=h0.2; omega
 have hl1:(l1.length:Int)≤549755813888:=by have:=h1.2; omega
 clear h0 h1
 go_enter Tryz.func172,Tryz.ntmps172
 go_wp2_with fail
 refine HT0.out.mono ?_
 rintro e w1 ⟨va,rfl,hR,hB⟩
 have HB:=Aside0.mk hB
 clear hR hB
 go_wp2_with fail
 refine(HT1.out w1 HB.out).mono ?_
 rintro e w2 ⟨vb,rfl,hR,hB⟩
 obtain⟨Ab,cb,rfl⟩:=Kd.R_slice hR
 have HB2:=Aside0.mk (zbm HB.out hB)
 clear hR hB
 go_wp2
 go_ret3
 exact⟨_,_,rfl,Kd.R_nil _ _ _ _ _,Kd.R_nil _ _ _ _ _,HB2.out⟩
theorem div_below (hz:val B32 l1≠0) (hlt:val B32 l0 < val B32 l1):Calls Tryz.prog 172 #[.slice A0 l0.length c0,.slice A1 l1.length c1] w (DivPost w [] (dg B32 (val B32 l0)) 0):=by
 have HT0:=Aside0.mk (nat_Trim.calls A0 c0 l0 (dg B32 (val B32 l0)) w hr0 hc0 (if_pos h0.okL))
 have HT1:=Aside0.mk (fun (W:World) (hb:Below w.heap.size w W)=>nat_Trim.calls A1 c1 l1 (dg B32 (val B32 l1)) W (Kd.C_below hr1 hb) hc1 (if_pos h1.okL))
 have hne:dg B32 (val B32 l1)≠[]:=fun e=>hz ((zcl zby _).1 e)
 have hb1:=(dg_okD h1 rfl).1
 have ha1:=(dg_okD h0 rfl).1
 have va:val B32 (dg B32 (val B32 l0))=val B32 l0:=zbV zby _
 have vb:val B32 (dg B32 (val B32 l1))=val B32 l1:=zbV zby _
 generalize val B32 l1=b at *
 generalize val B32 l0=a at *
 generalize dg B32 b=xb at *
 generalize dg B32 a=xa at *
 have HC:=Aside0.mk (fun (A0:Option Addr) (c0:Nat) (A1:Option Addr) (c1:Nat) (W:World) x y z u=>nat_Cmp.calls A0 c0 xa A1 c1 xb (-1) W x y z u (by rw [nat_Cmp.f,if_pos ⟨ha1.okL,hb1.okL⟩,va,vb,cmpN,if_pos hlt]))
 have hpos:0 < xb.length:=List.length_pos_iff.2 hne
 have hl0:(xa.length:Int)≤549755813888:=by have:=ha1.2; omega
 have hl1:(xb.length:Int)≤549755813888:=by have:=hb1.2; omega
 have hp1:0 < (xb.length:Int):=by omega
 clear h0 h1 hr0 hr1 hz hlt va vb ha1 hb1 hne
 go_enter Tryz.func172,Tryz.ntmps172
 go_wp2_with fail
 refine HT0.out.mono ?_
 rintro e w1 ⟨va,rfl,hR,hB⟩
 obtain⟨Aa,ca,rfl⟩:=Kd.R_slice hR
 have HB:=Aside0.mk hB
 have HRa:=Aside0.mk hR
 clear hR hB
 go_wp2_with fail
 refine(HT1.out w1 HB.out).mono ?_
 rintro e w2 ⟨vb,rfl,hR,hB⟩
 obtain⟨Ab,cb,rfl⟩:=Kd.R_slice hR
 have HB2:=Aside0.mk (zbm HB.out hB)
 have HRa2:=Aside0.mk (Kd.R_below HRa.out hB)
 have HRb:=Aside0.mk hR
 clear hR hB
 go_wp2_with fail
 refine(HC.out Aa ca Ab cb w2 (Kd.R_reads' HRa2.out).2.2 (Kd.R_reads' HRa2.out).2.1 (Kd.R_reads' HRb.out).2.2 (Kd.R_reads' HRb.out).2.1).mono ?_
 rintro e w3 ⟨rfl,hB⟩
 have HB3:=Aside0.mk (zbm HB2.out hB)
 have HRa3:=Aside0.mk (Kd.R_below HRa2.out hB)
 clear hB
 go_wp2
 go_ret3
 exact⟨_,_,rfl,Kd.R_nil _ _ _ _ _,Kd.R_mono HRa3.out (fun k _=>by simp [Value.ownBlock]),HB3.out⟩
theorem div_one (hz:val B32 l1≠0) (hle:val B32 l1≤val B32 l0) (h1l:(dg B32 (val B32 l1)).length=1):Calls Tryz.prog 172 #[.slice A0 l0.length c0,.slice A1 l1.length c1] w (DivPost w (dg B32 (val B32 l0 / val B32 l1)) (dg B32 (val B32 l0 % val B32 l1)) 0):=by
 have HT0:=Aside0.mk (nat_Trim.calls A0 c0 l0 (dg B32 (val B32 l0)) w hr0 hc0 (if_pos h0.okL))
 have HT1:=Aside0.mk (fun (W:World) (hb:Below w.heap.size w W)=>nat_Trim.calls A1 c1 l1 (dg B32 (val B32 l1)) W (Kd.C_below hr1 hb) hc1 (if_pos h1.okL))
 have hb1:=(dg_okD h1 rfl).1
 have ha1:=(dg_okD h0 rfl).1
 have va:val B32 (dg B32 (val B32 l0))=val B32 l0:=zbV zby _
 have vb:val B32 (dg B32 (val B32 l1))=val B32 l1:=zbV zby _
 generalize val B32 l1=b at *
 generalize val B32 l0=a at *
 generalize dg B32 b=xb at *
 generalize dg B32 a=xa at *
 obtain⟨c,hc⟩:∃ c,cmpN a b=c∧0≤c:=⟨_,rfl,by unfold cmpN; split; omega; split<;>omega⟩
 obtain⟨hcc,hc0'⟩:=hc
 have HC:=Aside0.mk (fun (A0:Option Addr) (c0:Nat) (A1:Option Addr) (c1:Nat) (W:World) x y z u=>nat_Cmp.calls A0 c0 xa A1 c1 xb c W x y z u (by rw [nat_Cmp.f,if_pos ⟨ha1.okL,hb1.okL⟩,va,vb,hcc]))
 obtain⟨d,rfl⟩:∃ d,xb=[d]:=List.length_eq_one_iff.1 h1l
 have hd:0≤d∧d < 4294967296:=by have:=hb1.1 d (by simp); unfold B32 at this; omega
 have hdb:d.toNat=b:=by rw [← vb]; simp [val]
 have hd0:0 < d:=by omega
 have HS:=Aside0.mk (fun (A0:Option Addr) (c0:Nat) (W:World) x y=>short_calls A0 c0 xa d W x y ha1.okL ⟨hd0,hd.2⟩)
 rw [va,hdb] at HS
 have HO:=Aside0.mk (fun (W:World)=>nat_Of.calls ((a % b:Nat):Int) (dg B32 (a % b)) W (by
  have:=Nat.mod_lt a (show 0 < b by omega)
  rw [nat_Of.f,if_pos (by omega),Int.toNat_natCast]))
 have hrm:0≤((a % b:Nat):Int)∧((a % b:Nat):Int) < 4294967296:=by have:=Nat.mod_lt a (show 0 < b by omega); omega
 have hl0:(xa.length:Int)≤549755813888:=by have:=ha1.2; omega
 generalize ((a % b:Nat):Int)=rm at *
 simp only [List.length_cons,List.length_nil] at HC HT1
 clear h0 h1 hr0 hr1 hz hle va vb ha1 hb1 hcc h1l hdb
 go_enter Tryz.func172,Tryz.ntmps172
 go_wp2_with fail
 refine HT0.out.mono ?_
 rintro e w1 ⟨va,rfl,hR,hB⟩
 obtain⟨Aa,ca,rfl⟩:=Kd.R_slice hR
 have HB:=Aside0.mk hB
 have HRa:=Aside0.mk hR
 clear hR hB
 go_wp2_with fail
 refine(HT1.out w1 HB.out).mono ?_
 rintro e w2 ⟨vb,rfl,hR,hB⟩
 obtain⟨Ab,cb,rfl⟩:=Kd.R_slice1 hR (by simp)
 have HB2:=Aside0.mk (zbm HB.out hB)
 have HRa2:=Aside0.mk (Kd.R_below HRa.out hB)
 have HRb:=Aside0.mk hR
 clear hR hB
 simp only [List.length_cons,List.length_nil,Nat.zero_add] at HRb ⊢
 go_wp2_with fail
 refine(HC.out Aa ca (some Ab) cb w2 (Kd.R_reads' HRa2.out).2.2 (Kd.R_reads' HRa2.out).2.1 (Kd.R_reads' HRb.out).2.2 (Kd.R_reads' HRb.out).2.1).mono ?_
 rintro e w3 ⟨rfl,hB⟩
 have HB3:=Aside0.mk (zbm HB2.out hB)
 have HRa3:=Aside0.mk (Kd.R_below HRa2.out hB)
 have HRb3:=Kd.R_below HRb.out hB
 obtain⟨adb,e,hx⟩:=Kd.at_int (Kd.R_reads' HRb3).2.2 0 (by omega) (by simp)
 cases e
 have hx2:w3.cell? Ab=some (.int .u32 d):=by
  have e0:Ab.add 0=Ab:=by cases Ab; simp [Addr.add]
  have:=hx
  simp only [Int.toNat_zero,e0] at this
  simpa [rd] using this
 clear hB HRb3 hx
 go_wp2_with fail
 refine(HS.out Aa ca w3 (Kd.R_reads' HRa3.out).2.2 (Kd.R_reads' HRa3.out).2.1).mono ?_
 rintro e w4 ⟨vq,rfl,hR,hB⟩
 obtain⟨Aq,cq,rfl⟩:=Kd.R_slice hR
 have HB4:=Aside0.mk (zbm HB3.out hB)
 have HRq:=Aside0.mk hR
 clear hR hB hx2
 go_wp2_with fail
 refine(HO.out w4).mono ?_
 rintro e w5 ⟨vr,rfl,hR,hB⟩
 obtain⟨Ar,cr,rfl⟩:=Kd.R_slice hR
 have HB5:=Aside0.mk (zbm HB4.out hB)
 have HR2:=Aside0.mk (two_apart (Kd.R_lower HRq.out HB3.out.size) hR hB HB4.out.size)
 clear hR hB
 go_wp2
 go_ret3
 exact⟨_,_,rfl,HR2.out.1,HR2.out.2,HB5.out⟩
end
end Go.Proofs.YtehghijlchpeaaaGreat.Nat1
end
