/- Part 17 of the proof of ratMakes_holds: what it uses, in build order. -/
import Derived.Test.YtehghijlchpeaaaQRatMakes15
import Derived.Below
import Derived.ChangeOld
import Derived.Lib.SmallJoins
import Derived.OpenShut
import Derived.ProofKit
import Derived.SizedLaws
import Derived.Test.YtehghijlchpeaaaRows
import Derived.WalkKit
section
namespace Go.Proofs.Ytehghijlchpeaaa.Nat1
open Go.ChangeShapes Go.WideShapes Go.ChangeAt Go.RowKit Go.Joins Go.Proofs.YtehghijlchpeaaaW.PrintWords Go.Proofs.YtehghijlchpeaaaW.PrintLast Go.Proofs.YtehghijlchpeaaaW.PrintMore Go.Proofs.Ytehghijlchpeaaa.L Go.Proofs.Ytehghijlchpeaaa.Nt
set_option linter.unusedVariables false
set_option linter.unusedSimpArgs false
set_option linter.unusedSectionVars false
theorem nat_arg {H : Type} {enc : TypeId × Value → H} {W : World} {m : Nat} {v : Value} {y : DataW H × List MemPlace} (h : DataW.trod enc Try.prog W 0 (fun _ => true) true m 23 [v] = some y) :
    ∃ (A : Option Addr) (c : Nat) (l : List Int), v = .slice A l.length c ∧ Kd.C (Kd.int .u32) W A l.length l ∧ l.length ≤ c ∧ ok B32 l := by
  obtain ⟨a, len, cap, zs, rfl, hz⟩ : ∃ a len cap zs, v = .slice a len cap ∧ ((a = none ∧ len = 0 ∧ cap = 0 ∧ zs = []) ∨ ∃ x, a = some x ∧ len ≤ cap ∧ cap ≤ maxLen ∧ zs.length = cap ∧ (∀ i, i < zs.length → W.cell? (x.add i) = some (.int .u32 (zs.getD i 0))) ∧ ∀ n ∈ zs, (Lit.int .u32 n).wf = true) := by
    rcases open_ints Try.underlying23 Try.underlying63 (by kernel_rfl) h with ⟨hcs, _⟩ | ⟨x, l, c, zs, hcs, _, hl, hm, hz, _, hcell, hwz⟩
    · injection hcs with hcs _
      exact ⟨none, 0, 0, [], hcs, .inl ⟨rfl, rfl, rfl, rfl⟩⟩
    · injection hcs with hcs _
      exact ⟨some x, l, c, zs, hcs, .inr ⟨_, rfl, hl, hm, by simpa using hz, hcell, hwz⟩⟩
  obtain ⟨l, rfl, hr, hm, hw, hc⟩ := ReadsInt.ofRowC hz
  refine ⟨a, cap, l, rfl, Kd.C_of_reads (d := (0 : Int)) (h1 := fun _ => rfl) hr, hc, fun x hx => ?_⟩
  have := hw x hx
  simp [Lit.wf, IntKind.min, IntKind.max, IntKind.bits, IntKind.signed] at this
  unfold B32
  omega
set_option maxRecDepth 100000 in
theorem nat_argT {H : Type} {enc : TypeId × Value → H} {W : World} {r : Reach} {b0 : Nat} {v : Value} {d : DataW H} {p : List MemPlace} (hv : Value.okWide Try.prog W r b0 23 v) (h : DataW.Trod enc Try.prog W 0 (fun _ => true) true 23 v d p) :
    ∃ (A : Option Addr) (c : Nat) (l : List Int), v = .slice A l.length c ∧ Kd.C (Kd.int .u32) W A l.length l ∧ l.length ≤ c ∧ ok B32 l := by
  obtain ⟨a, len, cap, rfl⟩ := okWide_slice Try.underlying23 hv
  obtain ⟨m, hm⟩ := h
  exact nat_arg hm
end Go.Proofs.Ytehghijlchpeaaa.Nat1
end
section
namespace Go.Proofs.Ytehghijlchpeaaa.Nat1
open Go.RowKit Go.Proofs.YtehghijlchpeaaaW.PrintWords Go.Proofs.YtehghijlchpeaaaW.PrintLast Go.Proofs.YtehghijlchpeaaaW.PrintMore Go.Proofs.Ytehghijlchpeaaa.L Go.Proofs.Ytehghijlchpeaaa.Nt Go.Proofs.Ytehghijlchpeaaa.Ev
set_option linter.unusedVariables false
set_option linter.unusedSimpArgs false
set_option linter.unusedSectionVars false
theorem dg_lit {n : Nat} (h0 : 0 < n) (h : n < B32) : dg B32 n = [(n : Int)] := by
  rw [dg_pos two_le_B32 h0, Nat.mod_eq_of_lt h, Nat.div_eq_of_lt h, dg_zero]
theorem bits4 {W : World} {b1 : Nat} {u : Value} {X : QN} (e : X = (false, 3, 8)) (hu : RT W b1 u X) (rX : red X) (kX : okQ X) : Calls Try.prog 46 #[u] W fun e w' => e = .returned (.int .i64 4) ∧ Below W.heap.size W w' := by
  have := bitsR_d hu rX kX
  rwa [show mx (nb X.2.1 : Int) (nb X.2.2 : Int) = 4 by rw [e]; decide] at this
theorem okS_lit {x : Int} (h : 0 ≤ x ∧ x < 4294967296) : okS [x] := ⟨fun y hy => by rw [List.mem_singleton.1 hy]; exact h, by simp⟩
theorem okS_nil : okS [] := ⟨ok_nil _, by simp⟩
theorem may24 {W : World} {A1 A2 : Addr} (h1 : Kd.C (Kd.int .u32) W (some A1) 1 [2]) (h2 : Kd.C (Kd.int .u32) W (some A2) 1 [4]) : Calls Try.prog 18 #[.agg #[.bool false, .slice (some A1) 1 1, .slice (some A2) 1 1]] W fun e w' => e = .returned (.int .i64 6) ∧ Below W.heap.size W w' := by
  refine J.rat_May.calls false (some A1) 1 [2] (some A2) 1 [4] 6 W h1 (Nat.le_refl _) h2 (Nat.le_refl _) ?_
  rw [may_f (okS_lit (by decide)) (okS_lit (by decide)), mayV, show nrm false (val B32 [2]) (val B32 [4]) = (false, 1, 2) by decide, if_neg]
  rintro ⟨_, h, _⟩
  rw [dg_lit (by decide) (by decide)] at h
  exact absurd h (by decide)
theorem C_none (W : World) : Kd.C (Kd.int .u32) W none 0 [] := ⟨rfl, by omega, fun h => absurd h (by omega)⟩
theorem may_5 {W : World} {A2 : Addr} (h2 : Kd.C (Kd.int .u32) W (some A2) 1 [5]) : Calls Try.prog 18 #[.agg #[.bool false, .slice none 0 0, .slice (some A2) 1 1]] W fun e w' => e = .returned (.int .i64 6) ∧ Below W.heap.size W w' := by
  refine J.rat_May.calls false none 0 [] (some A2) 1 [5] 6 W (C_none W) (Nat.le_refl _) h2 (Nat.le_refl _) ?_
  rw [may_f okS_nil (okS_lit (by decide)), mayV, show nrm false (val B32 []) (val B32 [5]) = (false, 0, 1) by decide, if_neg]
  rintro ⟨_, _, h⟩
  rw [dg_lit (by decide) (by decide)] at h
  exact absurd h (by decide)
theorem may3_ {W : World} {A1 : Addr} (h1 : Kd.C (Kd.int .u32) W (some A1) 1 [3]) : Calls Try.prog 18 #[.agg #[.bool false, .slice (some A1) 1 1, .slice none 0 0]] W fun e w' => e = .returned (.int .i64 6) ∧ Below W.heap.size W w' := by
  refine J.rat_May.calls false (some A1) 1 [3] none 0 [] 6 W h1 (Nat.le_refl _) (C_none W) (Nat.le_refl _) ?_
  rw [may_f (okS_lit (by decide)) okS_nil, mayV, show nrm false (val B32 [3]) (val B32 []) = (false, 0, 1) by decide, if_neg]
  rintro ⟨_, h, _⟩
  rw [dg_zero] at h
  exact absurd h (by decide)
def known.T6 : Bool × List (List Nat × List Nat) := (true, [([], []), ([0], [0]), ([1], [1]), ([2], [2]), ([3, 2], [2, 3]), ([2, 4], [2, 4]), ([5, 2], [5]), ([6, 6], [6]), ([6], [6]), ([6], [6]), ([8, 9, 7, 6], [6, 8, 9]), ([7, 10, 10, 6], [6, 7, 10]), ([6, 11], [6, 11]), ([12, 11], [12]), ([13, 13], [13]), ([13], [13]), ([13], [13]), ([15, 16, 14, 13], [13, 15, 16]), ([14, 17, 17, 13], [13, 14, 17]), ([13, 18], [13, 18]), ([19, 18], [19]), ([20, 20], [20]), ([20], [20]), ([20], [20]), ([22, 23, 21, 20], [20, 22, 23]), ([21, 24, 24, 20], [20, 21, 24]), ([20, 25], [20, 25]), ([26, 25], [26]), ([27], [27]), ([28, 27], [27, 28]), ([27, 29], [27, 29]), ([30, 27], [30]), ([31, 31], [31]), ([31], [31]), ([32, 33, 32, 31], [31, 32, 33]), ([31, 34], [31, 34]), ([35, 34], [35]), ([36], [36]), ([37, 36], [36, 37]), ([36, 38], [36, 38]), ([39, 36], [39]), ([40, 40], [40]), ([40], [40]), ([41, 42, 41, 40], [40, 41, 42]), ([40, 43], [40, 43]), ([44, 43], [44]), ([45], [45]), ([46, 45], [45, 46]), ([45, 47], [45, 47]), ([48, 45], [48]), ([49], [49]), ([50, 49, 49], [49, 50]), ([51, 49], [49, 51]), ([49, 52], [49, 52]), ([53, 51], [53]), ([54], [54]), ([54], [54]), ([55, 56, 54], [54, 55, 56]), ([57, 54, 54], [54, 57]), ([58, 54], [54, 58]), ([54, 59], [54, 59]), ([60, 58], [60]), ([61], [61]), ([62, 61], [61, 62]), ([63, 61, 61], [61, 63]), ([64, 61], [61, 64]), ([61, 65], [61, 65]), ([66, 64], [66]), ([67], [67]), ([68, 67], [67, 68]), ([69, 67, 67], [67, 69]), ([70, 67], [67, 70]), ([67, 71], [67, 71]), ([72, 70, 0, 1, 2, 3, 4, 5, 6, 7, 8, 9, 10, 11, 12, 13, 14, 15, 16, 17, 18, 19, 20, 21, 22, 23, 24, 25, 26, 27, 28, 29, 30, 31, 32, 33, 34, 35, 36, 37, 38, 39, 40, 41, 42, 43, 44, 45, 46, 47, 48, 49, 50, 51, 52, 53, 54, 55, 56, 57, 58, 59, 60, 61, 62, 63, 64, 65, 66, 67, 68, 69, 70, 71, 72], [72])])
def known.B6 : List Nat := [0, 1, 3, 7, 15, 31, 63, 127, 127, 127, 1023, 2047, 4095, 8191, 16383, 16383, 16383, 131071, 262143, 524287, 1048575, 2097151, 2097151, 2097151, 16777215, 33554431, 67108863, 134217727, 268435455, 536870911, 1073741823, 2147483647, 4294967295, 4294967295, 17179869183, 34359738367, 68719476735, 137438953471, 274877906943, 549755813887, 1099511627775, 2199023255551, 2199023255551, 8796093022207, 17592186044415, 35184372088831, 70368744177663, 140737488355327, 281474976710655, 562949953421311, 1125899906842623, 2251799813685247, 4503599627370495, 9007199254740991, 18014398509481983, 36028797018963967, 36028797018963967, 144115188075855871, 288230376151711743, 576460752303423487, 1152921504606846975, 2305843009213693951, 4611686018427387903, 9223372036854775807, 18446744073709551615, 36893488147419103231, 73786976294838206463, 147573952589676412927, 295147905179352825855, 590295810358705651711, 1180591620717411303423, 2361183241434822606847, 4722366482869645213695, 9444732965739290427391]
theorem known.tab6 : rtab .any (opsOf Try.f15 6) = known.T6 := by kernel_rfl
theorem known.bits6 : waitsOk known.T6.2 known.B6 = true := by kernel_rfl
set_option maxHeartbeats 8000000 in
set_option maxRecDepth 100000 in
theorem known_q (w : World) : Calls Try.prog 15 #[] w fun e w' => e = .returned (.bool true) ∧ Below w.heap.size w w' := by
  have hu25 := Try.underlying25
  obtain ⟨H, hH⟩ : ∃ H : QN, H = (false, 1, 2) := ⟨_, rfl⟩
  have EH := Aside0.mk hH
  have KH := Aside0.mk (show red H ∧ okQ H from by rw [hH]; exact ⟨⟨by decide, by decide, by decide⟩, okQ_small (by decide) (by decide)⟩)
  obtain ⟨T, hT⟩ : ∃ T : QN, T = (false, 1, 3) := ⟨_, rfl⟩
  have ET := Aside0.mk hT
  have KT := Aside0.mk (show red T ∧ okQ T from by rw [hT]; exact ⟨⟨by decide, by decide, by decide⟩, okQ_small (by decide) (by decide)⟩)
  obtain ⟨Q, hQ⟩ : ∃ Q : QN, Q = (false, 3, 2) := ⟨_, rfl⟩
  have EQ := Aside0.mk hQ
  have KQ := Aside0.mk (show red Q ∧ okQ Q from by rw [hQ]; exact ⟨⟨by decide, by decide, by decide⟩, okQ_small (by decide) (by decide)⟩)
  obtain ⟨M, hM⟩ : ∃ M : QN, M = (true, 3, 2) := ⟨_, rfl⟩
  have EM := Aside0.mk hM
  have KM := Aside0.mk (show red M ∧ okQ M from by rw [hM]; exact ⟨⟨by decide, by decide, by decide⟩, okQ_small (by decide) (by decide)⟩)
  obtain ⟨B, hB⟩ : ∃ B : QN, B = (false, 3, 8) := ⟨_, rfl⟩
  have EB := Aside0.mk hB
  have KB := Aside0.mk (show red B ∧ okQ B from by rw [hB]; exact ⟨⟨by decide, by decide, by decide⟩, okQ_small (by decide) (by decide)⟩)
  clear hH hT hQ hM hB
  go_enter Try.func15, Try.ntmps15
  go_wp2_with fail
  refine (frac_d (x := 1) (y := 2) w (by decide) (by decide) (by decide) (by decide) (by decide) (show _ = H from EH.out ▸ (by decide))).mono ?_
  rintro e u0 ⟨AH1, cH1, AH2, cH2, rfl, hR, hB⟩
  have hA : Below u0.heap.size u0 (u0.alloc (.cells #[.bool H.1, .slice AH1 (dg B32 H.2.1).length cH1, .slice AH2 (dg B32 H.2.2).length cH2] 25)) := below_alloc (Below.refl _ _) _
  have hN := blk_new u0 (.cells #[.bool H.1, .slice AH1 (dg B32 H.2.1).length cH1, .slice AH2 (dg B32 H.2.2).length cH2] 25)
  obtain ⟨W1, hW⟩ : ∃ W, W = u0.alloc (.cells #[.bool H.1, .slice AH1 (dg B32 H.2.1).length cH1, .slice AH2 (dg B32 H.2.2).length cH2] 25) := ⟨_, rfl⟩
  rw [← hW] at hA hN
  obtain ⟨gH, hg⟩ : ∃ g, g = u0.heap.size := ⟨_, rfl⟩
  rw [← hg] at hN
  have hB2 : Below w.heap.size w W1 := below_step hB hA
  have XH1 := Aside0.mk (And.intro hN ((hR.below hA).lower (base' := w.heap.size) (Nat.le_refl _)))
  have HB1 := Aside0.mk (hB2)
  have HW := Aside0.mk hW
  have HG := Aside0.mk hg
  clear hA hN hB hB2 hR hW hg
  go_wp2_with fail
  rw [← HW.out, ← HG.out]
  clear HW HG
  refine (frac_d (x := 1) (y := 3) W1 (by decide) (by decide) (by decide) (by decide) (by decide) (show _ = T from ET.out ▸ (by decide))).mono ?_
  rintro e u1 ⟨AT1, cT1, AT2, cT2, rfl, hR, hB⟩
  have hA : Below u1.heap.size u1 (u1.alloc (.cells #[.bool T.1, .slice AT1 (dg B32 T.2.1).length cT1, .slice AT2 (dg B32 T.2.2).length cT2] 25)) := below_alloc (Below.refl _ _) _
  have hN := blk_new u1 (.cells #[.bool T.1, .slice AT1 (dg B32 T.2.1).length cT1, .slice AT2 (dg B32 T.2.2).length cT2] 25)
  obtain ⟨W2, hW⟩ : ∃ W, W = u1.alloc (.cells #[.bool T.1, .slice AT1 (dg B32 T.2.1).length cT1, .slice AT2 (dg B32 T.2.2).length cT2] 25) := ⟨_, rfl⟩
  rw [← hW] at hA hN
  obtain ⟨gT, hg⟩ : ∃ g, g = u1.heap.size := ⟨_, rfl⟩
  rw [← hg] at hN
  have hB2 : Below W1.heap.size W1 W2 := below_step hB hA
  have XH2 := Aside0.mk (And.intro (blk_below XH1.out.1 hB2) (XH1.out.2.below hB2))
  have XT2 := Aside0.mk (And.intro hN ((hR.below hA).lower (base' := w.heap.size) (HB1.out.size)))
  have HB2 := Aside0.mk (below_step HB1.out hB2)
  have HW := Aside0.mk hW
  have HG := Aside0.mk hg
  have hl0 := blk_lt (blk_below XH1.out.1 hB)
  obtain ⟨⟨x00, x01, x02⟩, y00, y01, y02⟩ := box3_cells (blk_below XH1.out.1 hB)
  clear hA hN hB hB2 hR hW hg XH1 HB1
  go_wp2_with fail
  rw [← HW.out, ← HG.out]
  clear HW HG hl0 x00 x01 x02 y00 y01 y02
  have hdiv := divR_d XH2.out.2 XT2.out.2 KH.out.1 KT.out.1 KH.out.2 KT.out.2 (by rw [ET.out]; decide)
  rw [show divQ H T = Q by rw [EH.out, ET.out, EQ.out]; decide] at hdiv
  refine hdiv.mono ?_
  clear hdiv
  rintro e u2 ⟨AQ1, cQ1, AQ2, cQ2, rfl, hR, hB⟩
  have hA : Below u2.heap.size u2 (u2.alloc (.cells #[.bool Q.1, .slice AQ1 (dg B32 Q.2.1).length cQ1, .slice AQ2 (dg B32 Q.2.2).length cQ2] 25)) := below_alloc (Below.refl _ _) _
  have hN := blk_new u2 (.cells #[.bool Q.1, .slice AQ1 (dg B32 Q.2.1).length cQ1, .slice AQ2 (dg B32 Q.2.2).length cQ2] 25)
  obtain ⟨W3, hW⟩ : ∃ W, W = u2.alloc (.cells #[.bool Q.1, .slice AQ1 (dg B32 Q.2.1).length cQ1, .slice AQ2 (dg B32 Q.2.2).length cQ2] 25) := ⟨_, rfl⟩
  rw [← hW] at hA hN
  obtain ⟨gQ, hg⟩ : ∃ g, g = u2.heap.size := ⟨_, rfl⟩
  rw [← hg] at hN
  have hB2 : Below W2.heap.size W2 W3 := below_step hB hA
  have XH3 := Aside0.mk (And.intro (blk_below XH2.out.1 hB2) (XH2.out.2.below hB2))
  have XT3 := Aside0.mk (And.intro (blk_below XT2.out.1 hB2) (XT2.out.2.below hB2))
  have XQ3 := Aside0.mk (And.intro hN ((hR.below hA).lower (base' := w.heap.size) (HB2.out.size)))
  have HB3 := Aside0.mk (below_step HB2.out hB2)
  have HW := Aside0.mk hW
  have HG := Aside0.mk hg
  have hl0 := blk_lt (blk_below XH2.out.1 hB)
  obtain ⟨⟨x00, x01, x02⟩, y00, y01, y02⟩ := box3_cells (blk_below XH2.out.1 hB)
  have hl1 := blk_lt (blk_below XT2.out.1 hB)
  obtain ⟨⟨x10, x11, x12⟩, y10, y11, y12⟩ := box3_cells (blk_below XT2.out.1 hB)
  clear hA hN hB hB2 hR hW hg XH2 XT2 HB2
  go_wp2_with fail
  rw [← HW.out, ← HG.out]
  clear HW HG hl0 x00 x01 x02 y00 y01 y02 hl1 x10 x11 x12 y10 y11 y12
  refine (frac_d (x := 6) (y := -4) W3 (by decide) (by decide) (by decide) (by decide) (by decide) (show _ = M from EM.out ▸ (by decide))).mono ?_
  rintro e u3 ⟨AM1, cM1, AM2, cM2, rfl, hR, hB⟩
  have hA : Below u3.heap.size u3 (u3.alloc (.cells #[.bool M.1, .slice AM1 (dg B32 M.2.1).length cM1, .slice AM2 (dg B32 M.2.2).length cM2] 25)) := below_alloc (Below.refl _ _) _
  have hN := blk_new u3 (.cells #[.bool M.1, .slice AM1 (dg B32 M.2.1).length cM1, .slice AM2 (dg B32 M.2.2).length cM2] 25)
  obtain ⟨W4, hW⟩ : ∃ W, W = u3.alloc (.cells #[.bool M.1, .slice AM1 (dg B32 M.2.1).length cM1, .slice AM2 (dg B32 M.2.2).length cM2] 25) := ⟨_, rfl⟩
  rw [← hW] at hA hN
  obtain ⟨gM, hg⟩ : ∃ g, g = u3.heap.size := ⟨_, rfl⟩
  rw [← hg] at hN
  have hB2 : Below W3.heap.size W3 W4 := below_step hB hA
  have XH4 := Aside0.mk (And.intro (blk_below XH3.out.1 hB2) (XH3.out.2.below hB2))
  have XT4 := Aside0.mk (And.intro (blk_below XT3.out.1 hB2) (XT3.out.2.below hB2))
  have XQ4 := Aside0.mk (And.intro (blk_below XQ3.out.1 hB2) (XQ3.out.2.below hB2))
  have XM4 := Aside0.mk (And.intro hN ((hR.below hA).lower (base' := w.heap.size) (HB3.out.size)))
  have HB4 := Aside0.mk (below_step HB3.out hB2)
  have HW := Aside0.mk hW
  have HG := Aside0.mk hg
  have hl0 := blk_lt (blk_below XH3.out.1 hB)
  obtain ⟨⟨x00, x01, x02⟩, y00, y01, y02⟩ := box3_cells (blk_below XH3.out.1 hB)
  have hl1 := blk_lt (blk_below XT3.out.1 hB)
  obtain ⟨⟨x10, x11, x12⟩, y10, y11, y12⟩ := box3_cells (blk_below XT3.out.1 hB)
  have hl2 := blk_lt (blk_below XQ3.out.1 hB)
  obtain ⟨⟨x20, x21, x22⟩, y20, y21, y22⟩ := box3_cells (blk_below XQ3.out.1 hB)
  clear hA hN hB hB2 hR hW hg XH3 XT3 XQ3 HB3
  go_wp2_with fail
  rw [← HW.out, ← HG.out]
  clear HW HG hl0 x00 x01 x02 y00 y01 y02 hl1 x10 x11 x12 y10 y11 y12 hl2 x20 x21 x22 y20 y21 y22
  refine (frac_d (x := 3) (y := 8) W4 (by decide) (by decide) (by decide) (by decide) (by decide) (show _ = B from EB.out ▸ (by decide))).mono ?_
  rintro e u4 ⟨AB1, cB1, AB2, cB2, rfl, hR, hB⟩
  have hA : Below u4.heap.size u4 (u4.alloc (.cells #[.bool B.1, .slice AB1 (dg B32 B.2.1).length cB1, .slice AB2 (dg B32 B.2.2).length cB2] 25)) := below_alloc (Below.refl _ _) _
  have hN := blk_new u4 (.cells #[.bool B.1, .slice AB1 (dg B32 B.2.1).length cB1, .slice AB2 (dg B32 B.2.2).length cB2] 25)
  obtain ⟨W5, hW⟩ : ∃ W, W = u4.alloc (.cells #[.bool B.1, .slice AB1 (dg B32 B.2.1).length cB1, .slice AB2 (dg B32 B.2.2).length cB2] 25) := ⟨_, rfl⟩
  rw [← hW] at hA hN
  obtain ⟨gB, hg⟩ : ∃ g, g = u4.heap.size := ⟨_, rfl⟩
  rw [← hg] at hN
  have hB2 : Below W4.heap.size W4 W5 := below_step hB hA
  have XH5 := Aside0.mk (And.intro (blk_below XH4.out.1 hB2) (XH4.out.2.below hB2))
  have XT5 := Aside0.mk (And.intro (blk_below XT4.out.1 hB2) (XT4.out.2.below hB2))
  have XQ5 := Aside0.mk (And.intro (blk_below XQ4.out.1 hB2) (XQ4.out.2.below hB2))
  have XM5 := Aside0.mk (And.intro (blk_below XM4.out.1 hB2) (XM4.out.2.below hB2))
  have XB5 := Aside0.mk (And.intro hN ((hR.below hA).lower (base' := w.heap.size) (HB4.out.size)))
  have HB5 := Aside0.mk (below_step HB4.out hB2)
  have HW := Aside0.mk hW
  have HG := Aside0.mk hg
  have hl0 := blk_lt (blk_below XH4.out.1 hB)
  obtain ⟨⟨x00, x01, x02⟩, y00, y01, y02⟩ := box3_cells (blk_below XH4.out.1 hB)
  have hl1 := blk_lt (blk_below XT4.out.1 hB)
  obtain ⟨⟨x10, x11, x12⟩, y10, y11, y12⟩ := box3_cells (blk_below XT4.out.1 hB)
  have hl2 := blk_lt (blk_below XQ4.out.1 hB)
  obtain ⟨⟨x20, x21, x22⟩, y20, y21, y22⟩ := box3_cells (blk_below XQ4.out.1 hB)
  have hl3 := blk_lt (blk_below XM4.out.1 hB)
  obtain ⟨⟨x30, x31, x32⟩, y30, y31, y32⟩ := box3_cells (blk_below XM4.out.1 hB)
  clear hA hN hB hB2 hR hW hg XH4 XT4 XQ4 XM4 HB4
  go_wp2_with fail
  rw [← HW.out, ← HG.out]
  clear HW HG hl0 x00 x01 x02 y00 y01 y02 hl1 x10 x11 x12 y10 y11 y12 hl2 x20 x21 x22 y20 y21 y22 hl3 x30 x31 x32 y30 y31 y32
  have HF : Aside0 (∀ w' : World, Below W5.heap.size W5 w' → (w'.cell? ⟨gH, 0, none⟩ = some (.bool H.1) ∧ w'.cell? ⟨gH, 1, none⟩ = some (.slice AH1 (dg B32 H.2.1).length cH1) ∧ w'.cell? ⟨gH, 2, none⟩ = some (.slice AH2 (dg B32 H.2.2).length cH2) ∧ w'.cell? ⟨gT, 0, none⟩ = some (.bool T.1) ∧ w'.cell? ⟨gT, 1, none⟩ = some (.slice AT1 (dg B32 T.2.1).length cT1) ∧ w'.cell? ⟨gT, 2, none⟩ = some (.slice AT2 (dg B32 T.2.2).length cT2) ∧ w'.cell? ⟨gQ, 0, none⟩ = some (.bool Q.1) ∧ w'.cell? ⟨gQ, 1, none⟩ = some (.slice AQ1 (dg B32 Q.2.1).length cQ1) ∧ w'.cell? ⟨gQ, 2, none⟩ = some (.slice AQ2 (dg B32 Q.2.2).length cQ2) ∧ w'.cell? ⟨gM, 0, none⟩ = some (.bool M.1) ∧ w'.cell? ⟨gM, 1, none⟩ = some (.slice AM1 (dg B32 M.2.1).length cM1) ∧ w'.cell? ⟨gM, 2, none⟩ = some (.slice AM2 (dg B32 M.2.2).length cM2) ∧ w'.cell? ⟨gB, 0, none⟩ = some (.bool B.1) ∧ w'.cell? ⟨gB, 1, none⟩ = some (.slice AB1 (dg B32 B.2.1).length cB1) ∧ w'.cell? ⟨gB, 2, none⟩ = some (.slice AB2 (dg B32 B.2.2).length cB2)) ∧ RT w' w.heap.size (.agg #[.bool H.1, .slice AH1 (dg B32 H.2.1).length cH1, .slice AH2 (dg B32 H.2.2).length cH2]) H ∧ RT w' w.heap.size (.agg #[.bool T.1, .slice AT1 (dg B32 T.2.1).length cT1, .slice AT2 (dg B32 T.2.2).length cT2]) T ∧ RT w' w.heap.size (.agg #[.bool Q.1, .slice AQ1 (dg B32 Q.2.1).length cQ1, .slice AQ2 (dg B32 Q.2.2).length cQ2]) Q ∧ RT w' w.heap.size (.agg #[.bool M.1, .slice AM1 (dg B32 M.2.1).length cM1, .slice AM2 (dg B32 M.2.2).length cM2]) M ∧ RT w' w.heap.size (.agg #[.bool B.1, .slice AB1 (dg B32 B.2.1).length cB1, .slice AB2 (dg B32 B.2.2).length cB2]) B) := ⟨fun W hb => ⟨⟨(blk_cell (blk_below XH5.out.1 hb) 0).trans rfl, (blk_cell (blk_below XH5.out.1 hb) 1).trans rfl, (blk_cell (blk_below XH5.out.1 hb) 2).trans rfl, (blk_cell (blk_below XT5.out.1 hb) 0).trans rfl, (blk_cell (blk_below XT5.out.1 hb) 1).trans rfl, (blk_cell (blk_below XT5.out.1 hb) 2).trans rfl, (blk_cell (blk_below XQ5.out.1 hb) 0).trans rfl, (blk_cell (blk_below XQ5.out.1 hb) 1).trans rfl, (blk_cell (blk_below XQ5.out.1 hb) 2).trans rfl, (blk_cell (blk_below XM5.out.1 hb) 0).trans rfl, (blk_cell (blk_below XM5.out.1 hb) 1).trans rfl, (blk_cell (blk_below XM5.out.1 hb) 2).trans rfl, (blk_cell (blk_below XB5.out.1 hb) 0).trans rfl, (blk_cell (blk_below XB5.out.1 hb) 1).trans rfl, (blk_cell (blk_below XB5.out.1 hb) 2).trans rfl⟩, XH5.out.2.below hb, XT5.out.2.below hb, XQ5.out.2.below hb, XM5.out.2.below hb, XB5.out.2.below hb⟩⟩
  clear XH5 XT5 XQ5 XM5 XB5
  refine start_ (n := 74) (S := fun w' => (w'.cell? ⟨gH, 0, none⟩ = some (.bool H.1) ∧ w'.cell? ⟨gH, 1, none⟩ = some (.slice AH1 (dg B32 H.2.1).length cH1) ∧ w'.cell? ⟨gH, 2, none⟩ = some (.slice AH2 (dg B32 H.2.2).length cH2) ∧ w'.cell? ⟨gT, 0, none⟩ = some (.bool T.1) ∧ w'.cell? ⟨gT, 1, none⟩ = some (.slice AT1 (dg B32 T.2.1).length cT1) ∧ w'.cell? ⟨gT, 2, none⟩ = some (.slice AT2 (dg B32 T.2.2).length cT2) ∧ w'.cell? ⟨gQ, 0, none⟩ = some (.bool Q.1) ∧ w'.cell? ⟨gQ, 1, none⟩ = some (.slice AQ1 (dg B32 Q.2.1).length cQ1) ∧ w'.cell? ⟨gQ, 2, none⟩ = some (.slice AQ2 (dg B32 Q.2.2).length cQ2) ∧ w'.cell? ⟨gM, 0, none⟩ = some (.bool M.1) ∧ w'.cell? ⟨gM, 1, none⟩ = some (.slice AM1 (dg B32 M.2.1).length cM1) ∧ w'.cell? ⟨gM, 2, none⟩ = some (.slice AM2 (dg B32 M.2.2).length cM2) ∧ w'.cell? ⟨gB, 0, none⟩ = some (.bool B.1) ∧ w'.cell? ⟨gB, 1, none⟩ = some (.slice AB1 (dg B32 B.2.1).length cB1) ∧ w'.cell? ⟨gB, 2, none⟩ = some (.slice AB2 (dg B32 B.2.2).length cB2))) (ds := []) #[false, false, false, false, false, false, false, false, false, false, false, false, false, false, false, false, false, false, false, false, false, false, false, false, false, false, false, false, false, false, false, false, false, false, false, false, false, false, false, false, false, false, false, false, false, false, false, false, false, false, false, false, false, false, false, false, false, false, false, false, false, false, false, false, false, false, false, false, false, false, false, false, false, false] (by kernel_rfl) rfl rfl ((HF.out _ (below_drew1 (Below.refl _ _))).1) (fun hHeld => ?_)
  refine with_tabW known.tab6 known.bits6 (fun HT_ HW_ => ?_)
  have hb0 := Aside0.mk (show Below W5.heap.size W5 W5.drew from below_drew1 (Below.refl _ _))
  generalize W5.drew = V0 at hb0 hHeld ⊢
  refine pure_ (i := 0) (N := some 33) (v := ?_) (a' := ?_) #[true, false, false, false, false, false, false, false, false, false, false, false, false, false, false, false, false, false, false, false, false, false, false, false, false, false, false, false, false, false, false, false, false, false, false, false, false, false, false, false, false, false, false, false, false, false, false, false, false, false, false, false, false, false, false, false, false, false, false, false, false, false, false, false, false, false, false, false, false, false, false, false, false, false] rfl rfl (any_of HT_.out (by kernel_rfl)) (fun _ _ _ h => h) (Or.inl ⟨by rfl, ?_⟩) ?_ ?_
  rotate_left
  · intro w'
    go_simp
    with_reducible rfl
  rotate_left
  · simp only [Act.put, List.setIfInBounds_toArray, List.set_cons_zero, List.set_cons_succ, i64_w, i32_w]
    rfl
  refine pure_ (i := 1) (N := some 34) (v := ?_) (a' := ?_) #[true, true, false, false, false, false, false, false, false, false, false, false, false, false, false, false, false, false, false, false, false, false, false, false, false, false, false, false, false, false, false, false, false, false, false, false, false, false, false, false, false, false, false, false, false, false, false, false, false, false, false, false, false, false, false, false, false, false, false, false, false, false, false, false, false, false, false, false, false, false, false, false, false, false] rfl rfl (any_of HT_.out (by kernel_rfl)) (fun _ _ _ h => h) (Or.inl ⟨by rfl, ?_⟩) ?_ ?_
  rotate_left
  · intro w'
    go_simp
    with_reducible rfl
  rotate_left
  · simp only [Act.put, List.setIfInBounds_toArray, List.set_cons_zero, List.set_cons_succ, i64_w, i32_w]
    rfl
  refine pure_ (i := 2) (N := some 35) (v := ?_) (a' := ?_) #[true, true, true, false, false, false, false, false, false, false, false, false, false, false, false, false, false, false, false, false, false, false, false, false, false, false, false, false, false, false, false, false, false, false, false, false, false, false, false, false, false, false, false, false, false, false, false, false, false, false, false, false, false, false, false, false, false, false, false, false, false, false, false, false, false, false, false, false, false, false, false, false, false, false] rfl rfl (any_of HT_.out (by kernel_rfl)) (fun _ _ _ h => h) (Or.inl ⟨by rfl, ?_⟩) ?_ ?_
  rotate_left
  · intro w'
    go_simp
    with_reducible rfl
  rotate_left
  · simp only [Act.put, List.setIfInBounds_toArray, List.set_cons_zero, List.set_cons_succ, i64_w, i32_w]
    rfl
  refine pure_ (i := 3) (N := some 36) (v := ?_) (a' := ?_) #[true, true, true, true, false, false, false, false, false, false, false, false, false, false, false, false, false, false, false, false, false, false, false, false, false, false, false, false, false, false, false, false, false, false, false, false, false, false, false, false, false, false, false, false, false, false, false, false, false, false, false, false, false, false, false, false, false, false, false, false, false, false, false, false, false, false, false, false, false, false, false, false, false, false] rfl rfl (any_of HT_.out (by kernel_rfl)) (fun _ _ _ h => h) (Or.inl ⟨by rfl, ?_⟩) ?_ ?_
  rotate_left
  · intro w'
    go_simp
    with_reducible rfl
  rotate_left
  · simp only [Act.put, List.setIfInBounds_toArray, List.set_cons_zero, List.set_cons_succ, i64_w, i32_w]
    rfl
  refine pure_ (i := 4) (N := some 37) (v := ?_) (a' := ?_) #[true, true, true, true, true, false, false, false, false, false, false, false, false, false, false, false, false, false, false, false, false, false, false, false, false, false, false, false, false, false, false, false, false, false, false, false, false, false, false, false, false, false, false, false, false, false, false, false, false, false, false, false, false, false, false, false, false, false, false, false, false, false, false, false, false, false, false, false, false, false, false, false, false, false] rfl rfl (any_of HT_.out (by kernel_rfl)) (fun _ _ _ h => h) (Or.inl ⟨by rfl, ?_⟩) ?_ ?_
  rotate_left
  · intro w'
    go_simp
    with_reducible rfl
  rotate_left
  · simp only [Act.put, List.setIfInBounds_toArray, List.set_cons_zero, List.set_cons_succ, i64_w, i32_w]
    rfl
  refine pure_ (i := 5) (N := some 38) (v := ?_) (a' := ?_) #[true, true, true, true, true, true, false, false, false, false, false, false, false, false, false, false, false, false, false, false, false, false, false, false, false, false, false, false, false, false, false, false, false, false, false, false, false, false, false, false, false, false, false, false, false, false, false, false, false, false, false, false, false, false, false, false, false, false, false, false, false, false, false, false, false, false, false, false, false, false, false, false, false, false] rfl rfl (any_of HT_.out (by kernel_rfl)) (fun _ _ _ h => h) (Or.inl ⟨by rfl, ?_⟩) ?_ ?_
  rotate_left
  · intro w'
    go_simp
    with_reducible rfl
  rotate_left
  · simp only [Act.put, List.setIfInBounds_toArray, List.set_cons_zero, List.set_cons_succ, i64_w, i32_w]
    rfl
  refine pure_ (i := 6) (N := some 39) (v := ?_) (a' := ?_) #[true, true, true, true, true, true, true, false, false, false, false, false, false, false, false, false, false, false, false, false, false, false, false, false, false, false, false, false, false, false, false, false, false, false, false, false, false, false, false, false, false, false, false, false, false, false, false, false, false, false, false, false, false, false, false, false, false, false, false, false, false, false, false, false, false, false, false, false, false, false, false, false, false, false] rfl rfl (any_of HT_.out (by kernel_rfl)) (fun _ _ _ h => h) (Or.inl ⟨by rfl, ?_⟩) ?_ ?_
  rotate_left
  · intro w'
    go_simp
    with_reducible rfl
  rotate_left
  · simp only [Act.put, List.setIfInBounds_toArray, List.set_cons_zero, List.set_cons_succ, i64_w, i32_w]
    rfl
  refine take_ (i := 8) (N := some 41) (v := ?_) (a' := ?_) #[true, true, true, true, true, true, true, false, true, false, false, false, false, false, false, false, false, false, false, false, false, false, false, false, false, false, false, false, false, false, false, false, false, false, false, false, false, false, false, false, false, false, false, false, false, false, false, false, false, false, false, false, false, false, false, false, false, false, false, false, false, false, false, false, false, false, false, false, false, false, false, false, false, false] rfl rfl (take_ofW HT_.out HW_.out (by kernel_rfl)) (fun _ _ _ h => h) (Or.inl ⟨by rfl, ?_⟩) hHeld ?_ ?_
  rotate_left
  · intro w' s0
    go_simp
    with_reducible rfl
  rotate_left
  · simp only [Act.put, List.setIfInBounds_toArray, List.set_cons_zero, List.set_cons_succ, i64_w, i32_w]
    rfl
  refine take_ (i := 9) (N := some 42) (v := ?_) (a' := ?_) #[true, true, true, true, true, true, true, false, true, true, false, false, false, false, false, false, false, false, false, false, false, false, false, false, false, false, false, false, false, false, false, false, false, false, false, false, false, false, false, false, false, false, false, false, false, false, false, false, false, false, false, false, false, false, false, false, false, false, false, false, false, false, false, false, false, false, false, false, false, false, false, false, false, false] rfl rfl (take_ofW HT_.out HW_.out (by kernel_rfl)) (fun _ _ _ h => h) (Or.inl ⟨by rfl, ?_⟩) hHeld ?_ ?_
  rotate_left
  · intro w' s0
    go_simp
    with_reducible rfl
  rotate_left
  · simp only [Act.put, List.setIfInBounds_toArray, List.set_cons_zero, List.set_cons_succ, i64_w, i32_w]
    rfl
  refine one_ (i := 7) (N := some 40) #[true, true, true, true, true, true, true, true, true, true, false, false, false, false, false, false, false, false, false, false, false, false, false, false, false, false, false, false, false, false, false, false, false, false, false, false, false, false, false, false, false, false, false, false, false, false, false, false, false, false, false, false, false, false, false, false, false, false, false, false, false, false, false, false, false, false, false, false, false, false, false, false, false, false] rfl rfl (one_of HT_.out (by kernel_rfl)) (by decide) (fun K hK => ?_)
  refine goes_ Try.func58 (by kernel_rfl) rfl #[.int .i64 5, .int .i64 6] (by rfl) rfl rfl (by (try simp only [List.map_toArray, List.map_cons, List.map_nil]); first | done | rfl) ?_
  refine (ref_frac_q (x := 5) (y := 6) V0 (by decide) (by decide) (by decide) (by decide)).mono ?_
  rintro e V1 ⟨f7, rfl, hQ, hB⟩
  refine ⟨_, rfl, ?_⟩
  have HQ7 := Aside0.mk hQ
  clear hQ
  have hb1 := Aside0.mk (below_step hb0.out hB)
  clear hB hb0
  refine hK.out _ _ ((HF.out _ hb1.out).1) (fun hHeld => ?_)
  clear hK K
  refine norm_ (a' := ?_) ?_ ?_
  rotate_left
  · show Act.put _ (some 40) _ = _
    simp only [Act.put, List.setIfInBounds_toArray, List.set_cons_zero, List.set_cons_succ, i64_w, i32_w]
    rfl
  refine one_ (i := 10) (N := some 43) #[true, true, true, true, true, true, true, true, true, true, true, false, false, false, false, false, false, false, false, false, false, false, false, false, false, false, false, false, false, false, false, false, false, false, false, false, false, false, false, false, false, false, false, false, false, false, false, false, false, false, false, false, false, false, false, false, false, false, false, false, false, false, false, false, false, false, false, false, false, false, false, false, false, false] rfl rfl (one_of HT_.out (by kernel_rfl)) (by decide) (fun K hK => ?_)
  refine goes_ Try.func31 (by kernel_rfl) rfl #[.agg #[.bool H.1, .slice AH1 (dg B32 H.2.1).length cH1, .slice AH2 (dg B32 H.2.2).length cH2], .agg #[.bool T.1, .slice AT1 (dg B32 T.2.1).length cT1, .slice AT2 (dg B32 T.2.2).length cT2]] (by rfl) rfl rfl (by (try simp only [List.map_toArray, List.map_cons, List.map_nil]); first | done | rfl) ?_
  refine (addR_d (HF.out _ hb1.out).2.1 (HF.out _ hb1.out).2.2.1 KH.out.1 KT.out.1 KH.out.2 KT.out.2).mono ?_
  rintro e V2 ⟨z10, rfl, hR, hB⟩
  refine ⟨_, rfl, ?_⟩
  have HR10 := Aside0.mk hR
  have HQ7b := Aside0.mk (HQ7.out.below hB)
  clear hR HQ7
  have hb2 := Aside0.mk (below_step hb1.out hB)
  clear hB hb1
  refine hK.out _ _ ((HF.out _ hb2.out).1) (fun hHeld => ?_)
  clear hK K
  refine norm_ (a' := ?_) ?_ ?_
  rotate_left
  · show Act.put _ (some 43) _ = _
    simp only [Act.put, List.setIfInBounds_toArray, List.set_cons_zero, List.set_cons_succ, i64_w, i32_w]
    rfl
  refine one_ (i := 11) (N := some 44) #[true, true, true, true, true, true, true, true, true, true, true, true, false, false, false, false, false, false, false, false, false, false, false, false, false, false, false, false, false, false, false, false, false, false, false, false, false, false, false, false, false, false, false, false, false, false, false, false, false, false, false, false, false, false, false, false, false, false, false, false, false, false, false, false, false, false, false, false, false, false, false, false, false, false] rfl rfl (one_of HT_.out (by kernel_rfl)) (by decide) (fun K hK => ?_)
  refine goes_ Try.func20 (by kernel_rfl) rfl #[f7, z10] (by rfl) rfl rfl (by (try simp only [List.map_toArray, List.map_cons, List.map_nil]); first | done | rfl) ?_
  refine (ref_is_same HQ7b.out HR10.out (by rw [EH.out, ET.out]; exact okQ_small (by decide) (by decide)) (by rw [EH.out, ET.out]; decide)).mono ?_
  rintro e V3 ⟨rfl, hB⟩
  refine ⟨_, rfl, ?_⟩
  clear HQ7b HR10
  have hb3 := Aside0.mk (below_step hb2.out hB)
  clear hB hb2
  refine hK.out _ _ ((HF.out _ hb3.out).1) (fun hHeld => ?_)
  clear hK K
  refine norm_ (a' := ?_) ?_ ?_
  rotate_left
  · show Act.put _ (some 44) _ = _
    simp only [Act.put, List.setIfInBounds_toArray, List.set_cons_zero, List.set_cons_succ, i64_w, i32_w]
    rfl
  refine pure_ (i := 12) (N := some 45) (v := ?_) (a' := ?_) #[true, true, true, true, true, true, true, true, true, true, true, true, true, false, false, false, false, false, false, false, false, false, false, false, false, false, false, false, false, false, false, false, false, false, false, false, false, false, false, false, false, false, false, false, false, false, false, false, false, false, false, false, false, false, false, false, false, false, false, false, false, false, false, false, false, false, false, false, false, false, false, false, false, false] rfl rfl (any_of HT_.out (by kernel_rfl)) (fun _ _ _ h => h) (Or.inl ⟨by rfl, ?_⟩) ?_ ?_
  rotate_left
  · intro w'
    go_simp
    with_reducible rfl
  rotate_left
  · simp only [Act.put, List.setIfInBounds_toArray, List.set_cons_zero, List.set_cons_succ, i64_w, i32_w]
    rfl
  refine pure_ (i := 13) (N := some 46) (v := ?_) (a' := ?_) #[true, true, true, true, true, true, true, true, true, true, true, true, true, true, false, false, false, false, false, false, false, false, false, false, false, false, false, false, false, false, false, false, false, false, false, false, false, false, false, false, false, false, false, false, false, false, false, false, false, false, false, false, false, false, false, false, false, false, false, false, false, false, false, false, false, false, false, false, false, false, false, false, false, false] rfl rfl (any_of HT_.out (by kernel_rfl)) (fun _ _ _ h => h) (Or.inl ⟨by rfl, ?_⟩) ?_ ?_
  rotate_left
  · intro w'
    go_simp
    with_reducible rfl
  rotate_left
  · simp only [Act.put, List.setIfInBounds_toArray, List.set_cons_zero, List.set_cons_succ, i64_w, i32_w]
    rfl
  refine take_ (i := 15) (N := some 48) (v := ?_) (a' := ?_) #[true, true, true, true, true, true, true, true, true, true, true, true, true, true, false, true, false, false, false, false, false, false, false, false, false, false, false, false, false, false, false, false, false, false, false, false, false, false, false, false, false, false, false, false, false, false, false, false, false, false, false, false, false, false, false, false, false, false, false, false, false, false, false, false, false, false, false, false, false, false, false, false, false, false] rfl rfl (take_ofW HT_.out HW_.out (by kernel_rfl)) (fun _ _ _ h => h) (Or.inl ⟨by rfl, ?_⟩) hHeld ?_ ?_
  rotate_left
  · intro w' s0
    go_simp
    with_reducible rfl
  rotate_left
  · simp only [Act.put, List.setIfInBounds_toArray, List.set_cons_zero, List.set_cons_succ, i64_w, i32_w]
    rfl
  refine take_ (i := 16) (N := some 49) (v := ?_) (a' := ?_) #[true, true, true, true, true, true, true, true, true, true, true, true, true, true, false, true, true, false, false, false, false, false, false, false, false, false, false, false, false, false, false, false, false, false, false, false, false, false, false, false, false, false, false, false, false, false, false, false, false, false, false, false, false, false, false, false, false, false, false, false, false, false, false, false, false, false, false, false, false, false, false, false, false, false] rfl rfl (take_ofW HT_.out HW_.out (by kernel_rfl)) (fun _ _ _ h => h) (Or.inl ⟨by rfl, ?_⟩) hHeld ?_ ?_
  rotate_left
  · intro w' s0
    go_simp
    with_reducible rfl
  rotate_left
  · simp only [Act.put, List.setIfInBounds_toArray, List.set_cons_zero, List.set_cons_succ, i64_w, i32_w]
    rfl
  refine one_ (i := 14) (N := some 47) #[true, true, true, true, true, true, true, true, true, true, true, true, true, true, true, true, true, false, false, false, false, false, false, false, false, false, false, false, false, false, false, false, false, false, false, false, false, false, false, false, false, false, false, false, false, false, false, false, false, false, false, false, false, false, false, false, false, false, false, false, false, false, false, false, false, false, false, false, false, false, false, false, false, false] rfl rfl (one_of HT_.out (by kernel_rfl)) (by decide) (fun K hK => ?_)
  refine goes_ Try.func58 (by kernel_rfl) rfl #[.int .i64 1, .int .i64 6] (by rfl) rfl rfl (by (try simp only [List.map_toArray, List.map_cons, List.map_nil]); first | done | rfl) ?_
  refine (ref_frac_q (x := 1) (y := 6) V3 (by decide) (by decide) (by decide) (by decide)).mono ?_
  rintro e V4 ⟨f14, rfl, hQ, hB⟩
  refine ⟨_, rfl, ?_⟩
  have HQ14 := Aside0.mk hQ
  clear hQ
  have hb4 := Aside0.mk (below_step hb3.out hB)
  clear hB hb3
  refine hK.out _ _ ((HF.out _ hb4.out).1) (fun hHeld => ?_)
  clear hK K
  refine norm_ (a' := ?_) ?_ ?_
  rotate_left
  · show Act.put _ (some 47) _ = _
    simp only [Act.put, List.setIfInBounds_toArray, List.set_cons_zero, List.set_cons_succ, i64_w, i32_w]
    rfl
  refine one_ (i := 17) (N := some 50) #[true, true, true, true, true, true, true, true, true, true, true, true, true, true, true, true, true, true, false, false, false, false, false, false, false, false, false, false, false, false, false, false, false, false, false, false, false, false, false, false, false, false, false, false, false, false, false, false, false, false, false, false, false, false, false, false, false, false, false, false, false, false, false, false, false, false, false, false, false, false, false, false, false, false] rfl rfl (one_of HT_.out (by kernel_rfl)) (by decide) (fun K hK => ?_)
  refine goes_ Try.func33 (by kernel_rfl) rfl #[.agg #[.bool H.1, .slice AH1 (dg B32 H.2.1).length cH1, .slice AH2 (dg B32 H.2.2).length cH2], .agg #[.bool T.1, .slice AT1 (dg B32 T.2.1).length cT1, .slice AT2 (dg B32 T.2.2).length cT2]] (by rfl) rfl rfl (by (try simp only [List.map_toArray, List.map_cons, List.map_nil]); first | done | rfl) ?_
  refine (subR_d (HF.out _ hb4.out).2.1 (HF.out _ hb4.out).2.2.1 KH.out.1 KT.out.1 KH.out.2 KT.out.2).mono ?_
  rintro e V5 ⟨z17, rfl, hR, hB⟩
  refine ⟨_, rfl, ?_⟩
  have HR17 := Aside0.mk hR
  have HQ14b := Aside0.mk (HQ14.out.below hB)
  clear hR HQ14
  have hb5 := Aside0.mk (below_step hb4.out hB)
  clear hB hb4
  refine hK.out _ _ ((HF.out _ hb5.out).1) (fun hHeld => ?_)
  clear hK K
  refine norm_ (a' := ?_) ?_ ?_
  rotate_left
  · show Act.put _ (some 50) _ = _
    simp only [Act.put, List.setIfInBounds_toArray, List.set_cons_zero, List.set_cons_succ, i64_w, i32_w]
    rfl
  refine one_ (i := 18) (N := some 51) #[true, true, true, true, true, true, true, true, true, true, true, true, true, true, true, true, true, true, true, false, false, false, false, false, false, false, false, false, false, false, false, false, false, false, false, false, false, false, false, false, false, false, false, false, false, false, false, false, false, false, false, false, false, false, false, false, false, false, false, false, false, false, false, false, false, false, false, false, false, false, false, false, false, false] rfl rfl (one_of HT_.out (by kernel_rfl)) (by decide) (fun K hK => ?_)
  refine goes_ Try.func20 (by kernel_rfl) rfl #[f14, z17] (by rfl) rfl rfl (by (try simp only [List.map_toArray, List.map_cons, List.map_nil]); first | done | rfl) ?_
  refine (ref_is_same HQ14b.out HR17.out (by rw [EH.out, ET.out]; exact okQ_small (by decide) (by decide)) (by rw [EH.out, ET.out]; decide)).mono ?_
  rintro e V6 ⟨rfl, hB⟩
  refine ⟨_, rfl, ?_⟩
  clear HQ14b HR17
  have hb6 := Aside0.mk (below_step hb5.out hB)
  clear hB hb5
  refine hK.out _ _ ((HF.out _ hb6.out).1) (fun hHeld => ?_)
  clear hK K
  refine norm_ (a' := ?_) ?_ ?_
  rotate_left
  · show Act.put _ (some 51) _ = _
    simp only [Act.put, List.setIfInBounds_toArray, List.set_cons_zero, List.set_cons_succ, i64_w, i32_w]
    rfl
  refine pure_ (i := 19) (N := some 52) (v := ?_) (a' := ?_) #[true, true, true, true, true, true, true, true, true, true, true, true, true, true, true, true, true, true, true, true, false, false, false, false, false, false, false, false, false, false, false, false, false, false, false, false, false, false, false, false, false, false, false, false, false, false, false, false, false, false, false, false, false, false, false, false, false, false, false, false, false, false, false, false, false, false, false, false, false, false, false, false, false, false] rfl rfl (any_of HT_.out (by kernel_rfl)) (fun _ _ _ h => h) (Or.inl ⟨by rfl, ?_⟩) ?_ ?_
  rotate_left
  · intro w'
    go_simp
    with_reducible rfl
  rotate_left
  · simp only [Act.put, List.setIfInBounds_toArray, List.set_cons_zero, List.set_cons_succ, i64_w, i32_w]
    rfl
  refine pure_ (i := 20) (N := some 53) (v := ?_) (a' := ?_) #[true, true, true, true, true, true, true, true, true, true, true, true, true, true, true, true, true, true, true, true, true, false, false, false, false, false, false, false, false, false, false, false, false, false, false, false, false, false, false, false, false, false, false, false, false, false, false, false, false, false, false, false, false, false, false, false, false, false, false, false, false, false, false, false, false, false, false, false, false, false, false, false, false, false] rfl rfl (any_of HT_.out (by kernel_rfl)) (fun _ _ _ h => h) (Or.inl ⟨by rfl, ?_⟩) ?_ ?_
  rotate_left
  · intro w'
    go_simp
    with_reducible rfl
  rotate_left
  · simp only [Act.put, List.setIfInBounds_toArray, List.set_cons_zero, List.set_cons_succ, i64_w, i32_w]
    rfl
  refine take_ (i := 22) (N := some 55) (v := ?_) (a' := ?_) #[true, true, true, true, true, true, true, true, true, true, true, true, true, true, true, true, true, true, true, true, true, false, true, false, false, false, false, false, false, false, false, false, false, false, false, false, false, false, false, false, false, false, false, false, false, false, false, false, false, false, false, false, false, false, false, false, false, false, false, false, false, false, false, false, false, false, false, false, false, false, false, false, false, false] rfl rfl (take_ofW HT_.out HW_.out (by kernel_rfl)) (fun _ _ _ h => h) (Or.inl ⟨by rfl, ?_⟩) hHeld ?_ ?_
  rotate_left
  · intro w' s0
    go_simp
    with_reducible rfl
  rotate_left
  · simp only [Act.put, List.setIfInBounds_toArray, List.set_cons_zero, List.set_cons_succ, i64_w, i32_w]
    rfl
  refine take_ (i := 23) (N := some 56) (v := ?_) (a' := ?_) #[true, true, true, true, true, true, true, true, true, true, true, true, true, true, true, true, true, true, true, true, true, false, true, true, false, false, false, false, false, false, false, false, false, false, false, false, false, false, false, false, false, false, false, false, false, false, false, false, false, false, false, false, false, false, false, false, false, false, false, false, false, false, false, false, false, false, false, false, false, false, false, false, false, false] rfl rfl (take_ofW HT_.out HW_.out (by kernel_rfl)) (fun _ _ _ h => h) (Or.inl ⟨by rfl, ?_⟩) hHeld ?_ ?_
  rotate_left
  · intro w' s0
    go_simp
    with_reducible rfl
  rotate_left
  · simp only [Act.put, List.setIfInBounds_toArray, List.set_cons_zero, List.set_cons_succ, i64_w, i32_w]
    rfl
  refine one_ (i := 21) (N := some 54) #[true, true, true, true, true, true, true, true, true, true, true, true, true, true, true, true, true, true, true, true, true, true, true, true, false, false, false, false, false, false, false, false, false, false, false, false, false, false, false, false, false, false, false, false, false, false, false, false, false, false, false, false, false, false, false, false, false, false, false, false, false, false, false, false, false, false, false, false, false, false, false, false, false, false] rfl rfl (one_of HT_.out (by kernel_rfl)) (by decide) (fun K hK => ?_)
  refine goes_ Try.func58 (by kernel_rfl) rfl #[.int .i64 1, .int .i64 6] (by rfl) rfl rfl (by (try simp only [List.map_toArray, List.map_cons, List.map_nil]); first | done | rfl) ?_
  refine (ref_frac_q (x := 1) (y := 6) V6 (by decide) (by decide) (by decide) (by decide)).mono ?_
  rintro e V7 ⟨f21, rfl, hQ, hB⟩
  refine ⟨_, rfl, ?_⟩
  have HQ21 := Aside0.mk hQ
  clear hQ
  have hb7 := Aside0.mk (below_step hb6.out hB)
  clear hB hb6
  refine hK.out _ _ ((HF.out _ hb7.out).1) (fun hHeld => ?_)
  clear hK K
  refine norm_ (a' := ?_) ?_ ?_
  rotate_left
  · show Act.put _ (some 54) _ = _
    simp only [Act.put, List.setIfInBounds_toArray, List.set_cons_zero, List.set_cons_succ, i64_w, i32_w]
    rfl
  refine one_ (i := 24) (N := some 57) #[true, true, true, true, true, true, true, true, true, true, true, true, true, true, true, true, true, true, true, true, true, true, true, true, true, false, false, false, false, false, false, false, false, false, false, false, false, false, false, false, false, false, false, false, false, false, false, false, false, false, false, false, false, false, false, false, false, false, false, false, false, false, false, false, false, false, false, false, false, false, false, false, false, false] rfl rfl (one_of HT_.out (by kernel_rfl)) (by decide) (fun K hK => ?_)
  refine goes_ Try.func35 (by kernel_rfl) rfl #[.agg #[.bool H.1, .slice AH1 (dg B32 H.2.1).length cH1, .slice AH2 (dg B32 H.2.2).length cH2], .agg #[.bool T.1, .slice AT1 (dg B32 T.2.1).length cT1, .slice AT2 (dg B32 T.2.2).length cT2]] (by rfl) rfl rfl (by (try simp only [List.map_toArray, List.map_cons, List.map_nil]); first | done | rfl) ?_
  refine (mulR_d (HF.out _ hb7.out).2.1 (HF.out _ hb7.out).2.2.1 KH.out.1 KT.out.1 KH.out.2 KT.out.2).mono ?_
  rintro e V8 ⟨z24, rfl, hR, hB⟩
  refine ⟨_, rfl, ?_⟩
  have HR24 := Aside0.mk hR
  have HQ21b := Aside0.mk (HQ21.out.below hB)
  clear hR HQ21
  have hb8 := Aside0.mk (below_step hb7.out hB)
  clear hB hb7
  refine hK.out _ _ ((HF.out _ hb8.out).1) (fun hHeld => ?_)
  clear hK K
  refine norm_ (a' := ?_) ?_ ?_
  rotate_left
  · show Act.put _ (some 57) _ = _
    simp only [Act.put, List.setIfInBounds_toArray, List.set_cons_zero, List.set_cons_succ, i64_w, i32_w]
    rfl
  refine one_ (i := 25) (N := some 58) #[true, true, true, true, true, true, true, true, true, true, true, true, true, true, true, true, true, true, true, true, true, true, true, true, true, true, false, false, false, false, false, false, false, false, false, false, false, false, false, false, false, false, false, false, false, false, false, false, false, false, false, false, false, false, false, false, false, false, false, false, false, false, false, false, false, false, false, false, false, false, false, false, false, false] rfl rfl (one_of HT_.out (by kernel_rfl)) (by decide) (fun K hK => ?_)
  refine goes_ Try.func20 (by kernel_rfl) rfl #[f21, z24] (by rfl) rfl rfl (by (try simp only [List.map_toArray, List.map_cons, List.map_nil]); first | done | rfl) ?_
  refine (ref_is_same HQ21b.out HR24.out (by rw [EH.out, ET.out]; exact okQ_small (by decide) (by decide)) (by rw [EH.out, ET.out]; decide)).mono ?_
  rintro e V9 ⟨rfl, hB⟩
  refine ⟨_, rfl, ?_⟩
  clear HQ21b HR24
  have hb9 := Aside0.mk (below_step hb8.out hB)
  clear hB hb8
  refine hK.out _ _ ((HF.out _ hb9.out).1) (fun hHeld => ?_)
  clear hK K
  refine norm_ (a' := ?_) ?_ ?_
  rotate_left
  · show Act.put _ (some 58) _ = _
    simp only [Act.put, List.setIfInBounds_toArray, List.set_cons_zero, List.set_cons_succ, i64_w, i32_w]
    rfl
  refine pure_ (i := 26) (N := some 59) (v := ?_) (a' := ?_) #[true, true, true, true, true, true, true, true, true, true, true, true, true, true, true, true, true, true, true, true, true, true, true, true, true, true, true, false, false, false, false, false, false, false, false, false, false, false, false, false, false, false, false, false, false, false, false, false, false, false, false, false, false, false, false, false, false, false, false, false, false, false, false, false, false, false, false, false, false, false, false, false, false, false] rfl rfl (any_of HT_.out (by kernel_rfl)) (fun _ _ _ h => h) (Or.inl ⟨by rfl, ?_⟩) ?_ ?_
  rotate_left
  · intro w'
    go_simp
    with_reducible rfl
  rotate_left
  · simp only [Act.put, List.setIfInBounds_toArray, List.set_cons_zero, List.set_cons_succ, i64_w, i32_w]
    rfl
  refine pure_ (i := 27) (N := some 60) (v := ?_) (a' := ?_) #[true, true, true, true, true, true, true, true, true, true, true, true, true, true, true, true, true, true, true, true, true, true, true, true, true, true, true, true, false, false, false, false, false, false, false, false, false, false, false, false, false, false, false, false, false, false, false, false, false, false, false, false, false, false, false, false, false, false, false, false, false, false, false, false, false, false, false, false, false, false, false, false, false, false] rfl rfl (any_of HT_.out (by kernel_rfl)) (fun _ _ _ h => h) (Or.inl ⟨by rfl, ?_⟩) ?_ ?_
  rotate_left
  · intro w'
    go_simp
    with_reducible rfl
  rotate_left
  · simp only [Act.put, List.setIfInBounds_toArray, List.set_cons_zero, List.set_cons_succ, i64_w, i32_w]
    rfl
  refine pure_ (i := 28) (N := some 61) (v := ?_) (a' := ?_) #[true, true, true, true, true, true, true, true, true, true, true, true, true, true, true, true, true, true, true, true, true, true, true, true, true, true, true, true, true, false, false, false, false, false, false, false, false, false, false, false, false, false, false, false, false, false, false, false, false, false, false, false, false, false, false, false, false, false, false, false, false, false, false, false, false, false, false, false, false, false, false, false, false, false] rfl rfl (any_of HT_.out (by kernel_rfl)) (fun _ _ _ h => h) (Or.inl ⟨by rfl, ?_⟩) ?_ ?_
  rotate_left
  · intro w'
    go_simp
    with_reducible rfl
  rotate_left
  · simp only [Act.put, List.setIfInBounds_toArray, List.set_cons_zero, List.set_cons_succ, i64_w, i32_w]
    rfl
  refine pure_ (i := 29) (N := some 62) (v := ?_) (a' := ?_) #[true, true, true, true, true, true, true, true, true, true, true, true, true, true, true, true, true, true, true, true, true, true, true, true, true, true, true, true, true, true, false, false, false, false, false, false, false, false, false, false, false, false, false, false, false, false, false, false, false, false, false, false, false, false, false, false, false, false, false, false, false, false, false, false, false, false, false, false, false, false, false, false, false, false] rfl rfl (any_of HT_.out (by kernel_rfl)) (fun _ _ _ h => h) (Or.inl ⟨by rfl, ?_⟩) ?_ ?_
  rotate_left
  · intro w'
    go_simp
    with_reducible rfl
  rotate_left
  · simp only [Act.put, List.setIfInBounds_toArray, List.set_cons_zero, List.set_cons_succ, i64_w, i32_w]
    rfl
  refine pure_ (i := 30) (N := some 63) (v := ?_) (a' := ?_) #[true, true, true, true, true, true, true, true, true, true, true, true, true, true, true, true, true, true, true, true, true, true, true, true, true, true, true, true, true, true, true, false, false, false, false, false, false, false, false, false, false, false, false, false, false, false, false, false, false, false, false, false, false, false, false, false, false, false, false, false, false, false, false, false, false, false, false, false, false, false, false, false, false, false] rfl rfl (any_of HT_.out (by kernel_rfl)) (fun _ _ _ h => h) (Or.inl ⟨by rfl, ?_⟩) ?_ ?_
  rotate_left
  · intro w'
    go_simp
    with_reducible rfl
  rotate_left
  · simp only [Act.put, List.setIfInBounds_toArray, List.set_cons_zero, List.set_cons_succ, i64_w, i32_w]
    rfl
  refine pure_ (i := 31) (N := some 64) (v := ?_) (a' := ?_) #[true, true, true, true, true, true, true, true, true, true, true, true, true, true, true, true, true, true, true, true, true, true, true, true, true, true, true, true, true, true, true, true, false, false, false, false, false, false, false, false, false, false, false, false, false, false, false, false, false, false, false, false, false, false, false, false, false, false, false, false, false, false, false, false, false, false, false, false, false, false, false, false, false, false] rfl rfl (any_of HT_.out (by kernel_rfl)) (fun _ _ _ h => h) (Or.inl ⟨by rfl, ?_⟩) ?_ ?_
  rotate_left
  · intro w'
    go_simp
    with_reducible rfl
  rotate_left
  · simp only [Act.put, List.setIfInBounds_toArray, List.set_cons_zero, List.set_cons_succ, i64_w, i32_w]
    rfl
  refine take_ (i := 33) (N := some 66) (v := ?_) (a' := ?_) #[true, true, true, true, true, true, true, true, true, true, true, true, true, true, true, true, true, true, true, true, true, true, true, true, true, true, true, true, true, true, true, true, false, true, false, false, false, false, false, false, false, false, false, false, false, false, false, false, false, false, false, false, false, false, false, false, false, false, false, false, false, false, false, false, false, false, false, false, false, false, false, false, false, false] rfl rfl (take_ofW HT_.out HW_.out (by kernel_rfl)) (fun _ _ _ h => h) (Or.inl ⟨by rfl, ?_⟩) hHeld ?_ ?_
  rotate_left
  · intro w' s0
    go_simp
    with_reducible rfl
  rotate_left
  · simp only [Act.put, List.setIfInBounds_toArray, List.set_cons_zero, List.set_cons_succ, i64_w, i32_w]
    rfl
  refine one_ (i := 32) (N := some 65) #[true, true, true, true, true, true, true, true, true, true, true, true, true, true, true, true, true, true, true, true, true, true, true, true, true, true, true, true, true, true, true, true, true, true, false, false, false, false, false, false, false, false, false, false, false, false, false, false, false, false, false, false, false, false, false, false, false, false, false, false, false, false, false, false, false, false, false, false, false, false, false, false, false, false] rfl rfl (one_of HT_.out (by kernel_rfl)) (by decide) (fun K hK => ?_)
  refine goes_ Try.func58 (by kernel_rfl) rfl #[.int .i64 3, .int .i64 2] (by rfl) rfl rfl (by (try simp only [List.map_toArray, List.map_cons, List.map_nil]); first | done | rfl) ?_
  refine (ref_frac_q (x := 3) (y := 2) V9 (by decide) (by decide) (by decide) (by decide)).mono ?_
  rintro e V10 ⟨f32, rfl, hQ, hB⟩
  refine ⟨_, rfl, ?_⟩
  have HQ32 := Aside0.mk hQ
  clear hQ
  have hb10 := Aside0.mk (below_step hb9.out hB)
  clear hB hb9
  refine hK.out _ _ ((HF.out _ hb10.out).1) (fun hHeld => ?_)
  clear hK K
  refine norm_ (a' := ?_) ?_ ?_
  rotate_left
  · show Act.put _ (some 65) _ = _
    simp only [Act.put, List.setIfInBounds_toArray, List.set_cons_zero, List.set_cons_succ, i64_w, i32_w]
    rfl
  refine one_ (i := 34) (N := some 67) #[true, true, true, true, true, true, true, true, true, true, true, true, true, true, true, true, true, true, true, true, true, true, true, true, true, true, true, true, true, true, true, true, true, true, true, false, false, false, false, false, false, false, false, false, false, false, false, false, false, false, false, false, false, false, false, false, false, false, false, false, false, false, false, false, false, false, false, false, false, false, false, false, false, false] rfl rfl (one_of HT_.out (by kernel_rfl)) (by decide) (fun K hK => ?_)
  refine goes_ Try.func20 (by kernel_rfl) rfl #[f32, .agg #[.bool Q.1, .slice AQ1 (dg B32 Q.2.1).length cQ1, .slice AQ2 (dg B32 Q.2.2).length cQ2]] (by rfl) rfl rfl (by (try simp only [List.map_toArray, List.map_cons, List.map_nil]); first | done | rfl) ?_
  refine (ref_is_same HQ32.out (HF.out _ hb10.out).2.2.2.1 KQ.out.2 (by rw [EQ.out]; decide)).mono ?_
  rintro e V11 ⟨rfl, hB⟩
  refine ⟨_, rfl, ?_⟩
  clear HQ32
  have hb11 := Aside0.mk (below_step hb10.out hB)
  clear hB hb10
  refine hK.out _ _ ((HF.out _ hb11.out).1) (fun hHeld => ?_)
  clear hK K
  refine norm_ (a' := ?_) ?_ ?_
  rotate_left
  · show Act.put _ (some 67) _ = _
    simp only [Act.put, List.setIfInBounds_toArray, List.set_cons_zero, List.set_cons_succ, i64_w, i32_w]
    rfl
  refine pure_ (i := 35) (N := some 68) (v := ?_) (a' := ?_) #[true, true, true, true, true, true, true, true, true, true, true, true, true, true, true, true, true, true, true, true, true, true, true, true, true, true, true, true, true, true, true, true, true, true, true, true, false, false, false, false, false, false, false, false, false, false, false, false, false, false, false, false, false, false, false, false, false, false, false, false, false, false, false, false, false, false, false, false, false, false, false, false, false, false] rfl rfl (any_of HT_.out (by kernel_rfl)) (fun _ _ _ h => h) (Or.inl ⟨by rfl, ?_⟩) ?_ ?_
  rotate_left
  · intro w'
    go_simp
    with_reducible rfl
  rotate_left
  · simp only [Act.put, List.setIfInBounds_toArray, List.set_cons_zero, List.set_cons_succ, i64_w, i32_w]
    rfl
  refine pure_ (i := 36) (N := some 69) (v := ?_) (a' := ?_) #[true, true, true, true, true, true, true, true, true, true, true, true, true, true, true, true, true, true, true, true, true, true, true, true, true, true, true, true, true, true, true, true, true, true, true, true, true, false, false, false, false, false, false, false, false, false, false, false, false, false, false, false, false, false, false, false, false, false, false, false, false, false, false, false, false, false, false, false, false, false, false, false, false, false] rfl rfl (any_of HT_.out (by kernel_rfl)) (fun _ _ _ h => h) (Or.inl ⟨by rfl, ?_⟩) ?_ ?_
  rotate_left
  · intro w'
    go_simp
    with_reducible rfl
  rotate_left
  · simp only [Act.put, List.setIfInBounds_toArray, List.set_cons_zero, List.set_cons_succ, i64_w, i32_w]
    rfl
  refine pure_ (i := 37) (N := some 70) (v := ?_) (a' := ?_) #[true, true, true, true, true, true, true, true, true, true, true, true, true, true, true, true, true, true, true, true, true, true, true, true, true, true, true, true, true, true, true, true, true, true, true, true, true, true, false, false, false, false, false, false, false, false, false, false, false, false, false, false, false, false, false, false, false, false, false, false, false, false, false, false, false, false, false, false, false, false, false, false, false, false] rfl rfl (any_of HT_.out (by kernel_rfl)) (fun _ _ _ h => h) (Or.inl ⟨by rfl, ?_⟩) ?_ ?_
  rotate_left
  · intro w'
    go_simp
    with_reducible rfl
  rotate_left
  · simp only [Act.put, List.setIfInBounds_toArray, List.set_cons_zero, List.set_cons_succ, i64_w, i32_w]
    rfl
  refine pure_ (i := 38) (N := some 71) (v := ?_) (a' := ?_) #[true, true, true, true, true, true, true, true, true, true, true, true, true, true, true, true, true, true, true, true, true, true, true, true, true, true, true, true, true, true, true, true, true, true, true, true, true, true, true, false, false, false, false, false, false, false, false, false, false, false, false, false, false, false, false, false, false, false, false, false, false, false, false, false, false, false, false, false, false, false, false, false, false, false] rfl rfl (any_of HT_.out (by kernel_rfl)) (fun _ _ _ h => h) (Or.inl ⟨by rfl, ?_⟩) ?_ ?_
  rotate_left
  · intro w'
    go_simp
    with_reducible rfl
  rotate_left
  · simp only [Act.put, List.setIfInBounds_toArray, List.set_cons_zero, List.set_cons_succ, i64_w, i32_w]
    rfl
  refine pure_ (i := 39) (N := some 72) (v := ?_) (a' := ?_) #[true, true, true, true, true, true, true, true, true, true, true, true, true, true, true, true, true, true, true, true, true, true, true, true, true, true, true, true, true, true, true, true, true, true, true, true, true, true, true, true, false, false, false, false, false, false, false, false, false, false, false, false, false, false, false, false, false, false, false, false, false, false, false, false, false, false, false, false, false, false, false, false, false, false] rfl rfl (any_of HT_.out (by kernel_rfl)) (fun _ _ _ h => h) (Or.inl ⟨by rfl, ?_⟩) ?_ ?_
  rotate_left
  · intro w'
    go_simp
    with_reducible rfl
  rotate_left
  · simp only [Act.put, List.setIfInBounds_toArray, List.set_cons_zero, List.set_cons_succ, i64_w, i32_w]
    rfl
  refine pure_ (i := 40) (N := some 73) (v := ?_) (a' := ?_) #[true, true, true, true, true, true, true, true, true, true, true, true, true, true, true, true, true, true, true, true, true, true, true, true, true, true, true, true, true, true, true, true, true, true, true, true, true, true, true, true, true, false, false, false, false, false, false, false, false, false, false, false, false, false, false, false, false, false, false, false, false, false, false, false, false, false, false, false, false, false, false, false, false, false] rfl rfl (any_of HT_.out (by kernel_rfl)) (fun _ _ _ h => h) (Or.inl ⟨by rfl, ?_⟩) ?_ ?_
  rotate_left
  · intro w'
    go_simp
    with_reducible rfl
  rotate_left
  · simp only [Act.put, List.setIfInBounds_toArray, List.set_cons_zero, List.set_cons_succ, i64_w, i32_w]
    rfl
  refine take_ (i := 42) (N := some 75) (v := ?_) (a' := ?_) #[true, true, true, true, true, true, true, true, true, true, true, true, true, true, true, true, true, true, true, true, true, true, true, true, true, true, true, true, true, true, true, true, true, true, true, true, true, true, true, true, true, false, true, false, false, false, false, false, false, false, false, false, false, false, false, false, false, false, false, false, false, false, false, false, false, false, false, false, false, false, false, false, false, false] rfl rfl (take_ofW HT_.out HW_.out (by kernel_rfl)) (fun _ _ _ h => h) (Or.inl ⟨by rfl, ?_⟩) hHeld ?_ ?_
  rotate_left
  · intro w' s0
    go_simp
    with_reducible rfl
  rotate_left
  · simp only [Act.put, List.setIfInBounds_toArray, List.set_cons_zero, List.set_cons_succ, i64_w, i32_w]
    rfl
  refine one_ (i := 41) (N := some 74) #[true, true, true, true, true, true, true, true, true, true, true, true, true, true, true, true, true, true, true, true, true, true, true, true, true, true, true, true, true, true, true, true, true, true, true, true, true, true, true, true, true, true, true, false, false, false, false, false, false, false, false, false, false, false, false, false, false, false, false, false, false, false, false, false, false, false, false, false, false, false, false, false, false, false] rfl rfl (one_of HT_.out (by kernel_rfl)) (by decide) (fun K hK => ?_)
  refine goes_ Try.func58 (by kernel_rfl) rfl #[.int .i64 (-3), .int .i64 2] (by rfl) rfl rfl (by (try simp only [List.map_toArray, List.map_cons, List.map_nil]); first | done | rfl) ?_
  refine (ref_frac_q (x := -3) (y := 2) V11 (by decide) (by decide) (by decide) (by decide)).mono ?_
  rintro e V12 ⟨f41, rfl, hQ, hB⟩
  refine ⟨_, rfl, ?_⟩
  have HQ41 := Aside0.mk hQ
  clear hQ
  have hb12 := Aside0.mk (below_step hb11.out hB)
  clear hB hb11
  refine hK.out _ _ ((HF.out _ hb12.out).1) (fun hHeld => ?_)
  clear hK K
  refine norm_ (a' := ?_) ?_ ?_
  rotate_left
  · show Act.put _ (some 74) _ = _
    simp only [Act.put, List.setIfInBounds_toArray, List.set_cons_zero, List.set_cons_succ, i64_w, i32_w]
    rfl
  refine one_ (i := 43) (N := some 76) #[true, true, true, true, true, true, true, true, true, true, true, true, true, true, true, true, true, true, true, true, true, true, true, true, true, true, true, true, true, true, true, true, true, true, true, true, true, true, true, true, true, true, true, true, false, false, false, false, false, false, false, false, false, false, false, false, false, false, false, false, false, false, false, false, false, false, false, false, false, false, false, false, false, false] rfl rfl (one_of HT_.out (by kernel_rfl)) (by decide) (fun K hK => ?_)
  refine goes_ Try.func20 (by kernel_rfl) rfl #[f41, .agg #[.bool M.1, .slice AM1 (dg B32 M.2.1).length cM1, .slice AM2 (dg B32 M.2.2).length cM2]] (by rfl) rfl rfl (by (try simp only [List.map_toArray, List.map_cons, List.map_nil]); first | done | rfl) ?_
  refine (ref_is_same HQ41.out (HF.out _ hb12.out).2.2.2.2.1 KM.out.2 (by rw [EM.out]; decide)).mono ?_
  rintro e V13 ⟨rfl, hB⟩
  refine ⟨_, rfl, ?_⟩
  clear HQ41
  have hb13 := Aside0.mk (below_step hb12.out hB)
  clear hB hb12
  refine hK.out _ _ ((HF.out _ hb13.out).1) (fun hHeld => ?_)
  clear hK K
  refine norm_ (a' := ?_) ?_ ?_
  rotate_left
  · show Act.put _ (some 76) _ = _
    simp only [Act.put, List.setIfInBounds_toArray, List.set_cons_zero, List.set_cons_succ, i64_w, i32_w]
    rfl
  refine pure_ (i := 44) (N := some 77) (v := ?_) (a' := ?_) #[true, true, true, true, true, true, true, true, true, true, true, true, true, true, true, true, true, true, true, true, true, true, true, true, true, true, true, true, true, true, true, true, true, true, true, true, true, true, true, true, true, true, true, true, true, false, false, false, false, false, false, false, false, false, false, false, false, false, false, false, false, false, false, false, false, false, false, false, false, false, false, false, false, false] rfl rfl (any_of HT_.out (by kernel_rfl)) (fun _ _ _ h => h) (Or.inl ⟨by rfl, ?_⟩) ?_ ?_
  rotate_left
  · intro w'
    go_simp
    with_reducible rfl
  rotate_left
  · simp only [Act.put, List.setIfInBounds_toArray, List.set_cons_zero, List.set_cons_succ, i64_w, i32_w]
    rfl
  refine pure_ (i := 45) (N := some 78) (v := ?_) (a' := ?_) #[true, true, true, true, true, true, true, true, true, true, true, true, true, true, true, true, true, true, true, true, true, true, true, true, true, true, true, true, true, true, true, true, true, true, true, true, true, true, true, true, true, true, true, true, true, true, false, false, false, false, false, false, false, false, false, false, false, false, false, false, false, false, false, false, false, false, false, false, false, false, false, false, false, false] rfl rfl (any_of HT_.out (by kernel_rfl)) (fun _ _ _ h => h) (Or.inl ⟨by rfl, ?_⟩) ?_ ?_
  rotate_left
  · intro w'
    go_simp
    with_reducible rfl
  rotate_left
  · simp only [Act.put, List.setIfInBounds_toArray, List.set_cons_zero, List.set_cons_succ, i64_w, i32_w]
    rfl
  refine pure_ (i := 46) (N := some 79) (v := ?_) (a' := ?_) #[true, true, true, true, true, true, true, true, true, true, true, true, true, true, true, true, true, true, true, true, true, true, true, true, true, true, true, true, true, true, true, true, true, true, true, true, true, true, true, true, true, true, true, true, true, true, true, false, false, false, false, false, false, false, false, false, false, false, false, false, false, false, false, false, false, false, false, false, false, false, false, false, false, false] rfl rfl (any_of HT_.out (by kernel_rfl)) (fun _ _ _ h => h) (Or.inl ⟨by rfl, ?_⟩) ?_ ?_
  rotate_left
  · intro w'
    go_simp
    with_reducible rfl
  rotate_left
  · simp only [Act.put, List.setIfInBounds_toArray, List.set_cons_zero, List.set_cons_succ, i64_w, i32_w]
    rfl
  refine pure_ (i := 47) (N := some 80) (v := ?_) (a' := ?_) #[true, true, true, true, true, true, true, true, true, true, true, true, true, true, true, true, true, true, true, true, true, true, true, true, true, true, true, true, true, true, true, true, true, true, true, true, true, true, true, true, true, true, true, true, true, true, true, true, false, false, false, false, false, false, false, false, false, false, false, false, false, false, false, false, false, false, false, false, false, false, false, false, false, false] rfl rfl (any_of HT_.out (by kernel_rfl)) (fun _ _ _ h => h) (Or.inl ⟨by rfl, ?_⟩) ?_ ?_
  rotate_left
  · intro w'
    go_simp
    with_reducible rfl
  rotate_left
  · simp only [Act.put, List.setIfInBounds_toArray, List.set_cons_zero, List.set_cons_succ, i64_w, i32_w]
    rfl
  refine pure_ (i := 48) (N := some 81) (v := ?_) (a' := ?_) #[true, true, true, true, true, true, true, true, true, true, true, true, true, true, true, true, true, true, true, true, true, true, true, true, true, true, true, true, true, true, true, true, true, true, true, true, true, true, true, true, true, true, true, true, true, true, true, true, true, false, false, false, false, false, false, false, false, false, false, false, false, false, false, false, false, false, false, false, false, false, false, false, false, false] rfl rfl (any_of HT_.out (by kernel_rfl)) (fun _ _ _ h => h) (Or.inl ⟨by rfl, ?_⟩) ?_ ?_
  rotate_left
  · intro w'
    go_simp
    with_reducible rfl
  rotate_left
  · simp only [Act.put, List.setIfInBounds_toArray, List.set_cons_zero, List.set_cons_succ, i64_w, i32_w]
    rfl
  refine pure_ (i := 49) (N := some 82) (v := ?_) (a' := ?_) #[true, true, true, true, true, true, true, true, true, true, true, true, true, true, true, true, true, true, true, true, true, true, true, true, true, true, true, true, true, true, true, true, true, true, true, true, true, true, true, true, true, true, true, true, true, true, true, true, true, true, false, false, false, false, false, false, false, false, false, false, false, false, false, false, false, false, false, false, false, false, false, false, false, false] rfl rfl (any_of HT_.out (by kernel_rfl)) (fun _ _ _ h => h) (Or.inl ⟨by rfl, ?_⟩) ?_ ?_
  rotate_left
  · intro w'
    go_simp
    with_reducible rfl
  rotate_left
  · simp only [Act.put, List.setIfInBounds_toArray, List.set_cons_zero, List.set_cons_succ, i64_w, i32_w]
    rfl
  refine take_ (i := 50) (N := some 83) (v := ?_) (a' := ?_) #[true, true, true, true, true, true, true, true, true, true, true, true, true, true, true, true, true, true, true, true, true, true, true, true, true, true, true, true, true, true, true, true, true, true, true, true, true, true, true, true, true, true, true, true, true, true, true, true, true, true, true, false, false, false, false, false, false, false, false, false, false, false, false, false, false, false, false, false, false, false, false, false, false, false] rfl rfl (take_ofW HT_.out HW_.out (by kernel_rfl)) (fun _ _ _ h => h) (Or.inl ⟨by rfl, ?_⟩) hHeld ?_ ?_
  rotate_left
  · intro w' s0
    go_simp
    with_reducible rfl
  rotate_left
  · simp only [Act.put, List.setIfInBounds_toArray, List.set_cons_zero, List.set_cons_succ, i64_w, i32_w]
    rfl
  refine one_ (i := 51) (N := some 84) #[true, true, true, true, true, true, true, true, true, true, true, true, true, true, true, true, true, true, true, true, true, true, true, true, true, true, true, true, true, true, true, true, true, true, true, true, true, true, true, true, true, true, true, true, true, true, true, true, true, true, true, true, false, false, false, false, false, false, false, false, false, false, false, false, false, false, false, false, false, false, false, false, false, false] rfl rfl (one_of HT_.out (by kernel_rfl)) (by decide) (fun K hK => ?_)
  refine goes_ Try.func46 (by kernel_rfl) rfl #[.agg #[.bool B.1, .slice AB1 (dg B32 B.2.1).length cB1, .slice AB2 (dg B32 B.2.2).length cB2]] (by rfl) rfl rfl (by (try simp only [List.map_toArray, List.map_cons, List.map_nil]); first | done | rfl) ?_
  refine (bits4 EB.out (HF.out _ hb13.out).2.2.2.2.2 KB.out.1 KB.out.2).mono ?_
  rintro e V14 ⟨rfl, hB⟩
  refine ⟨_, rfl, ?_⟩
  have hb14 := Aside0.mk (below_step hb13.out hB)
  clear hB hb13
  refine hK.out _ _ ((HF.out _ hb14.out).1) (fun hHeld => ?_)
  clear hK K
  refine norm_ (a' := ?_) ?_ ?_
  rotate_left
  · show Act.put _ (some 84) _ = _
    simp only [Act.put, List.setIfInBounds_toArray, List.set_cons_zero, List.set_cons_succ, i64_w, i32_w]
    rfl
  refine pure_ (i := 52) (N := some 85) (v := ?_) (a' := ?_) #[true, true, true, true, true, true, true, true, true, true, true, true, true, true, true, true, true, true, true, true, true, true, true, true, true, true, true, true, true, true, true, true, true, true, true, true, true, true, true, true, true, true, true, true, true, true, true, true, true, true, true, true, true, false, false, false, false, false, false, false, false, false, false, false, false, false, false, false, false, false, false, false, false, false] rfl rfl (any_of HT_.out (by kernel_rfl)) (fun _ _ _ h => h) (Or.inl ⟨by rfl, ?_⟩) ?_ ?_
  rotate_left
  · intro w'
    go_simp
    with_reducible rfl
  rotate_left
  · simp only [Act.put, List.setIfInBounds_toArray, List.set_cons_zero, List.set_cons_succ, i64_w, i32_w]
    rfl
  refine pure_ (i := 53) (N := some 86) (v := ?_) (a' := ?_) #[true, true, true, true, true, true, true, true, true, true, true, true, true, true, true, true, true, true, true, true, true, true, true, true, true, true, true, true, true, true, true, true, true, true, true, true, true, true, true, true, true, true, true, true, true, true, true, true, true, true, true, true, true, true, false, false, false, false, false, false, false, false, false, false, false, false, false, false, false, false, false, false, false, false] rfl rfl (any_of HT_.out (by kernel_rfl)) (fun _ _ _ h => h) (Or.inl ⟨by rfl, ?_⟩) ?_ ?_
  rotate_left
  · intro w'
    go_simp
    with_reducible rfl
  rotate_left
  · simp only [Act.put, List.setIfInBounds_toArray, List.set_cons_zero, List.set_cons_succ, i64_w, i32_w]
    rfl
  refine pure_ (i := 54) (N := some 87) (v := ?_) (a' := ?_) #[true, true, true, true, true, true, true, true, true, true, true, true, true, true, true, true, true, true, true, true, true, true, true, true, true, true, true, true, true, true, true, true, true, true, true, true, true, true, true, true, true, true, true, true, true, true, true, true, true, true, true, true, true, true, true, false, false, false, false, false, false, false, false, false, false, false, false, false, false, false, false, false, false, false] rfl rfl (any_of HT_.out (by kernel_rfl)) (fun _ _ _ h => h) (Or.inl ⟨by rfl, ?_⟩) ?_ ?_
  rotate_left
  · intro w'
    go_simp
    with_reducible rfl
  rotate_left
  · simp only [Act.put, List.setIfInBounds_toArray, List.set_cons_zero, List.set_cons_succ, i64_w, i32_w]
    rfl
  refine join_ (σ := Addr × Addr) 17 #[true, true, true, true, true, true, true, true, true, true, true, true, true, true, true, true, true, true, true, true, true, true, true, true, true, true, true, true, true, true, true, true, true, true, true, true, true, true, true, true, true, true, true, true, true, true, true, true, true, true, true, true, true, true, true, true, true, false, false, false, false, false, false, false, false, false, false, false, false, false, false, false, false, false] (fun s => [(88, .slice (some s.1) 1 1), (89, .slice (some s.2) 1 1)]) (fun s w' => (w'.cell? ⟨gH, 0, none⟩ = some (.bool H.1) ∧ w'.cell? ⟨gH, 1, none⟩ = some (.slice AH1 (dg B32 H.2.1).length cH1) ∧ w'.cell? ⟨gH, 2, none⟩ = some (.slice AH2 (dg B32 H.2.2).length cH2) ∧ w'.cell? ⟨gT, 0, none⟩ = some (.bool T.1) ∧ w'.cell? ⟨gT, 1, none⟩ = some (.slice AT1 (dg B32 T.2.1).length cT1) ∧ w'.cell? ⟨gT, 2, none⟩ = some (.slice AT2 (dg B32 T.2.2).length cT2) ∧ w'.cell? ⟨gQ, 0, none⟩ = some (.bool Q.1) ∧ w'.cell? ⟨gQ, 1, none⟩ = some (.slice AQ1 (dg B32 Q.2.1).length cQ1) ∧ w'.cell? ⟨gQ, 2, none⟩ = some (.slice AQ2 (dg B32 Q.2.2).length cQ2) ∧ w'.cell? ⟨gM, 0, none⟩ = some (.bool M.1) ∧ w'.cell? ⟨gM, 1, none⟩ = some (.slice AM1 (dg B32 M.2.1).length cM1) ∧ w'.cell? ⟨gM, 2, none⟩ = some (.slice AM2 (dg B32 M.2.2).length cM2) ∧ w'.cell? ⟨gB, 0, none⟩ = some (.bool B.1) ∧ w'.cell? ⟨gB, 1, none⟩ = some (.slice AB1 (dg B32 B.2.1).length cB1) ∧ w'.cell? ⟨gB, 2, none⟩ = some (.slice AB2 (dg B32 B.2.2).length cB2)) ∧ Kd.C (Kd.int .u32) w' (some s.1) 1 [2] ∧ Kd.C (Kd.int .u32) w' (some s.2) 1 [4] ∧ Below W5.heap.size W5 w') ?_ ?_
  rotate_left
  · intro hCont
    refine two_ (i := 55) (j := 56) (Ni := some 88) (Nj := some 89) #[true, true, true, true, true, true, true, true, true, true, true, true, true, true, true, true, true, true, true, true, true, true, true, true, true, true, true, true, true, true, true, true, true, true, true, true, true, true, true, true, true, true, true, true, true, true, true, true, true, true, true, true, true, true, true, true, false, false, false, false, false, false, false, false, false, false, false, false, false, false, false, false, false, false] #[true, true, true, true, true, true, true, true, true, true, true, true, true, true, true, true, true, true, true, true, true, true, true, true, true, true, true, true, true, true, true, true, true, true, true, true, true, true, true, true, true, true, true, true, true, true, true, true, true, true, true, true, true, true, true, false, true, false, false, false, false, false, false, false, false, false, false, false, false, false, false, false, false, false] rfl rfl rfl rfl (two_of HT_.out (by kernel_rfl)) (by decide) (by decide) (fun K hK => ?_) (fun K hK => ?_)
    · skip
      refine value_ (w1 := ?_) (v := ?_) (by rfl) rfl ?_ ?_
      rotate_left 2
      · go_simp
        constructor
        · rfl
        · rfl
      have hA55 : Below (V14).heap.size V14 (V14.alloc (.cells #[.int .u32 2] 63 (0, 0))) := below_alloc (Below.refl _ _) _
      have hC55 := lit_C V14 2 63
      have hbf1 := below_step hb14.out hA55
      refine hK.out _ _ ((HF.out _ hbf1).1) (fun hHeld => ?_)
      clear hK K
      refine norm_ (a' := ?_) ?_ ?_
      rotate_left
      · show Act.put _ (some 88) _ = _
        simp only [Act.put, List.setIfInBounds_toArray, List.set_cons_zero, List.set_cons_succ, i64_w, i32_w]
        rfl
      refine one_ (i := 56) (N := some 89) #[true, true, true, true, true, true, true, true, true, true, true, true, true, true, true, true, true, true, true, true, true, true, true, true, true, true, true, true, true, true, true, true, true, true, true, true, true, true, true, true, true, true, true, true, true, true, true, true, true, true, true, true, true, true, true, true, true, false, false, false, false, false, false, false, false, false, false, false, false, false, false, false, false, false] rfl rfl (one_of HT_.out (by kernel_rfl)) (by decide) (fun K hK => ?_)
      refine value_ (w1 := ?_) (v := ?_) (by rfl) rfl ?_ ?_
      rotate_left 2
      · go_simp
        constructor
        · rfl
        · rfl
      have hA56 : Below ((V14.alloc (.cells #[.int .u32 2] 63 (0, 0)))).heap.size (V14.alloc (.cells #[.int .u32 2] 63 (0, 0))) ((V14.alloc (.cells #[.int .u32 2] 63 (0, 0))).alloc (.cells #[.int .u32 4] 63 (0, 0))) := below_alloc (Below.refl _ _) _
      have hC56 := lit_C (V14.alloc (.cells #[.int .u32 2] 63 (0, 0))) 4 63
      have hC55b := Kd.C_below hC55 hA56
      have hS56 : ((V14.alloc (.cells #[.int .u32 2] 63 (0, 0)))).heap.size = V14.heap.size + 1 := by simp
      rw [hS56] at hC56
      have hbf := below_step (below_step hb14.out hA55) hA56
      refine hK.out _ _ ((HF.out _ hbf).1) (fun hHeld => ?_)
      clear hK K
      refine norm_ (a' := ?_) ?_ ?_
      rotate_left
      · show Act.put _ (some 89) _ = _
        simp only [Act.put, List.setIfInBounds_toArray, List.set_cons_zero, List.set_cons_succ, i64_w, i32_w]
        rfl
      exact norm_ (by simp only [putAll, Act.put, List.setIfInBounds_toArray, List.set_cons_zero, List.set_cons_succ]) (hCont (⟨V14.heap.size, 0, none⟩, ⟨V14.heap.size + 1, 0, none⟩) _ ⟨(HF.out _ hbf).1, hC55b, hC56, hbf⟩)
    · skip
      refine value_ (w1 := ?_) (v := ?_) (by rfl) rfl ?_ ?_
      rotate_left 2
      · go_simp
        constructor
        · rfl
        · rfl
      have hA56 : Below (V14).heap.size V14 (V14.alloc (.cells #[.int .u32 4] 63 (0, 0))) := below_alloc (Below.refl _ _) _
      have hC56 := lit_C V14 4 63
      have hbf1 := below_step hb14.out hA56
      refine hK.out _ _ ((HF.out _ hbf1).1) (fun hHeld => ?_)
      clear hK K
      refine norm_ (a' := ?_) ?_ ?_
      rotate_left
      · show Act.put _ (some 89) _ = _
        simp only [Act.put, List.setIfInBounds_toArray, List.set_cons_zero, List.set_cons_succ, i64_w, i32_w]
        rfl
      refine one_ (i := 55) (N := some 88) #[true, true, true, true, true, true, true, true, true, true, true, true, true, true, true, true, true, true, true, true, true, true, true, true, true, true, true, true, true, true, true, true, true, true, true, true, true, true, true, true, true, true, true, true, true, true, true, true, true, true, true, true, true, true, true, true, true, false, false, false, false, false, false, false, false, false, false, false, false, false, false, false, false, false] rfl rfl (one_of HT_.out (by kernel_rfl)) (by decide) (fun K hK => ?_)
      refine value_ (w1 := ?_) (v := ?_) (by rfl) rfl ?_ ?_
      rotate_left 2
      · go_simp
        constructor
        · rfl
        · rfl
      have hA55 : Below ((V14.alloc (.cells #[.int .u32 4] 63 (0, 0)))).heap.size (V14.alloc (.cells #[.int .u32 4] 63 (0, 0))) ((V14.alloc (.cells #[.int .u32 4] 63 (0, 0))).alloc (.cells #[.int .u32 2] 63 (0, 0))) := below_alloc (Below.refl _ _) _
      have hC55 := lit_C (V14.alloc (.cells #[.int .u32 4] 63 (0, 0))) 2 63
      have hC56b := Kd.C_below hC56 hA55
      have hS55 : ((V14.alloc (.cells #[.int .u32 4] 63 (0, 0)))).heap.size = V14.heap.size + 1 := by simp
      rw [hS55] at hC55
      have hbf := below_step (below_step hb14.out hA56) hA55
      refine hK.out _ _ ((HF.out _ hbf).1) (fun hHeld => ?_)
      clear hK K
      refine norm_ (a' := ?_) ?_ ?_
      rotate_left
      · show Act.put _ (some 88) _ = _
        simp only [Act.put, List.setIfInBounds_toArray, List.set_cons_zero, List.set_cons_succ, i64_w, i32_w]
        rfl
      exact norm_ (by simp only [putAll, Act.put, List.setIfInBounds_toArray, List.set_cons_zero, List.set_cons_succ]) (hCont (⟨V14.heap.size + 1, 0, none⟩, ⟨V14.heap.size, 0, none⟩) _ ⟨(HF.out _ hbf).1, hC55, hC56b, hbf⟩)
  rintro ⟨s1, s2⟩ V15 ⟨hHeld, hC1, hC2, hb⟩
  have hb15 := Aside0.mk hb
  have HC1 := Aside0.mk hC1
  have HC2 := Aside0.mk hC2
  clear hb hC1 hC2 hb14
  refine norm_ (a' := ?_) ?_ ?_
  rotate_left
  · simp only [putAll, Act.put, List.setIfInBounds_toArray, List.set_cons_zero, List.set_cons_succ]
    rfl
  refine pure_ (i := 57) (N := some 90) (v := ?_) (a' := ?_) #[true, true, true, true, true, true, true, true, true, true, true, true, true, true, true, true, true, true, true, true, true, true, true, true, true, true, true, true, true, true, true, true, true, true, true, true, true, true, true, true, true, true, true, true, true, true, true, true, true, true, true, true, true, true, true, true, true, true, false, false, false, false, false, false, false, false, false, false, false, false, false, false, false, false] rfl rfl (any_of HT_.out (by kernel_rfl)) (fun _ _ _ h => h) (Or.inl ⟨by rfl, ?_⟩) ?_ ?_
  rotate_left
  · intro w'
    go_simp
    with_reducible rfl
  rotate_left
  · simp only [Act.put, List.setIfInBounds_toArray, List.set_cons_zero, List.set_cons_succ, i64_w, i32_w]
    rfl
  refine one_ (i := 58) (N := some 91) #[true, true, true, true, true, true, true, true, true, true, true, true, true, true, true, true, true, true, true, true, true, true, true, true, true, true, true, true, true, true, true, true, true, true, true, true, true, true, true, true, true, true, true, true, true, true, true, true, true, true, true, true, true, true, true, true, true, true, true, false, false, false, false, false, false, false, false, false, false, false, false, false, false, false] rfl rfl (one_of HT_.out (by kernel_rfl)) (by decide) (fun K hK => ?_)
  refine goes_ Try.func18 (by kernel_rfl) rfl #[.agg #[.bool false, .slice (some s1) 1 1, .slice (some s2) 1 1]] (by rfl) rfl rfl (by (try simp only [List.map_toArray, List.map_cons, List.map_nil]); first | done | rfl) ?_
  refine (may24 HC1.out HC2.out).mono ?_
  rintro e V16 ⟨rfl, hB⟩
  refine ⟨_, rfl, ?_⟩
  clear HC1 HC2
  have hb16 := Aside0.mk (below_step hb15.out hB)
  clear hB hb15
  refine hK.out _ _ ((HF.out _ hb16.out).1) (fun hHeld => ?_)
  clear hK K
  refine norm_ (a' := ?_) ?_ ?_
  rotate_left
  · show Act.put _ (some 91) _ = _
    simp only [Act.put, List.setIfInBounds_toArray, List.set_cons_zero, List.set_cons_succ, i64_w, i32_w]
    rfl
  refine pure_ (i := 59) (N := some 92) (v := ?_) (a' := ?_) #[true, true, true, true, true, true, true, true, true, true, true, true, true, true, true, true, true, true, true, true, true, true, true, true, true, true, true, true, true, true, true, true, true, true, true, true, true, true, true, true, true, true, true, true, true, true, true, true, true, true, true, true, true, true, true, true, true, true, true, true, false, false, false, false, false, false, false, false, false, false, false, false, false, false] rfl rfl (any_of HT_.out (by kernel_rfl)) (fun _ _ _ h => h) (Or.inl ⟨by rfl, ?_⟩) ?_ ?_
  rotate_left
  · intro w'
    go_simp
    with_reducible rfl
  rotate_left
  · simp only [Act.put, List.setIfInBounds_toArray, List.set_cons_zero, List.set_cons_succ, i64_w, i32_w]
    rfl
  refine pure_ (i := 60) (N := some 93) (v := ?_) (a' := ?_) #[true, true, true, true, true, true, true, true, true, true, true, true, true, true, true, true, true, true, true, true, true, true, true, true, true, true, true, true, true, true, true, true, true, true, true, true, true, true, true, true, true, true, true, true, true, true, true, true, true, true, true, true, true, true, true, true, true, true, true, true, true, false, false, false, false, false, false, false, false, false, false, false, false, false] rfl rfl (any_of HT_.out (by kernel_rfl)) (fun _ _ _ h => h) (Or.inl ⟨by rfl, ?_⟩) ?_ ?_
  rotate_left
  · intro w'
    go_simp
    with_reducible rfl
  rotate_left
  · simp only [Act.put, List.setIfInBounds_toArray, List.set_cons_zero, List.set_cons_succ, i64_w, i32_w]
    rfl
  refine pure_ (i := 61) (N := some 94) (v := ?_) (a' := ?_) #[true, true, true, true, true, true, true, true, true, true, true, true, true, true, true, true, true, true, true, true, true, true, true, true, true, true, true, true, true, true, true, true, true, true, true, true, true, true, true, true, true, true, true, true, true, true, true, true, true, true, true, true, true, true, true, true, true, true, true, true, true, true, false, false, false, false, false, false, false, false, false, false, false, false] rfl rfl (any_of HT_.out (by kernel_rfl)) (fun _ _ _ h => h) (Or.inl ⟨by rfl, ?_⟩) ?_ ?_
  rotate_left
  · intro w'
    go_simp
    with_reducible rfl
  rotate_left
  · simp only [Act.put, List.setIfInBounds_toArray, List.set_cons_zero, List.set_cons_succ, i64_w, i32_w]
    rfl
  refine one_ (i := 62) (N := some 95) #[true, true, true, true, true, true, true, true, true, true, true, true, true, true, true, true, true, true, true, true, true, true, true, true, true, true, true, true, true, true, true, true, true, true, true, true, true, true, true, true, true, true, true, true, true, true, true, true, true, true, true, true, true, true, true, true, true, true, true, true, true, true, true, false, false, false, false, false, false, false, false, false, false, false] rfl rfl (one_of HT_.out (by kernel_rfl)) (by decide) (fun K hK => ?_)
  refine value_ (w1 := ?_) (v := ?_) (by rfl) rfl ?_ ?_
  rotate_left 2
  · go_simp
    constructor
    · rfl
    · rfl
  have hA : Below V16.heap.size V16 (V16.alloc (.cells #[.int .u32 5] 63 (0, 0))) := below_alloc (Below.refl _ _) _
  have HC := Aside0.mk (lit_C V16 5 63)
  have hb17 := Aside0.mk (below_step hb16.out hA)
  clear hA hb16
  obtain ⟨a62, ha62⟩ : ∃ a : Addr, a = ⟨V16.heap.size, 0, none⟩ := ⟨_, rfl⟩
  rw [← ha62] at HC ⊢
  generalize V16.alloc (.cells #[.int .u32 5] 63 (0, 0)) = V17 at HC hb17 ⊢
  clear ha62
  refine hK.out _ _ ((HF.out _ hb17.out).1) (fun hHeld => ?_)
  clear hK K
  refine norm_ (a' := ?_) ?_ ?_
  rotate_left
  · show Act.put _ (some 95) _ = _
    simp only [Act.put, List.setIfInBounds_toArray, List.set_cons_zero, List.set_cons_succ, i64_w, i32_w]
    rfl
  refine pure_ (i := 63) (N := some 96) (v := ?_) (a' := ?_) #[true, true, true, true, true, true, true, true, true, true, true, true, true, true, true, true, true, true, true, true, true, true, true, true, true, true, true, true, true, true, true, true, true, true, true, true, true, true, true, true, true, true, true, true, true, true, true, true, true, true, true, true, true, true, true, true, true, true, true, true, true, true, true, true, false, false, false, false, false, false, false, false, false, false] rfl rfl (any_of HT_.out (by kernel_rfl)) (fun _ _ _ h => h) (Or.inl ⟨by rfl, ?_⟩) ?_ ?_
  rotate_left
  · intro w'
    go_simp
    with_reducible rfl
  rotate_left
  · simp only [Act.put, List.setIfInBounds_toArray, List.set_cons_zero, List.set_cons_succ, i64_w, i32_w]
    rfl
  refine one_ (i := 64) (N := some 97) #[true, true, true, true, true, true, true, true, true, true, true, true, true, true, true, true, true, true, true, true, true, true, true, true, true, true, true, true, true, true, true, true, true, true, true, true, true, true, true, true, true, true, true, true, true, true, true, true, true, true, true, true, true, true, true, true, true, true, true, true, true, true, true, true, true, false, false, false, false, false, false, false, false, false] rfl rfl (one_of HT_.out (by kernel_rfl)) (by decide) (fun K hK => ?_)
  refine goes_ Try.func18 (by kernel_rfl) rfl #[.agg #[.bool false, .slice none 0 0, .slice (some a62) 1 1]] (by rfl) rfl rfl (by (try simp only [List.map_toArray, List.map_cons, List.map_nil]); first | done | rfl) ?_
  refine (may_5 HC.out).mono ?_
  rintro e V18 ⟨rfl, hB⟩
  refine ⟨_, rfl, ?_⟩
  clear HC
  have hb18 := Aside0.mk (below_step hb17.out hB)
  clear hB hb17
  refine hK.out _ _ ((HF.out _ hb18.out).1) (fun hHeld => ?_)
  clear hK K
  refine norm_ (a' := ?_) ?_ ?_
  rotate_left
  · show Act.put _ (some 97) _ = _
    simp only [Act.put, List.setIfInBounds_toArray, List.set_cons_zero, List.set_cons_succ, i64_w, i32_w]
    rfl
  refine pure_ (i := 65) (N := some 98) (v := ?_) (a' := ?_) #[true, true, true, true, true, true, true, true, true, true, true, true, true, true, true, true, true, true, true, true, true, true, true, true, true, true, true, true, true, true, true, true, true, true, true, true, true, true, true, true, true, true, true, true, true, true, true, true, true, true, true, true, true, true, true, true, true, true, true, true, true, true, true, true, true, true, false, false, false, false, false, false, false, false] rfl rfl (any_of HT_.out (by kernel_rfl)) (fun _ _ _ h => h) (Or.inl ⟨by rfl, ?_⟩) ?_ ?_
  rotate_left
  · intro w'
    go_simp
    with_reducible rfl
  rotate_left
  · simp only [Act.put, List.setIfInBounds_toArray, List.set_cons_zero, List.set_cons_succ, i64_w, i32_w]
    rfl
  refine pure_ (i := 66) (N := some 99) (v := ?_) (a' := ?_) #[true, true, true, true, true, true, true, true, true, true, true, true, true, true, true, true, true, true, true, true, true, true, true, true, true, true, true, true, true, true, true, true, true, true, true, true, true, true, true, true, true, true, true, true, true, true, true, true, true, true, true, true, true, true, true, true, true, true, true, true, true, true, true, true, true, true, true, false, false, false, false, false, false, false] rfl rfl (any_of HT_.out (by kernel_rfl)) (fun _ _ _ h => h) (Or.inl ⟨by rfl, ?_⟩) ?_ ?_
  rotate_left
  · intro w'
    go_simp
    with_reducible rfl
  rotate_left
  · simp only [Act.put, List.setIfInBounds_toArray, List.set_cons_zero, List.set_cons_succ, i64_w, i32_w]
    rfl
  refine pure_ (i := 67) (N := some 100) (v := ?_) (a' := ?_) #[true, true, true, true, true, true, true, true, true, true, true, true, true, true, true, true, true, true, true, true, true, true, true, true, true, true, true, true, true, true, true, true, true, true, true, true, true, true, true, true, true, true, true, true, true, true, true, true, true, true, true, true, true, true, true, true, true, true, true, true, true, true, true, true, true, true, true, true, false, false, false, false, false, false] rfl rfl (any_of HT_.out (by kernel_rfl)) (fun _ _ _ h => h) (Or.inl ⟨by rfl, ?_⟩) ?_ ?_
  rotate_left
  · intro w'
    go_simp
    with_reducible rfl
  rotate_left
  · simp only [Act.put, List.setIfInBounds_toArray, List.set_cons_zero, List.set_cons_succ, i64_w, i32_w]
    rfl
  refine one_ (i := 68) (N := some 101) #[true, true, true, true, true, true, true, true, true, true, true, true, true, true, true, true, true, true, true, true, true, true, true, true, true, true, true, true, true, true, true, true, true, true, true, true, true, true, true, true, true, true, true, true, true, true, true, true, true, true, true, true, true, true, true, true, true, true, true, true, true, true, true, true, true, true, true, true, true, false, false, false, false, false] rfl rfl (one_of HT_.out (by kernel_rfl)) (by decide) (fun K hK => ?_)
  refine value_ (w1 := ?_) (v := ?_) (by rfl) rfl ?_ ?_
  rotate_left 2
  · go_simp
    constructor
    · rfl
    · rfl
  have hA : Below V18.heap.size V18 (V18.alloc (.cells #[.int .u32 3] 63 (0, 0))) := below_alloc (Below.refl _ _) _
  have HC := Aside0.mk (lit_C V18 3 63)
  have hb19 := Aside0.mk (below_step hb18.out hA)
  clear hA hb18
  obtain ⟨a68, ha68⟩ : ∃ a : Addr, a = ⟨V18.heap.size, 0, none⟩ := ⟨_, rfl⟩
  rw [← ha68] at HC ⊢
  generalize V18.alloc (.cells #[.int .u32 3] 63 (0, 0)) = V19 at HC hb19 ⊢
  clear ha68
  refine hK.out _ _ ((HF.out _ hb19.out).1) (fun hHeld => ?_)
  clear hK K
  refine norm_ (a' := ?_) ?_ ?_
  rotate_left
  · show Act.put _ (some 101) _ = _
    simp only [Act.put, List.setIfInBounds_toArray, List.set_cons_zero, List.set_cons_succ, i64_w, i32_w]
    rfl
  refine pure_ (i := 69) (N := some 102) (v := ?_) (a' := ?_) #[true, true, true, true, true, true, true, true, true, true, true, true, true, true, true, true, true, true, true, true, true, true, true, true, true, true, true, true, true, true, true, true, true, true, true, true, true, true, true, true, true, true, true, true, true, true, true, true, true, true, true, true, true, true, true, true, true, true, true, true, true, true, true, true, true, true, true, true, true, true, false, false, false, false] rfl rfl (any_of HT_.out (by kernel_rfl)) (fun _ _ _ h => h) (Or.inl ⟨by rfl, ?_⟩) ?_ ?_
  rotate_left
  · intro w'
    go_simp
    with_reducible rfl
  rotate_left
  · simp only [Act.put, List.setIfInBounds_toArray, List.set_cons_zero, List.set_cons_succ, i64_w, i32_w]
    rfl
  refine one_ (i := 70) (N := some 103) #[true, true, true, true, true, true, true, true, true, true, true, true, true, true, true, true, true, true, true, true, true, true, true, true, true, true, true, true, true, true, true, true, true, true, true, true, true, true, true, true, true, true, true, true, true, true, true, true, true, true, true, true, true, true, true, true, true, true, true, true, true, true, true, true, true, true, true, true, true, true, true, false, false, false] rfl rfl (one_of HT_.out (by kernel_rfl)) (by decide) (fun K hK => ?_)
  refine goes_ Try.func18 (by kernel_rfl) rfl #[.agg #[.bool false, .slice (some a68) 1 1, .slice none 0 0]] (by rfl) rfl rfl (by (try simp only [List.map_toArray, List.map_cons, List.map_nil]); first | done | rfl) ?_
  refine (may3_ HC.out).mono ?_
  rintro e V20 ⟨rfl, hB⟩
  refine ⟨_, rfl, ?_⟩
  clear HC
  have hb20 := Aside0.mk (below_step hb19.out hB)
  clear hB hb19
  refine hK.out _ _ ((HF.out _ hb20.out).1) (fun hHeld => ?_)
  clear hK K
  refine norm_ (a' := ?_) ?_ ?_
  rotate_left
  · show Act.put _ (some 103) _ = _
    simp only [Act.put, List.setIfInBounds_toArray, List.set_cons_zero, List.set_cons_succ, i64_w, i32_w]
    rfl
  refine pure_ (i := 71) (N := some 104) (v := ?_) (a' := ?_) #[true, true, true, true, true, true, true, true, true, true, true, true, true, true, true, true, true, true, true, true, true, true, true, true, true, true, true, true, true, true, true, true, true, true, true, true, true, true, true, true, true, true, true, true, true, true, true, true, true, true, true, true, true, true, true, true, true, true, true, true, true, true, true, true, true, true, true, true, true, true, true, true, false, false] rfl rfl (any_of HT_.out (by kernel_rfl)) (fun _ _ _ h => h) (Or.inl ⟨by rfl, ?_⟩) ?_ ?_
  rotate_left
  · intro w'
    go_simp
    with_reducible rfl
  rotate_left
  · simp only [Act.put, List.setIfInBounds_toArray, List.set_cons_zero, List.set_cons_succ, i64_w, i32_w]
    rfl
  refine pure_ (i := 72) (N := some 105) (v := ?_) (a' := ?_) #[true, true, true, true, true, true, true, true, true, true, true, true, true, true, true, true, true, true, true, true, true, true, true, true, true, true, true, true, true, true, true, true, true, true, true, true, true, true, true, true, true, true, true, true, true, true, true, true, true, true, true, true, true, true, true, true, true, true, true, true, true, true, true, true, true, true, true, true, true, true, true, true, true, false] rfl rfl (any_of HT_.out (by kernel_rfl)) (fun _ _ _ h => h) (Or.inl ⟨by rfl, ?_⟩) ?_ ?_
  rotate_left
  · intro w'
    go_simp
    with_reducible rfl
  rotate_left
  · simp only [Act.put, List.setIfInBounds_toArray, List.set_cons_zero, List.set_cons_succ, i64_w, i32_w]
    rfl
  refine pure_ (i := 73) (N := some 0) (v := ?_) (a' := ?_) #[true, true, true, true, true, true, true, true, true, true, true, true, true, true, true, true, true, true, true, true, true, true, true, true, true, true, true, true, true, true, true, true, true, true, true, true, true, true, true, true, true, true, true, true, true, true, true, true, true, true, true, true, true, true, true, true, true, true, true, true, true, true, true, true, true, true, true, true, true, true, true, true, true, true] rfl rfl (any_of HT_.out (by kernel_rfl)) (fun _ _ _ h => h) (Or.inl ⟨by rfl, ?_⟩) ?_ ?_
  rotate_left
  · intro w'
    go_simp
    with_reducible rfl
  rotate_left
  · simp only [Act.put, List.setIfInBounds_toArray, List.set_cons_zero, List.set_cons_succ, i64_w, i32_w]
    rfl
  refine done_ (done_of HT_.out (by kernel_rfl)) ?_
  clear hHeld
  go_wp2
  go_ret
  exact ⟨rfl, below_step HB5.out hb20.out⟩
end Go.Proofs.Ytehghijlchpeaaa.Nat1
end
section
namespace Go.Proofs.Ytehghijlchpeaaa.Nat1
open Go.RowKit Go.Proofs.YtehghijlchpeaaaW.PrintWords Go.Proofs.YtehghijlchpeaaaW.PrintLast Go.Proofs.YtehghijlchpeaaaW.PrintMore Go.Proofs.Ytehghijlchpeaaa.L Go.Proofs.Ytehghijlchpeaaa.Nt Go.Proofs.Ytehghijlchpeaaa.Ev
set_option linter.unusedVariables false
set_option linter.unusedSimpArgs false
set_option linter.unusedSectionVars false
set_option maxHeartbeats 1000000 in
set_option maxRecDepth 100000 in
theorem own_q (A0 : Option Addr) (c0 : Nat) (l0 : List Int) (w : World) (hr0 : Kd.C (Kd.int .u32) w A0 l0.length l0) (hc0 : l0.length ≤ c0) (hl : l0.length ≤ 1099511627776) :
    Calls Try.prog 23 #[.slice A0 l0.length c0] w fun e w' => ∃ v0_ : Value, e = .returned (v0_) ∧ Kd.R (Kd.int .u32) 63 w' w.heap.size (fun _ => True) v0_ l0 ∧ Below w.heap.size w w' := by
  have HR := Aside0.mk hr0
  clear hr0
  go_enter Try.func23, Try.ntmps23
  go_wp2_with ((with_reducible refine gate_builtin (b := .append) rfl ?_); go_must (refine Kd.R_append_row (Value.int .u32) (0 : Int) w.heap.size rfl _ _ 23 63 (.int .u32 0) 4 rfl Try.underlying23 infoU32 rfl (by omega) (.slice none 0 0) [] l0 A0 l0.length c0 (fun _ => True) rfl rfl (fun _ _ => trivial) (Kd.R_nil _ _ _ _ _) HR.out (Below.refl _ _) (Nat.le_refl _) (by simp only [List.length_nil]; omega) ?_); intro v1 w1 hR hB hx1 hx2; clear hx1 hx2; obtain ⟨A, c, rfl⟩ := Kd.R_slice hR; have HR1 := Aside0.mk hR; have HB1 := Aside0.mk hB; clear hR hB)
  go_ret
  exact ⟨_, rfl, HR1.out, HB1.out⟩
end Go.Proofs.Ytehghijlchpeaaa.Nat1
end
section
namespace Go.Proofs.Ytehghijlchpeaaa.Ev
open Go.RowKit Go.Proofs.YtehghijlchpeaaaW.PrintWords Go.Proofs.YtehghijlchpeaaaW.PrintLast Go.Proofs.YtehghijlchpeaaaW.PrintMore Go.Proofs.Ytehghijlchpeaaa.L Go.Proofs.Ytehghijlchpeaaa.Nt Go.Proofs.Ytehghijlchpeaaa.Nat1
set_option linter.unusedVariables false
set_option linter.unusedSimpArgs false
set_option linter.unusedSectionVars false
def fewB (ls : List (List Int)) : Bool := ls.all (fun l => decide (l.length ≤ 60))
theorem few_loop (ls : List (List Int)) (hl : ls.length ≤ 1000000) (j : Nat) : ∀ i, i + j = ls.length → Ev (fun k => fluxionlaw03_few.l0 k ls (i : Int)) (fewB (ls.drop i)) := by
  induction j with
  | zero =>
    intro i hi
    rw [List.drop_eq_nil_of_le (by omega)]
    refine Ev.succ (Ev.congr (Ev.some _) (fun k => ?_))
    rw [fluxionlaw03_few.l0, if_neg (by omega)]
    rfl
  | succ j ih =>
    intro i hi
    have hlt : i < ls.length := by omega
    have hr : rd_L2 ls (i : Int) = ls[i] := by
      unfold rd_L2
      rw [Int.toNat_natCast, List.getD_eq_getElem?_getD, List.getElem?_eq_getElem hlt]
      rfl
    have e : fewB (ls.drop i) = (decide (ls[i].length ≤ 60) && fewB (ls.drop (i + 1))) := by
      rw [List.drop_eq_getElem_cons hlt]
      rfl
    rw [e]
    by_cases h : ls[i].length > 60
    · rw [decide_eq_false (by omega), Bool.false_and]
      refine Ev.succ (Ev.congr (Ev.some _) (fun k => ?_))
      rw [fluxionlaw03_few.l0, if_pos (by omega), if_pos (by omega), hr, if_pos (by omega)]
    · rw [decide_eq_true (by omega), Bool.true_and]
      refine Ev.succ (Ev.congr (ih (i + 1) (by omega)) (fun k => ?_))
      rw [fluxionlaw03_few.l0, if_pos (by omega), if_pos (by omega), hr, if_neg (by omega), w_succ (by omega)]
end Go.Proofs.Ytehghijlchpeaaa.Ev
namespace Go.Proofs.Ytehghijlchpeaaa.Nat1
open Go.RowKit Go.Proofs.YtehghijlchpeaaaW.PrintWords Go.Proofs.YtehghijlchpeaaaW.PrintLast Go.Proofs.YtehghijlchpeaaaW.PrintMore Go.Proofs.Ytehghijlchpeaaa.L Go.Proofs.Ytehghijlchpeaaa.Nt Go.Proofs.Ytehghijlchpeaaa.Ev
abbrev SL := Option Addr × Nat × List Int
def slV (x : SL) : Value := .slice x.1 x.2.2.length x.2.1
theorem few_q (xs : List SL) (g : Nat) (t : TypeId) (W : World) (hg : W.heap[g]? = some (.cells (xs.map slV).toArray t (0, 0))) (hC : ∀ x ∈ xs, Kd.C (Kd.int .u32) W x.1 x.2.2.length x.2.2 ∧ x.2.2.length ≤ x.2.1) (hn : xs.length ≤ 1000000) :
    Calls Try.prog 14 #[.slice (some ⟨g, 0, none⟩) xs.length xs.length] W fun e w' => e = .returned (.bool (fewB (xs.map (fun x => x.2.2)))) ∧ Drawn0 W w' := by
  obtain ⟨k, hk⟩ := few_loop (xs.map (fun x => x.2.2)) (by rw [List.length_map]; exact hn) xs.length 0 (by rw [List.length_map]; omega)
  have hk : fluxionlaw03_few.f k (xs.map (fun x => x.2.2)) = _ := hk k (Nat.le_refl _)
  have := fluxionlaw03_few.calls k (some ⟨g, 0, none⟩) xs.length (xs.map (fun x => x.2.2)) _ W ⟨rfl, by rw [List.length_map]; omega, fun _ => ⟨_, rfl, fun j p hj => ?_⟩⟩ (by rw [List.length_map]; exact Nat.le_refl _) hk
  · rw [List.length_map, List.drop_zero] at this
    exact this
  · rw [List.getElem?_map] at hj
    obtain ⟨x, hx, rfl⟩ := Option.map_eq_some_iff.1 hj
    have hm := List.mem_of_getElem? hx
    refine ⟨[slV x], rfl, ⟨x.1, x.2.1, rfl, (hC x hm).2, (hC x hm).1⟩, fun i u hi => ?_⟩
    match i, hi with
    | 0, hi =>
      cases hi
      have hc := blk_cell hg j
      rw [List.getElem?_toArray, List.getElem?_map, hx] at hc
      have ea : (⟨g, 0, none⟩ : Addr).add (j * 1 + 0) = ⟨g, j, none⟩ := by
        cases j with
        | zero => rfl
        | succ j => simp [Addr.add]
      have es : (Kd.slice 63 (Kd.int .u32)).sz = 1 := rfl
      rw [es, ea, hc]
      rfl
    | i + 1, hi => simp at hi
end Go.Proofs.Ytehghijlchpeaaa.Nat1
end
section
namespace Go.Proofs.Ytehghijlchpeaaa.Nat1
open Go.RowKit Go.Proofs.YtehghijlchpeaaaW.PrintWords Go.Proofs.YtehghijlchpeaaaW.PrintLast Go.Proofs.YtehghijlchpeaaaW.PrintMore Go.Proofs.Ytehghijlchpeaaa.L Go.Proofs.Ytehghijlchpeaaa.Nt Go.Proofs.Ytehghijlchpeaaa.Ev
set_option linter.unusedVariables false
set_option linter.unusedSimpArgs false
set_option linter.unusedSectionVars false
def NR (w : World) (v : Value) (X : QN) : Prop :=
  ∃ (n : Bool) (A1 : Option Addr) (c1 : Nat) (p : List Int) (A2 : Option Addr) (c2 : Nat) (q : List Int), v = .agg #[.bool n, .slice A1 p.length c1, .slice A2 q.length c2] ∧
    (Kd.C (Kd.int .u32) w A1 p.length p ∧ p.length ≤ c1 ∧ okS p) ∧ (Kd.C (Kd.int .u32) w A2 q.length q ∧ q.length ≤ c2 ∧ okS q) ∧ nrm n (val B32 p) (val B32 q) = X
theorem NR.below {w w' : World} {v : Value} {X : QN} (h : NR w v X) (hb : Below w.heap.size w w') : NR w' v X := by
  obtain ⟨n, A1, c1, p, A2, c2, q, rfl, h1, h2, e⟩ := h
  exact ⟨n, A1, c1, p, A2, c2, q, rfl, ⟨Kd.C_below h1.1 hb, h1.2⟩, ⟨Kd.C_below h2.1 hb, h2.2⟩, e⟩
theorem NR.red {w : World} {v : Value} {X : QN} (h : NR w v X) : red X := by
  obtain ⟨n, A1, c1, p, A2, c2, q, rfl, h1, h2, rfl⟩ := h
  exact nrm_red _ _ _
theorem NR.okQ {w : World} {v : Value} {X : QN} (h : NR w v X) : okQ X := by
  obtain ⟨n, A1, c1, p, A2, c2, q, rfl, h1, h2, rfl⟩ := h
  exact okQ_nrm h1.2.2 h2.2.2
section
variable {W : World} {u v : Value} {X Y : QN} (hu : NR W u X) (hv : NR W v Y)
include hu
include hv
end
theorem okS60 {l : List Int} (h : ok B32 l) (hl : l.length ≤ 60) : okS l := ⟨h, by omega⟩
def NL (w : World) (v : Value) (l : List Int) : Prop := ∃ (A : Option Addr) (c : Nat), v = .slice A l.length c ∧ Kd.C (Kd.int .u32) w A l.length l ∧ l.length ≤ c
def DT (w : World) (v : Value) (n : Nat) : Prop := ∃ (A : Option Addr) (c : Nat), v = .slice A (dg 10000 n).length c ∧ Kd.C (Kd.int .i64) w A (dg 10000 n).length (dg 10000 n) ∧ (dg 10000 n).length ≤ c
theorem NL.below {w w' : World} {v : Value} {l : List Int} (h : NL w v l) (hb : Below w.heap.size w w') : NL w' v l := by
  obtain ⟨A, c, rfl, h1, h2⟩ := h
  exact ⟨A, c, rfl, Kd.C_below h1 hb, h2⟩
theorem DT.below {w w' : World} {v : Value} {n : Nat} (h : DT w v n) (hb : Below w.heap.size w w') : DT w' v n := by
  obtain ⟨A, c, rfl, h1, h2⟩ := h
  exact ⟨A, c, rfl, Kd.C_below h1 hb, h2⟩
theorem own_n {W : World} {u : Value} {l : List Int} (hu : NL W u l) (hl : l.length ≤ 1099511627776) : Calls Try.prog 23 #[u] W fun e w' => ∃ v, e = .returned v ∧ NL w' v l ∧ Below W.heap.size W w' := by
  obtain ⟨A, c, rfl, h1, h2⟩ := hu
  refine (own_q A c l W h1 h2 hl).mono ?_
  rintro e w' ⟨v, rfl, hR, hb⟩
  obtain ⟨B, d, rfl⟩ := Kd.R_slice hR
  exact ⟨_, rfl, ⟨B, d, rfl, (Kd.R_reads' hR).2.2, (Kd.R_reads' hR).2.1⟩, hb⟩
theorem of_n {W : World} {u : Value} {l : List Int} (hu : NL W u l) (hl : okE l) : Calls Try.prog 24 #[u] W fun e w' => ∃ v, e = .returned v ∧ DT w' v (val B32 l) ∧ Below W.heap.size W w' := by
  obtain ⟨A, c, rfl, h1, h2⟩ := hu
  obtain ⟨k, hk⟩ := of_ev hl.1 (Nat.le_trans hl.2 (by decide))
  refine (fluxionref01_Of.calls k A c l _ W h1 h2 (hk k (Nat.le_refl _))).mono ?_
  rintro e w' ⟨v, rfl, hR, hb⟩
  obtain ⟨B, d, rfl⟩ := Kd.R_slice hR
  exact ⟨_, rfl, ⟨B, d, rfl, (Kd.R_reads' hR).2.2, (Kd.R_reads' hR).2.1⟩, hb⟩
theorem make_n {W : World} {n : Bool} {u v : Value} {p q : List Int} (hu : NL W u p) (hv : NL W v q) (hp : okD p) (hq : okD q) : Calls Try.prog 22 #[.bool n, u, v] W (MakePost W (mkR n (val B32 p) (val B32 q))) := by
  obtain ⟨A1, c1, rfl, a1, b1⟩ := hu
  obtain ⟨A2, c2, rfl, a2, b2⟩ := hv
  exact make_q n A1 c1 p A2 c2 q W a1 b1 a2 b2 hp hq
theorem make0_n {W : World} {n : Bool} {u v : Value} {p q : List Int} (hu : NL W u p) (hv : NL W v q) (hp : okD p) (hq : okD q) (hz : val B32 q = 0) :
    Calls Try.prog 22 #[.bool n, u, v] W fun e w' => ∃ A1 c1 A2 c2, e = .returned (.tuple #[.agg #[.bool false, .slice A1 0 c1, .slice A2 0 c2], .int .i64 17]) ∧ Below W.heap.size W w' := by
  have := make_n (n := n) hu hv hp hq
  rw [mkR_eq, if_pos hz] at this
  refine this.mono ?_
  rintro e w' ⟨v1, v2, rfl, R1, R2, hb⟩
  obtain ⟨A1, c1, rfl⟩ := Kd.R_slice R1
  obtain ⟨A2, c2, rfl⟩ := Kd.R_slice R2
  exact ⟨A1, c1, A2, c2, rfl, hb⟩
theorem makeY_n {W : World} {n : Bool} {u v : Value} {p q : List Int} (hu : NL W u p) (hv : NL W v q) (hp : okD p) (hq : okD q) (hz : val B32 q ≠ 0) : Calls Try.prog 22 #[.bool n, u, v] W (RTE W (nrm n (val B32 p) (val B32 q)) 0) := by
  have := make_n (n := n) hu hv hp hq
  rw [mkR_eq, if_neg hz] at this
  exact this.mono (fun e w' h => MakePost.rte h)
theorem ref_make_n {W : World} {n : Bool} {u v : Value} {a b : Nat} (hu : DT W u a) (hv : DT W v b) (ha : sh a) (hb : sh b) : Calls Try.prog 25 #[.bool n, u, v] W fun e w' => ∃ x, e = .returned x ∧ QT w' W.heap.size x (nrm n a b) ∧ Below W.heap.size W w' := by
  obtain ⟨A1, c1, rfl, a1, b1⟩ := hu
  obtain ⟨A2, c2, rfl, a2, b2⟩ := hv
  obtain ⟨k, hk⟩ := make_ev (n := n) ha hb
  have hk : fluxionref03_Make.f k n _ _ = _ := hk k (Nat.le_refl _)
  unfold DR at hk
  refine (fluxionref03_Make.calls k n A1 c1 _ A2 c2 _ _ _ _ W a1 b1 a2 b2 hk).mono ?_
  rintro e w' ⟨v1, v2, rfl, R1, R2, hb⟩
  exact ⟨_, rfl, ⟨v1, v2, rfl, Kd.R_mono R1 (fun _ _ => trivial), Kd.R_mono R2 (fun _ _ => trivial)⟩, hb⟩
end Go.Proofs.Ytehghijlchpeaaa.Nat1
end
section
namespace Go.Proofs.Ytehghijlchpeaaa.Nat1
open Go.RowKit Go.Proofs.YtehghijlchpeaaaW.PrintWords Go.Proofs.YtehghijlchpeaaaW.PrintLast Go.Proofs.YtehghijlchpeaaaW.PrintMore Go.Proofs.Ytehghijlchpeaaa.L Go.Proofs.Ytehghijlchpeaaa.Nt Go.Proofs.Ytehghijlchpeaaa.Ev
set_option linter.unusedVariables false
set_option linter.unusedSimpArgs false
set_option linter.unusedSectionVars false
def ratMakes.T6 : Bool × List (List Nat × List Nat) := (true, [([], []), ([0], [0]), ([1], [1]), ([2], [2]), ([2], [2]), ([4, 2, 2], [2, 4]), ([2], [2]), ([6, 5, 2], [2, 6]), ([3, 5, 7, 7, 2], [2, 3, 5, 7]), ([2], [2]), ([8, 9, 8, 2], [2, 8, 9]), ([2, 10], [2, 10]), ([11, 10], [11]), ([12, 12], [12]), ([12, 13], [12, 13]), ([14, 13, 0, 1, 2, 3, 4, 5, 6, 7, 8, 9, 10, 11, 12, 13, 14], [14])])
def ratMakes.B6 : List Nat := [0, 1, 3, 7, 7, 23, 7, 119, 255, 7, 1023, 2047, 4095, 8191, 16383, 32767]
theorem ratMakes.tab6 : rtab .any (opsOf Try.f4 6) = ratMakes.T6 := by kernel_rfl
theorem ratMakes.bits6 : waitsOk ratMakes.T6.2 ratMakes.B6 = true := by kernel_rfl
set_option maxHeartbeats 8000000 in
set_option maxRecDepth 100000 in
theorem ratMakes_q (n0 : Bool) (Aa1 : Option Addr) (ca1 : Nat) (p1 : List Int) (Aa2 : Option Addr) (ca2 : Nat) (p2 : List Int) (w : World) (hr_p1 : Kd.C (Kd.int .u32) w Aa1 p1.length p1) (hc_p1 : p1.length ≤ ca1) (ho_p1 : ok B32 p1) (hr_p2 : Kd.C (Kd.int .u32) w Aa2 p2.length p2) (hc_p2 : p2.length ≤ ca2) (ho_p2 : ok B32 p2) :
    Calls Try.prog 4 #[.bool n0, .slice Aa1 p1.length ca1, .slice Aa2 p2.length ca2] w fun e w' => e = .returned (.bool true) ∧ Below w.heap.size w w' := by
  have hu25 := Try.underlying25
  have HF0 := Aside0.mk (fun (g : Nat) (t : TypeId) (W : World) hg (hb : Below w.heap.size w W) => few_q [(Aa1, ca1, p1), (Aa2, ca2, p2)] g t W hg (by
    intro x hx
    simp only [List.mem_cons, List.not_mem_nil, or_false] at hx
    rcases hx with rfl | rfl
    · exact ⟨Kd.C_below hr_p1 hb, hc_p1⟩
    · exact ⟨Kd.C_below hr_p2 hb, hc_p2⟩
    ) (by simp))
  cases hfb : fewB [p1, p2] with
  | false =>
    simp only [List.map_cons, List.map_nil, hfb] at HF0
    clear hfb hr_p1 ho_p1 hr_p2 ho_p2
    go_enter Try.func4, Try.ntmps4
    go_wp2_with fail
    have hg := blk_new w (.cells #[.slice Aa1 p1.length ca1, .slice Aa2 p2.length ca2] 23)
    have hbw : Below w.heap.size w (w.alloc (.cells #[.slice Aa1 p1.length ca1, .slice Aa2 p2.length ca2] 23)) := below_alloc (Below.refl _ _) _
    generalize w.alloc (.cells #[.slice Aa1 p1.length ca1, .slice Aa2 p2.length ca2] 23) = W1 at hg hbw ⊢
    refine (HF0.out _ _ W1 hg hbw).mono ?_
    rintro e w2 ⟨rfl, hd⟩
    obtain ⟨m, rfl⟩ := hd.out
    have HB := Aside0.mk (pw_below_drewN hbw m)
    clear hg hbw hd
    go_wp2_with fail
    refine (known_q _).mono ?_
    rintro e w3 ⟨rfl, hB⟩
    have HB2 := Aside0.mk (below_step HB.out hB)
    clear hB
    go_wp2
    go_ret
    exact ⟨rfl, HB2.out⟩
  | true =>
    have hl : p1.length ≤ 60 ∧ p2.length ≤ 60 := by simpa [fewB] using hfb
    have HP1 := Aside0.mk (show ∀ W : World, Below w.heap.size w W → NL W (.slice Aa1 p1.length ca1) p1 from fun W hb => ⟨_, _, rfl, Kd.C_below hr_p1 hb, hc_p1⟩)
    have KS1 := Aside0.mk (okS60 ho_p1 hl.1)
    have HP2 := Aside0.mk (show ∀ W : World, Below w.heap.size w W → NL W (.slice Aa2 p2.length ca2) p2 from fun W hb => ⟨_, _, rfl, Kd.C_below hr_p2 hb, hc_p2⟩)
    have KS2 := Aside0.mk (okS60 ho_p2 hl.2)
    simp only [List.map_cons, List.map_nil, hfb] at HF0
    clear hfb hl hr_p1 ho_p1 hr_p2 ho_p2
    go_enter Try.func4, Try.ntmps4
    go_wp2_with fail
    have hg := blk_new w (.cells #[.slice Aa1 p1.length ca1, .slice Aa2 p2.length ca2] 23)
    have hbw : Below w.heap.size w (w.alloc (.cells #[.slice Aa1 p1.length ca1, .slice Aa2 p2.length ca2] 23)) := below_alloc (Below.refl _ _) _
    generalize w.alloc (.cells #[.slice Aa1 p1.length ca1, .slice Aa2 p2.length ca2] 23) = W1 at hg hbw ⊢
    refine (HF0.out _ _ W1 hg hbw).mono ?_
    rintro e w2 ⟨rfl, hd⟩
    obtain ⟨m, rfl⟩ := hd.out
    have HB2 := Aside0.mk (pw_below_drewN hbw m)
    clear hg hbw hd HF0
    go_wp2_with fail
    generalize W1.drewN m = W2 at HB2 ⊢
    refine (own_n (HP1.out W2 HB2.out) (Nat.le_trans KS1.out.2 (by decide))).mono ?_
    rintro e W3 ⟨f1, rfl, hN, hB⟩
    have HN1 := Aside0.mk hN
    have HB3 := Aside0.mk (below_step HB2.out hB)
    clear hN hB HB2
    go_wp2_with fail
    refine (own_n (HP2.out W3 HB3.out) (Nat.le_trans KS2.out.2 (by decide))).mono ?_
    rintro e W4 ⟨f2, rfl, hN, hB⟩
    replace HN1 := Aside0.mk (HN1.out.below hB)
    have HN2 := Aside0.mk hN
    have HB4 := Aside0.mk (below_step HB3.out hB)
    clear hN hB HB3
    by_cases hz : val B32 p2 = 0
    · have HM := Aside0.mk (make0_n (n := n0) HN1.out HN2.out KS1.out.okD KS2.out.okD hz)
      have HZ := Aside0.mk (show (dg 10000 (val B32 p2)).length = 0 by rw [hz, D_zero]; rfl)
      clear HN1 HN2 hz
      go_wp2_with fail
      refine HM.out.mono ?_
      rintro e W5 ⟨D1, e1, D2, e2, rfl, hB⟩
      clear HM
      have hA : Below W5.heap.size W5 (W5.alloc (.cells #[.bool false, .slice D1 0 e1, .slice D2 0 e2] 25)) := below_alloc (Below.refl _ _) _
      have hN := blk_new W5 (.cells #[.bool false, .slice D1 0 e1, .slice D2 0 e2] 25)
      obtain ⟨W6, hW⟩ : ∃ W, W = W5.alloc (.cells #[.bool false, .slice D1 0 e1, .slice D2 0 e2] 25) := ⟨_, rfl⟩
      obtain ⟨gx, hgx⟩ : ∃ g, g = W5.heap.size := ⟨_, rfl⟩
      rw [← hW] at hA hN
      rw [← hgx] at hN
      have HX := Aside0.mk hN
      have HB6 := Aside0.mk (below_step (below_step HB4.out hB) hA)
      have HW := Aside0.mk hW
      have HG := Aside0.mk hgx
      clear hA hN hW hgx hB HB4
      go_wp2_with fail
      rw [← HW.out, ← HG.out]
      clear HW HG
      refine (of_n (HP2.out W6 HB6.out) KS2.out).mono ?_
      rintro e W7 ⟨v, rfl, ⟨A, c, rfl, h1, h2⟩, hB⟩
      replace HX := Aside0.mk (blk_below HX.out hB)
      have HB7 := Aside0.mk (below_step HB6.out hB)
      rw [HZ.out]
      clear h1 h2 hB HB6
      obtain ⟨⟨x0, x1, x2⟩, y0, y1, y2⟩ := box3_cells HX.out
      go_wp2_with fail
      refine (known_q _).mono ?_
      rintro e w8 ⟨rfl, hB⟩
      have HB8 := Aside0.mk (below_step HB7.out hB)
      clear hB
      go_wp2
      go_ret
      exact ⟨rfl, HB8.out⟩
    · have HM := Aside0.mk (makeY_n (n := n0) HN1.out HN2.out KS1.out.okD KS2.out.okD hz)
      have HZ := Aside0.mk (show (dg 10000 (val B32 p2)).length ≠ 0 by have := len_pos.2 (Nat.pos_of_ne_zero hz); omega)
      have KX := Aside0.mk (okQ_nrm (n := n0) KS1.out KS2.out)
      have HRM := Aside0.mk (fun (W : World) (u v : Value) hu hv => ref_make_n (W := W) (n := n0) (u := u) (v := v) (a := val B32 p1) (b := val B32 p2) hu hv (okE.sh KS1.out) (okE.sh KS2.out))
      generalize nrm n0 (val B32 p1) (val B32 p2) = X at *
      clear HN1 HN2 hz
      go_wp2_with fail
      refine HM.out.mono ?_
      rintro e W5 ⟨D1, e1, D2, e2, rfl, hR, hB⟩
      clear HM
      have hA : Below W5.heap.size W5 (W5.alloc (.cells #[.bool X.1, .slice D1 (dg B32 X.2.1).length e1, .slice D2 (dg B32 X.2.2).length e2] 25)) := below_alloc (Below.refl _ _) _
      have hN := blk_new W5 (.cells #[.bool X.1, .slice D1 (dg B32 X.2.1).length e1, .slice D2 (dg B32 X.2.2).length e2] 25)
      obtain ⟨W6, hW⟩ : ∃ W, W = W5.alloc (.cells #[.bool X.1, .slice D1 (dg B32 X.2.1).length e1, .slice D2 (dg B32 X.2.2).length e2] 25) := ⟨_, rfl⟩
      obtain ⟨gx, hgx⟩ : ∃ g, g = W5.heap.size := ⟨_, rfl⟩
      rw [← hW] at hA hN
      rw [← hgx] at hN
      have HX := Aside0.mk hN
      have HR := Aside0.mk (hR.below hA)
      have HB6 := Aside0.mk (below_step (below_step HB4.out hB) hA)
      have HW := Aside0.mk hW
      have HG := Aside0.mk hgx
      clear hA hN hW hgx hB HB4 hR
      go_wp2_with fail
      rw [← HW.out, ← HG.out]
      clear HW HG
      refine (of_n (HP2.out W6 HB6.out) KS2.out).mono ?_
      rintro e W7 ⟨v, rfl, ⟨A, c, rfl, h1, h2⟩, hB⟩
      have HB7 := Aside0.mk (below_step HB6.out hB)
      have hX7 := blk_below HX.out hB
      have hR7 := HR.out.below hB
      have HF : Aside0 (∀ w' : World, Below W7.heap.size W7 w' → (w'.cell? ⟨gx, 0, none⟩ = some (.bool X.1) ∧ w'.cell? ⟨gx, 1, none⟩ = some (.slice D1 (dg B32 X.2.1).length e1) ∧ w'.cell? ⟨gx, 2, none⟩ = some (.slice D2 (dg B32 X.2.2).length e2)) ∧ Below w.heap.size w w') := ⟨fun W hb => ⟨⟨(blk_cell (blk_below hX7 hb) 0).trans rfl, (blk_cell (blk_below hX7 hb) 1).trans rfl, (blk_cell (blk_below hX7 hb) 2).trans rfl⟩, below_step HB7.out hb⟩⟩
      replace HR := Aside0.mk hR7
      have hz1 : ¬ ((dg 10000 (val B32 p2)).length = 0) := HZ.out
      have hz2 : (((dg 10000 (val B32 p2)).length : Int) == 0) = false := by rw [beq_eq_false_iff_ne]; omega
      clear h1 h2 hB HB6 HX hX7 hR7
      go_wp2_with fail
      refine start_ (n := 16) (S := fun w' => (w'.cell? ⟨gx, 0, none⟩ = some (.bool X.1) ∧ w'.cell? ⟨gx, 1, none⟩ = some (.slice D1 (dg B32 X.2.1).length e1) ∧ w'.cell? ⟨gx, 2, none⟩ = some (.slice D2 (dg B32 X.2.2).length e2))) (ds := []) #[false, false, false, false, false, false, false, false, false, false, false, false, false, false, false, false] (by kernel_rfl) rfl rfl ((HF.out _ (below_drew1 (Below.refl _ _))).1) (fun hHeld => ?_)
      refine with_tabW ratMakes.tab6 ratMakes.bits6 (fun HT_ HW_ => ?_)
      have hb0 := Aside0.mk (show Below W7.heap.size W7 W7.drew from below_drew1 (Below.refl _ _))
      replace HR := Aside0.mk (HR.out.below hb0.out)
      generalize W7.drew = V0 at hb0 hHeld HR ⊢
      refine pure_ (i := 0) (N := some 50) (v := ?_) (a' := ?_) #[true, false, false, false, false, false, false, false, false, false, false, false, false, false, false, false] rfl rfl (any_of HT_.out (by kernel_rfl)) (fun _ _ _ h => h) (Or.inl ⟨by rfl, ?_⟩) ?_ ?_
      rotate_left
      · intro w'
        go_simp
        with_reducible rfl
      rotate_left
      · simp only [Act.put, List.setIfInBounds_toArray, List.set_cons_zero, List.set_cons_succ, i64_w, i32_w]
        rfl
      refine pure_ (i := 1) (N := some 51) (v := ?_) (a' := ?_) #[true, true, false, false, false, false, false, false, false, false, false, false, false, false, false, false] rfl rfl (any_of HT_.out (by kernel_rfl)) (fun _ _ _ h => h) (Or.inl ⟨by rfl, ?_⟩) ?_ ?_
      rotate_left
      · intro w'
        go_simp
        with_reducible rfl
      rotate_left
      · simp only [Act.put, List.setIfInBounds_toArray, List.set_cons_zero, List.set_cons_succ, i64_w, i32_w]
        rfl
      refine pure_ (i := 2) (N := some 52) (v := ?_) (a' := ?_) #[true, true, true, false, false, false, false, false, false, false, false, false, false, false, false, false] rfl rfl (any_of HT_.out (by kernel_rfl)) (fun _ _ _ h => h) (Or.inl ⟨by rfl, ?_⟩) ?_ ?_
      rotate_left
      · intro w'
        go_simp
        with_reducible rfl
      rotate_left
      · simp only [Act.put, List.setIfInBounds_toArray, List.set_cons_zero, List.set_cons_succ, i64_w, i32_w]
        rfl
      refine pure_ (i := 3) (N := some 53) (v := ?_) (a' := ?_) #[true, true, true, true, false, false, false, false, false, false, false, false, false, false, false, false] rfl rfl (any_of HT_.out (by kernel_rfl)) (fun _ _ _ h => h) (Or.inl ⟨by rfl, ?_⟩) ?_ ?_
      rotate_left
      · intro w'
        go_simp
        with_reducible rfl
      rotate_left
      · simp only [Act.put, List.setIfInBounds_toArray, List.set_cons_zero, List.set_cons_succ, i64_w, i32_w]
        rfl
      refine pure_ (i := 4) (N := some 54) (v := ?_) (a' := ?_) #[true, true, true, true, true, false, false, false, false, false, false, false, false, false, false, false] rfl rfl (any_of HT_.out (by kernel_rfl)) (fun _ _ _ h => h) (Or.inl ⟨by rfl, ?_⟩) ?_ ?_
      rotate_left
      · intro w'
        go_simp
        with_reducible rfl
      rotate_left
      · simp only [Act.put, List.setIfInBounds_toArray, List.set_cons_zero, List.set_cons_succ, i64_w, i32_w]
        rfl
      refine pure_ (i := 6) (N := some 56) (v := ?_) (a' := ?_) #[true, true, true, true, true, false, true, false, false, false, false, false, false, false, false, false] rfl rfl (any_of HT_.out (by kernel_rfl)) (fun _ _ _ h => h) (Or.inl ⟨by rfl, ?_⟩) ?_ ?_
      rotate_left
      · intro w'
        go_simp
        with_reducible rfl
      rotate_left
      · simp only [Act.put, List.setIfInBounds_toArray, List.set_cons_zero, List.set_cons_succ, i64_w, i32_w]
        rfl
      refine take_ (i := 9) (N := some 59) (v := ?_) (a' := ?_) #[true, true, true, true, true, false, true, false, false, true, false, false, false, false, false, false] rfl rfl (take_ofW HT_.out HW_.out (by kernel_rfl)) (fun _ _ _ h => h) (Or.inl ⟨by rfl, ?_⟩) hHeld ?_ ?_
      rotate_left
      · intro w' s0
        go_simp
        with_reducible rfl
      rotate_left
      · simp only [Act.put, List.setIfInBounds_toArray, List.set_cons_zero, List.set_cons_succ, i64_w, i32_w]
        rfl
      refine one_ (i := 5) (N := some 55) #[true, true, true, true, true, true, true, false, false, true, false, false, false, false, false, false] rfl rfl (one_of HT_.out (by kernel_rfl)) (by decide) (fun K hK => ?_)
      refine goes_ Try.func24 (by kernel_rfl) rfl #[.slice Aa1 p1.length ca1] (by rfl) rfl rfl (by (try simp only [List.map_toArray, List.map_cons, List.map_nil]); first | done | rfl) ?_
      refine (of_n (HP1.out V0 (HF.out _ hb0.out).2) KS1.out).mono ?_
      rintro e V1 ⟨f5, rfl, hD, hB⟩
      refine ⟨_, rfl, ?_⟩
      replace HR := Aside0.mk (HR.out.below hB)
      have HD1 := Aside0.mk hD
      have hb1 := Aside0.mk (below_step hb0.out hB)
      clear hB hb0 hD
      refine hK.out _ _ ((HF.out _ hb1.out).1) (fun hHeld => ?_)
      clear hK K
      refine norm_ (a' := ?_) ?_ ?_
      rotate_left
      · show Act.put _ (some 55) _ = _
        simp only [Act.put, List.setIfInBounds_toArray, List.set_cons_zero, List.set_cons_succ, i64_w, i32_w]
        rfl
      refine one_ (i := 7) (N := some 57) #[true, true, true, true, true, true, true, true, false, true, false, false, false, false, false, false] rfl rfl (one_of HT_.out (by kernel_rfl)) (by decide) (fun K hK => ?_)
      refine goes_ Try.func24 (by kernel_rfl) rfl #[.slice Aa2 p2.length ca2] (by rfl) rfl rfl (by (try simp only [List.map_toArray, List.map_cons, List.map_nil]); first | done | rfl) ?_
      refine (of_n (HP2.out V1 (HF.out _ hb1.out).2) KS2.out).mono ?_
      rintro e V2 ⟨f7, rfl, hD, hB⟩
      refine ⟨_, rfl, ?_⟩
      replace HR := Aside0.mk (HR.out.below hB)
      replace HD1 := Aside0.mk (HD1.out.below hB)
      have HD2 := Aside0.mk hD
      have hb2 := Aside0.mk (below_step hb1.out hB)
      clear hB hb1 hD
      refine hK.out _ _ ((HF.out _ hb2.out).1) (fun hHeld => ?_)
      clear hK K
      refine norm_ (a' := ?_) ?_ ?_
      rotate_left
      · show Act.put _ (some 57) _ = _
        simp only [Act.put, List.setIfInBounds_toArray, List.set_cons_zero, List.set_cons_succ, i64_w, i32_w]
        rfl
      refine one_ (i := 8) (N := some 58) #[true, true, true, true, true, true, true, true, true, true, false, false, false, false, false, false] rfl rfl (one_of HT_.out (by kernel_rfl)) (by decide) (fun K hK => ?_)
      refine goes_ Try.func25 (by kernel_rfl) rfl #[.bool n0, f5, f7] (by rfl) rfl rfl (by (try simp only [List.map_toArray, List.map_cons, List.map_nil]); first | done | rfl) ?_
      refine (HRM.out V2 _ _ HD1.out HD2.out).mono ?_
      rintro e V3 ⟨f8, rfl, hQ, hB⟩
      refine ⟨_, rfl, ?_⟩
      clear HD1 HD2
      replace HR := Aside0.mk (HR.out.below hB)
      have HQ := Aside0.mk hQ
      have hb3 := Aside0.mk (below_step hb2.out hB)
      clear hB hb2 hQ
      refine hK.out _ _ ((HF.out _ hb3.out).1) (fun hHeld => ?_)
      clear hK K
      refine norm_ (a' := ?_) ?_ ?_
      rotate_left
      · show Act.put _ (some 58) _ = _
        simp only [Act.put, List.setIfInBounds_toArray, List.set_cons_zero, List.set_cons_succ, i64_w, i32_w]
        rfl
      refine one_ (i := 10) (N := some 60) #[true, true, true, true, true, true, true, true, true, true, true, false, false, false, false, false] rfl rfl (one_of HT_.out (by kernel_rfl)) (by decide) (fun K hK => ?_)
      refine goes_ Try.func20 (by kernel_rfl) rfl #[f8, .agg #[.bool X.1, .slice D1 (dg B32 X.2.1).length e1, .slice D2 (dg B32 X.2.2).length e2]] (by rfl) rfl rfl (by (try simp only [List.map_toArray, List.map_cons, List.map_nil]); first | done | rfl) ?_
      refine (ref_is_same HQ.out HR.out KX.out rfl).mono ?_
      rintro e V4 ⟨rfl, hB⟩
      refine ⟨_, rfl, ?_⟩
      clear HQ
      replace HR := Aside0.mk (HR.out.below hB)
      have hb4 := Aside0.mk (below_step hb3.out hB)
      clear hB hb3
      refine hK.out _ _ ((HF.out _ hb4.out).1) (fun hHeld => ?_)
      clear hK K
      refine norm_ (a' := ?_) ?_ ?_
      rotate_left
      · show Act.put _ (some 60) _ = _
        simp only [Act.put, List.setIfInBounds_toArray, List.set_cons_zero, List.set_cons_succ, i64_w, i32_w]
        rfl
      refine pure_ (i := 11) (N := some 61) (v := ?_) (a' := ?_) #[true, true, true, true, true, true, true, true, true, true, true, true, false, false, false, false] rfl rfl (any_of HT_.out (by kernel_rfl)) (fun _ _ _ h => h) (Or.inl ⟨by rfl, ?_⟩) ?_ ?_
      rotate_left
      · intro w'
        go_simp
        with_reducible rfl
      rotate_left
      · simp only [Act.put, List.setIfInBounds_toArray, List.set_cons_zero, List.set_cons_succ, i64_w, i32_w]
        rfl
      refine pure_ (i := 12) (N := some 62) (v := ?_) (a' := ?_) #[true, true, true, true, true, true, true, true, true, true, true, true, true, false, false, false] rfl rfl (any_of HT_.out (by kernel_rfl)) (fun _ _ _ h => h) (Or.inl ⟨by rfl, ?_⟩) ?_ ?_
      rotate_left
      · intro w'
        go_simp
        with_reducible rfl
      rotate_left
      · simp only [Act.put, List.setIfInBounds_toArray, List.set_cons_zero, List.set_cons_succ, i64_w, i32_w]
        rfl
      refine one_ (i := 13) (N := some 63) #[true, true, true, true, true, true, true, true, true, true, true, true, true, true, false, false] rfl rfl (one_of HT_.out (by kernel_rfl)) (by decide) (fun K hK => ?_)
      refine goes_ Try.func15 (by kernel_rfl) rfl #[] (by rfl) rfl rfl (by (try simp only [List.map_toArray, List.map_cons, List.map_nil]); first | done | rfl) ?_
      refine (known_q V4).mono ?_
      rintro e V5 ⟨rfl, hB⟩
      refine ⟨_, rfl, ?_⟩
      replace HR := Aside0.mk (HR.out.below hB)
      have hb5 := Aside0.mk (below_step hb4.out hB)
      clear hB hb4
      refine hK.out _ _ ((HF.out _ hb5.out).1) (fun hHeld => ?_)
      clear hK K
      refine norm_ (a' := ?_) ?_ ?_
      rotate_left
      · show Act.put _ (some 63) _ = _
        simp only [Act.put, List.setIfInBounds_toArray, List.set_cons_zero, List.set_cons_succ, i64_w, i32_w]
        rfl
      refine pure_ (i := 14) (N := some 64) (v := ?_) (a' := ?_) #[true, true, true, true, true, true, true, true, true, true, true, true, true, true, true, false] rfl rfl (any_of HT_.out (by kernel_rfl)) (fun _ _ _ h => h) (Or.inl ⟨by rfl, ?_⟩) ?_ ?_
      rotate_left
      · intro w'
        go_simp
        with_reducible rfl
      rotate_left
      · simp only [Act.put, List.setIfInBounds_toArray, List.set_cons_zero, List.set_cons_succ, i64_w, i32_w]
        rfl
      refine pure_ (i := 15) (N := some 6) (v := ?_) (a' := ?_) #[true, true, true, true, true, true, true, true, true, true, true, true, true, true, true, true] rfl rfl (any_of HT_.out (by kernel_rfl)) (fun _ _ _ h => h) (Or.inl ⟨by rfl, ?_⟩) ?_ ?_
      rotate_left
      · intro w'
        go_simp
        with_reducible rfl
      rotate_left
      · simp only [Act.put, List.setIfInBounds_toArray, List.set_cons_zero, List.set_cons_succ, i64_w, i32_w]
        rfl
      refine done_ (done_of HT_.out (by kernel_rfl)) ?_
      clear hHeld
      go_wp2
      go_ret
      exact ⟨rfl, (HF.out _ hb5.out).2⟩
end Go.Proofs.Ytehghijlchpeaaa.Nat1
end
section
namespace Go.Proofs.Ytehghijlchpeaaa.ratMakes
open Go.ChangeShapes Go.WideShapes Go.ChangeAt Go.RowKit Go.Joins Go.Proofs.Ytehghijlchpeaaa.Nat1
open Go.ChangeMaps (open_string shut_string)
set_option linter.unusedVariables false
theorem own : ownKnob Try.prog.godebug = none := by kernel_rfl
theorem laidOut : laidOutB Try.prog = true := by kernel_rfl
set_option maxRecDepth 100000 in
theorem lifted (os : Os) (started : os.Started) (H : Type) (enc : TypeId × Value → H) :
    ReturnsInHanded {} Try.checked os 4 .any (Rows.ratMakesSpec.pre6 enc Try.prog Try.f4 Rows.ratMakesRow.domain false) (Rows.ratMakesSpec.post enc Try.prog Try.f4 false true false false) := by
  refine returnsInHanded_of_change_sized (C := Try.checked) own started (by kernel_rfl) Try.func4
    (ChangeSpec.witness6 (enc := enc) (C := Try.checked) false ⟨#[], #[.bool false, .slice none 0 0, .slice none 0 0], []⟩ 8 (by kernel_rfl) (by kernel_rfl) (by kernel_rfl) (by kernel_rfl)) ?_
  intro W base args ds gs before hval0 hW hcnd hsz0 _
  have hval : ∀ (j : Nat) t v, Try.f4.params[j]? = some t → args[j]? = some v → Value.okWide Try.prog W .any base t v := hval0
  have hW' := hW
  obtain ⟨p, q, hA0, hV, rfl, hfz, hnd⟩ := hW
  have hA : DataW.TrodAll enc Try.prog W 0 (fun _ => true) true Try.f4.params.toList args.toList ds p := hA0
  rw [Try.params4] at hA hval
  obtain ⟨v0, vs0, d0, ds0, p0, q0, hargs, rfl, rfl, h0, r0⟩ := trodAll_cons hA
  obtain ⟨v1, vs1, d1, ds1, p1, q1, rfl, rfl, rfl, h1, r1⟩ := trodAll_cons r0
  obtain ⟨v2, vs2, d2, ds2, p2, q2, rfl, rfl, rfl, h2, r2⟩ := trodAll_cons r1
  obtain ⟨rfl, rfl, rfl⟩ := trodAll_nil r2
  obtain rfl : args = #[v0, v1, v2] := by cases args; simp_all
  obtain ⟨rfl, rfl⟩ := trodVars_none hV
  obtain ⟨a0, rfl, rfl, rfl⟩ := open_bool Try.underlying4 (hval 0 4 v0 rfl rfl) h0
  have k1 := h1
  have lt1 : ∀ x ∈ p1, x.block < W.heap.size := by obtain ⟨m, hm⟩ := k1; exact DataW.trod_lt m _ _ _ hm
  obtain ⟨A1, c1, l1, rfl, hr1, hc1, ho1⟩ := nat_argT (hval 1 23 v1 rfl rfl) h1
  have k2 := h2
  have lt2 : ∀ x ∈ p2, x.block < W.heap.size := by obtain ⟨m, hm⟩ := k2; exact DataW.trod_lt m _ _ _ hm
  obtain ⟨A2, c2, l2, rfl, hr2, hc2, ho2⟩ := nat_argT (hval 2 23 v2 rfl rfl) h2
  clear hA0 hval0 hsz0
  refine (ratMakes_q a0 A1 c1 l1 A2 c2 l2 W hr1 hc1 ho1 hr2 hc2 ho2).mono fun e W' ⟨he, bel⟩ => ?_
  subst he
  exact ⟨_, rfl, _, _, _, [], _, [], hW', trodAll_mk1 (shut_bool Try.underlying4 _), (trodAll_cons_mk (shut_bool Try.underlying4 _) (trodAll_cons_mk (Below.trod laidOut (by kernel_rfl) (of_decide_eq_true (by kernel_rfl)) k1 bel lt1) (trodAll_cons_mk (Below.trod laidOut (by kernel_rfl) (of_decide_eq_true (by kernel_rfl)) k2 bel lt2) trodAll_mk0))), rfl, bel.frame _, fun h => by cases h⟩
theorem over : Rows.ratMakesRow.holds Try.pinned (OpenSpec.ofChange Rows.ratMakesSpec) :=
  OpenClaim.holds_of_wide 4 Try.f4 rfl rfl rfl rfl rfl rfl rfl ⟨rfl, rfl, rfl, rfl, rfl⟩ rfl rfl rfl rfl rfl (by kernel_rfl) Try.func4 (by kernel_rfl)
    (of_decide_eq_true (by kernel_rfl)) (by unfold Func.isWrapper; first | (rw [if_pos (by decide +kernel)]; kernel_rfl) | (rw [if_neg (by decide +kernel)]; exact ⟨rfl, rfl⟩))
    (fun os started H enc _ => lifted os started H enc)
end Go.Proofs.Ytehghijlchpeaaa.ratMakes
namespace Go.Proofs.Ytehghijlchpeaaa
theorem ratMakes_holds : Rows.RatMakesSaid := ratMakes.over
end Go.Proofs.Ytehghijlchpeaaa
end
