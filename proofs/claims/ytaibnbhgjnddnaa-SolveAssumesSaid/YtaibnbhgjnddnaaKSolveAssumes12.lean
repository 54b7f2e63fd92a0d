import Derived.StillTailTactics
import Derived.Test.YtaibnbhgjnddnaaKSolveAssumes1
import Derived.Test.YtaibnbhgjnddnaaKSolveAssumes2
import Derived.Test.YtaibnbhgjnddnaaKSolveAssumes11
import Derived.Test.YtaibnbhgjnddnaaKSolveAssumes5
namespace Go.Proofs.Ytaibnbhgjnddnaa.P
open Go.RowKit Go.Proofs.YtaibnbhgjnddnaaW.PrintWords Go.Proofs.YtaibnbhgjnddnaaW.PrintLast Go.Proofs.YtaibnbhgjnddnaaW.PrintMore
attribute [local go_sem] max2_int min2_int max_two min_two max_three min_three max_four min_four
set_option linter.unusedVariables false
set_option linter.unusedSimpArgs false
theorem F_of_old {w0 W : World} {ok : Nat → Prop} {A : Option Addr} {n : Nat} {xs : List Int} (hb : Below w0.heap.size w0 W) (hok : ∀ k, k < w0.heap.size → ok k) (h : Kd.C (Kd.int .i64) w0 A n xs) : Kd.F (Kd.int .i64) W ok A n xs :=
  fun _ hW => (Kd.heap_int .i64).C (fun k hk => (hW k (hok k hk) (Nat.lt_of_lt_of_le hk hb.size)).trans (hb.block k hk)) h
def firstU (S : Nat) (v : Value) (a b : Nat) : Col := fun k => if k = S then 3 else if v.ownBlock = some k then 1 else if a ≤ k ∧ k < b then 5 else 0
theorem SolIn.make {w0 w4 w7 : World} {n fuel : Int} {T : Tag} {E : Eng} {p : EngP} {B lo c7 c1 : Nat} {A7 A1 : Option Addr} {l0 : List (List Int)} {l1 : List Int} {hs : List Hd}
    (he : EngIn w7 B T E p) (ht : ∀ k, k < w4.heap.size → T k = (0, 0)) (hb0 : Below w0.heap.size w0 w4) (hb4 : Below w4.heap.size w4 w7) (hR : Kd.R kH 25 w7 lo (fun _ => True) (.slice A7 hs.length c7) hs) (hlo : ∀ k, lo ≤ k → T k = (0, 0)) (hl0 : w4.heap.size ≤ lo)
    (hds : HdsOf w0 hs l0) (hC1 : Kd.C (Kd.int .i64) w0 A1 l1.length l1) (hc1 : l1.length ≤ c1) :
    SolIn w0 (w7.alloc (.cells #[.pointer (some ⟨B, 0, none⟩), .int .i64 n, .slice A7 hs.length c7, .slice A1 l1.length c1, .slice none 0 0, .int .i64 0, .int .i64 fuel] 57)) w7.heap.size B T (firstU w7.heap.size (.slice A7 hs.length c7) w0.heap.size w4.heap.size)
      ⟨E, n, l0, l1, [], 0, fuel⟩ p { vA := .slice A7 hs.length c7, hs := hs, aA := A1, cA := c1, vL := .slice none 0 0, five := fun k => w4.heap[k]? } := by
  obtain ⟨o, ho⟩ : ∃ o : Obj, o = .cells #[.pointer (some ⟨B, 0, none⟩), .int .i64 n, .slice A7 hs.length c7, .slice A1 l1.length c1, .slice none 0 0, .int .i64 0, .int .i64 fuel] 57 := ⟨_, rfl⟩
  have hx := blk_new w7 (.cells #[.pointer (some ⟨B, 0, none⟩), .int .i64 n, .slice A7 hs.length c7, .slice A1 l1.length c1, .slice none 0 0, .int .i64 0, .int .i64 fuel] 57)
  rw [← ho] at hx ⊢
  have hal : Below w7.heap.size w7 (w7.alloc o) := zqb (zqw _ _) _
  have hsz : (w7.alloc o).heap.size = w7.heap.size + 1 := by simp
  have hlt : ∀ k, (Value.slice A7 hs.length c7).ownBlock = some k → k < w7.heap.size := fun k e => Kd.R_lt hR k e
  have hge : ∀ k, (Value.slice A7 hs.length c7).ownBlock = some k → lo ≤ k := fun k e => Kd.R_base hR k e
  have hb := zqo hb0 hb4
  have hw0 := hb.size
  have hw4 := hb0.size
  have hw7 := hb4.size
  have hu0 : ∀ k, k < w0.heap.size → firstU w7.heap.size (.slice A7 hs.length c7) w0.heap.size w4.heap.size k = 0 := fun k hk => by
    unfold firstU
    rw [if_neg (by omega), if_neg (fun e => by have := hge k e; omega), if_neg (by omega)]
  have hb8 : Below w0.heap.size w0 (w7.alloc o) := zqo hb hal
  refine { e := he.below hal, blk := by rw [hx, ho]; rfl, tS := he.fresh _ (zqx _), uS := if_pos rfl, fresh := fun k hk => ?_, all := ?_, len := hds.1, rows := ?_, log := Kd.N_nil _ _ _ _ _, uL := fun k e => (by cases e), asm := F_of_old hb8 (fun k hk => ⟨ht k (by omega), .inr hk⟩) hC1, asmc := hc1, old := hb8, t0 := fun k hk => ⟨ht k (by omega), hu0 k hk⟩, five := fun g hg => ?_ }
  · rw [hsz] at hk
    unfold firstU
    rw [if_neg (by omega), if_neg (fun e => by have := hlt k e; omega), if_neg (by omega)]
  · refine Kd.R_of_own (Kd.own_of_R (Kd.R_lower (Kd.R_below hR hal) (Nat.zero_le _))) (fun k hk => ⟨hlo k (hge k hk), ?_⟩)
    unfold firstU
    rw [if_neg (fun e => by have := hlt k hk; omega), if_pos hk]
  · intro i h c hh hc
    obtain ⟨a, b, d⟩ := hds.2 i h c hh hc
    exact ⟨a, b, F_of_old hb8 (fun k hk => ⟨ht k (by omega), .inr hk⟩) d⟩
  unfold firstU at hg
  split at hg
  · cases hg
  split at hg
  · cases hg
  split at hg
  · rename_i hk
    exact ⟨ht g hk.2, (hal.block g (by omega)).trans (hb4.block g hk.2)⟩
  cases hg
def underP (k m i : Nat) (n : Int) (l : List (List Int)) (asm : List Int) (fuel : Int) (r : Found) : Prop :=
  ∃ ra re, cnf_Right.f k n l = some (ra, re) ∧ (if re ≠ 0 then r = Found.bad re 0 else ∃ e2, lit_Right.f k asm n = some e2 ∧ (if e2 ≠ 0 then r = Found.bad e2 0 else if fuel < 0 ∨ 1048576 < fuel then r = Found.bad 1 0
    else l.length < 2199023255552 ∧ (0 ≤ n ∧ n ≤ 1024) ∧ (∀ x ∈ asm, (Lit.int .i64 x).wf = true) ∧ ∃ E, Eng.new k n l = some (E, 0) ∧ (∀ c ∈ l, ∀ r, lit_Clean.f c = some r → ∀ x ∈ r.1, (Lit.int .i64 x).wf = true) ∧ Sol.runs k m i ⟨E, n, l, asm, [], 0, fuel⟩ r))
def UnderPost (w : World) (r : Found) (e : Ending) (w' : World) : Prop :=
  Below w.heap.size w w' ∧ ∃ vV vL vN, e = .returned (.tuple #[.agg #[.bool r.sat, vV, vL, .int .i64 r.steps], vN, .int .i64 r.err]) ∧ Kd.R Kd.bool 4 w' 0 (fun k => w.heap.size ≤ k) vV r.vals ∧ Kd.N k64 64 w' 0 (fun k => (w.heap.size ≤ k ∧ some k ≠ vN.ownBlock) ∧ some k ≠ vV.ownBlock) vL r.log ∧ Kd.R (Kd.int .i64) 3 w' 0 (fun k => w.heap.size ≤ k) vN r.need
set_option maxRecDepth 100000 in
set_option maxHeartbeats 8000000 in
theorem solve_Under.walk (k m i : Nat) (n : Int) (A0 : Option Addr) (c0 : Nat) (l0 : List (List Int)) (A1 : Option Addr) (c1 : Nat) (l1 : List Int) (fuel : Int) (r : Found) (w0 w : World) (hb0 : Below w0.heap.size w0 w)
    (hr0 : Kd.C (Kd.slice 3 (Kd.int .i64)) w0 A0 l0.length l0) (hc0 : l0.length ≤ c0) (hr1 : Kd.C (Kd.int .i64) w0 A1 l1.length l1) (hc1 : l1.length ≤ c1) (hf : underP k m i n l0 l1 fuel r) :
    Calls Try.prog 12 #[.agg #[.int .i64 n, .slice A0 l0.length c0], .slice A1 l1.length c1, .int .i64 fuel] w fun e w' => UnderPost w r e w' := by
  obtain ⟨ra, re, hcr, hf⟩ := hf
  have HB0 := K0 hb0; have HR00 := K0 hr0; have HR10 := K0 hr1
  have hr0 := Kd.C_below hr0 hb0
  have hr1 := Kd.C_below hr1 hb0
  have HR0 := K0 hr0; have HC0 := K0 hc0; have HR1 := K0 hr1; have HC1 := K0 hc1
  have hu24 := Try.underlying24
  have hu33 := Try.underlying33
  have HF := K0 hf
  obtain ⟨W1, hW1⟩ : ∃ W1, w.alloc (.cells #[.int .i64 n, .slice A0 l0.length c0] 24) = W1 := ⟨_, rfl⟩
  obtain ⟨W2, hW2⟩ : ∃ W2, W1.alloc (.cells #[.bool false, .slice none 0 0, .slice none 0 0, .int .i64 0] 33) = W2 := ⟨_, rfl⟩
  obtain ⟨g3, hg3⟩ : ∃ g, w.heap.size = g := ⟨_, rfl⟩
  have hs1 : W1.heap.size = g3 + 1 := by rw [← hW1, ← hg3]; simp
  obtain ⟨g6, hg6⟩ : ∃ g, g3 + 1 = g := ⟨_, rfl⟩
  have b1 : Below w.heap.size w W1 := by rw [← hW1]; exact zqb (zqw _ _) _
  have b2 : Below W1.heap.size W1 W2 := by rw [← hW2]; exact zqb (zqw _ _) _
  have n1 := blk_new w (.cells #[.int .i64 n, .slice A0 l0.length c0] 24)
  have n2 := blk_new W1 (.cells #[.bool false, .slice none 0 0, .slice none 0 0, .int .i64 0] 33)
  rw [hW1, hg3] at n1
  rw [hW2, hs1, hg6] at n2
  have HX3 := K0 (zqn n1 b2)
  have HX6 := K0 n2
  have HB := K0 (zqo b1 b2)
  have HGE := K0 (show w.heap.size ≤ g3 ∧ w.heap.size ≤ g6 by omega)
  have hg7 : W1.heap.size = g6 := by rw [hs1, hg6]
  have HCR := K0 (cnf_Right.calls k n A0 c0 l0 ra re W2 (Kd.C_below hr0 HB.out) hc0 hcr)
  have c30 : W2.cell? ⟨g3, 0, none⟩ = some (.int .i64 n) := (zql HX3.out 0).trans rfl
  have c31 : W2.cell? ⟨g3, 1, none⟩ = some (.slice A0 l0.length c0) := (zql HX3.out 1).trans rfl
  clear hr0 hc0 hr1 hc1 hf hcr b1 b2 n1 n2 hs1
  go_enter Try.func12, Try.ntmps12
  go_wp2_with fail
  refine HCR.out.mono ?_
  rintro e' w3 ⟨rfl, hb3⟩
  have HX33 := K0 (zqn HX3.out hb3)
  have HX63 := K0 (zqn HX6.out hb3)
  have HB3 := K0 (zqo HB.out hb3)
  clear hb3 HCR c30 c31
  by_cases hre : re = 0
  case neg =>
    have hf := HF.out
    rw [if_pos hre] at hf
    have q1 : (re != 0) = true := by simpa using hre
    have HRE := K0 hf
    have hx8 := HX63.out
    have e0 := zql hx8 0
    have e1 := zql hx8 1
    have e2_ := zql hx8 2
    have e3 := zql hx8 3
    have y0 := zqm hx8 0
    have y1 := zqm hx8 1
    have y2 := zqm hx8 2
    have y3 := zqm hx8 3
    have HB8 := K0 (put4_facts hx8 (.bool false) (.slice none 0 0) (.slice none 0 0) (.int .i64 0)).2.2.2.2
    have HP8 := K0 (put4_below HB3.out HGE.out.2 (.bool false) (.slice none 0 0) (.slice none 0 0) (.int .i64 0))
    clear hx8 hf
    go_wp2
    try simp only [Exit.inBlock, Exit.then, Exit.noGoto_ret]
    refine bodyPost_ret (results_cell3 rfl _ _ g6 _ _ _ _ rfl HB8.out hu33 rfl (by kernel_rfl)) rfl ?_
    exact ⟨HP8.out, _, _, _, by rw [HRE.out]; rfl, by rw [HRE.out]; exact Kd.R_nil _ _ _ _ _, by rw [HRE.out]; exact Kd.N_nil _ _ _ _ _, by rw [HRE.out]; exact Kd.R_nil _ _ _ _ _⟩
  case pos =>
  have hf := HF.out
  rw [if_neg (by simpa using hre)] at hf
  obtain ⟨e2, hlr, hf⟩ := hf
  have q1 : (re != 0) = false := by rw [hre]; rfl
  have HF2 := K0 hf
  have HLR := K0 (lit_Right.calls k A1 c1 l1 n e2 w3 (Kd.C_below HR1.out HB3.out) HC1.out hlr)
  have c30 : w3.cell? ⟨g3, 0, none⟩ = some (.int .i64 n) := (zql HX33.out 0).trans rfl
  clear hf HF hlr hre
  go_wp2_with fail
  refine HLR.out.mono ?_
  rintro e' w4 ⟨rfl, nd, rfl⟩
  have hb4 : Below w3.heap.size w3 (w3.drewN nd) := ⟨rfl, rfl, rfl, zqx _, fun _ _ => rfl⟩
  obtain ⟨w4, hw4⟩ : ∃ w4, w3.drewN nd = w4 := ⟨_, rfl⟩
  rw [hw4] at hb4 ⊢
  have HX34 := K0 (zqn HX33.out hb4)
  have HX64 := K0 (zqn HX63.out hb4)
  have HB4 := K0 (zqo HB3.out hb4)
  clear hb4 hw4 HLR c30 HX33 HX63 HB3
  by_cases hre : e2 = 0
  case neg =>
    have hf := HF2.out
    rw [if_pos hre] at hf
    have q2 : (e2 != 0) = true := by simpa using hre
    have HRE := K0 hf
    have hx8 := HX64.out
    have e0 := zql hx8 0
    have e1 := zql hx8 1
    have e2_ := zql hx8 2
    have e3 := zql hx8 3
    have y0 := zqm hx8 0
    have y1 := zqm hx8 1
    have y2 := zqm hx8 2
    have y3 := zqm hx8 3
    have HB8 := K0 (put4_facts hx8 (.bool false) (.slice none 0 0) (.slice none 0 0) (.int .i64 0)).2.2.2.2
    have HP8 := K0 (put4_below HB4.out HGE.out.2 (.bool false) (.slice none 0 0) (.slice none 0 0) (.int .i64 0))
    clear hx8 hf
    go_wp2
    try simp only [Exit.inBlock, Exit.then, Exit.noGoto_ret]
    refine bodyPost_ret (results_cell3 rfl _ _ g6 _ _ _ _ rfl HB8.out hu33 rfl (by kernel_rfl)) rfl ?_
    exact ⟨HP8.out, _, _, _, by rw [HRE.out]; rfl, by rw [HRE.out]; exact Kd.R_nil _ _ _ _ _, by rw [HRE.out]; exact Kd.N_nil _ _ _ _ _, by rw [HRE.out]; exact Kd.R_nil _ _ _ _ _⟩
  case pos =>
  have hf := HF2.out
  rw [if_neg (by simpa using hre)] at hf
  have q2 : (e2 != 0) = false := by rw [hre]; rfl
  have HF3 := K0 hf; clear hf HF2 hre
  by_cases hfu : fuel < 0 ∨ 1048576 < fuel
  case pos =>
    have hf := HF3.out
    rw [if_pos hfu] at hf
    by_cases hf0 : fuel < 0
    case pos =>
      have q3 : decide (fuel < 0) = true := zqt hf0
      clear hfu hf0; have HRE := K0 hf
      have hx8 := HX64.out
      have e0 := zql hx8 0
      have e1 := zql hx8 1
      have e2_ := zql hx8 2
      have e3 := zql hx8 3
      have y0 := zqm hx8 0
      have y1 := zqm hx8 1
      have y2 := zqm hx8 2
      have y3 := zqm hx8 3
      have HB8 := K0 (put4_facts hx8 (.bool false) (.slice none 0 0) (.slice none 0 0) (.int .i64 0)).2.2.2.2
      have HP8 := K0 (put4_below HB4.out HGE.out.2 (.bool false) (.slice none 0 0) (.slice none 0 0) (.int .i64 0))
      clear hx8 hf
      go_wp2
      try simp only [Exit.inBlock, Exit.then, Exit.noGoto_ret]
      refine bodyPost_ret (results_cell3 rfl _ _ g6 _ _ _ _ rfl HB8.out hu33 rfl (by kernel_rfl)) rfl ?_
      exact ⟨HP8.out, _, _, _, by rw [HRE.out]; rfl, by rw [HRE.out]; exact Kd.R_nil _ _ _ _ _, by rw [HRE.out]; exact Kd.N_nil _ _ _ _ _, by rw [HRE.out]; exact Kd.R_nil _ _ _ _ _⟩
    have q3 : decide (fuel < 0) = false := zqu hf0
    have q4 : decide ((1048576 : Int) < fuel) = true := zqt (hfu.resolve_left hf0)
    clear hfu hf0; have HRE := K0 hf
    have hx8 := HX64.out
    have e0 := zql hx8 0
    have e1 := zql hx8 1
    have e2_ := zql hx8 2
    have e3 := zql hx8 3
    have y0 := zqm hx8 0
    have y1 := zqm hx8 1
    have y2 := zqm hx8 2
    have y3 := zqm hx8 3
    have HB8 := K0 (put4_facts hx8 (.bool false) (.slice none 0 0) (.slice none 0 0) (.int .i64 0)).2.2.2.2
    have HP8 := K0 (put4_below HB4.out HGE.out.2 (.bool false) (.slice none 0 0) (.slice none 0 0) (.int .i64 0))
    clear hx8 hf
    go_wp2
    try simp only [Exit.inBlock, Exit.then, Exit.noGoto_ret]
    refine bodyPost_ret (results_cell3 rfl _ _ g6 _ _ _ _ rfl HB8.out hu33 rfl (by kernel_rfl)) rfl ?_
    exact ⟨HP8.out, _, _, _, by rw [HRE.out]; rfl, by rw [HRE.out]; exact Kd.R_nil _ _ _ _ _, by rw [HRE.out]; exact Kd.N_nil _ _ _ _ _, by rw [HRE.out]; exact Kd.R_nil _ _ _ _ _⟩
  case neg =>
  have hf := HF3.out
  rw [if_neg hfu] at hf
  obtain ⟨hll, hnn, hasw, E, hnew, hclw, hruns⟩ := hf
  have q3 : decide (fuel < 0) = false := zqu (by omega)
  have q4 : decide ((1048576 : Int) < fuel) = false := zqu (by omega)
  have HNN := K0 hnn; have HLL := K0 hll; have HASW := K0 hasw; have HRUNS := K0 hruns
  have c30 : w4.cell? ⟨g3, 0, none⟩ = some (.int .i64 n) := (zql HX34.out 0).trans rfl
  have c31 : w4.cell? ⟨g3, 1, none⟩ = some (.slice A0 l0.length c0) := (zql HX34.out 1).trans rfl
  have HNEW := K0 (eng_New.calls k n A0 c0 l0 E w4 (Kd.C_below HR0.out HB4.out) HC0.out hclw hnew)
  clear hfu hll hnn hasw hruns hnew hclw HF3
  go_wp2_with fail
  refine HNEW.out.mono ?_
  rintro e' w5 ⟨B, rfl, T, p, he, hb5, ht5⟩
  have HE := K0 he; have HT5 := K0 ht5
  have HX35 := K0 (zqn HX34.out hb5)
  have HX65 := K0 (zqn HX64.out hb5)
  have HB5 := K0 (zqo HB4.out hb5)
  have HB45 := K0 hb5
  have HR14 := K0 (Kd.C_below HR1.out HB4.out)
  clear he hb5 ht5 HNEW c30 c31 HX34
  obtain ⟨hs, hds, hC⟩ := HdsOf.part HR00.out
  have hC := Kd.C_below hC (zqo HB0.out HB5.out)
  have hlen := hds.1
  have HCLN := K0 (fun (W : World) (hb : Below w5.heap.size w5 W) => by
    have h := slices_Clone_rows.calls A0 c0 hs W (by rw [hlen]; exact Kd.C_below hC hb) (by rw [hlen]; exact HC0.out) (by have := HLL.out; omega)
    rw [hlen] at h
    exact h)
  have HDS := K0 hds
  have d0 : w5.cell? ⟨g3, 0, none⟩ = some (.int .i64 n) := (zql HX35.out 0).trans rfl
  have d1 : w5.cell? ⟨g3, 1, none⟩ = some (.slice A0 l0.length c0) := (zql HX35.out 1).trans rfl
  have hdr : Below w5.heap.size w5 (w5.drew) := below_drew (zqw _ _)
  clear hds hC
  go_upto_region 10 with fail
  refine start_ (n := 11) (S := fun w' => w'.cell? ⟨g3, 0, none⟩ = some (.int .i64 n) ∧ w'.cell? ⟨g3, 1, none⟩ = some (.slice A0 l0.length c0) ∧ Below w5.heap.size w5 w') (ds := [9]) #[false, false, false, false, false, false, false, false, false, false, false] (by kernel_rfl) rfl rfl ⟨d0, d1, hdr⟩ (fun hHeld => ?_)
  refine pure_ (i := 0) (N := some 44) (v := ?_) (a' := ?_) #[true, false, false, false, false, false, false, false, false, false, false] rfl rfl (by kernel_rfl) (fun _ _ _ h => h) (Or.inl ⟨by rfl, ?_⟩) ?_ ?_
  rotate_left
  · intro w'
    go_simp
    with_reducible rfl
  rotate_left
  · simp only [Act.put, zqf, zqg, zqh, i64_w, i32_w]
    rfl
  refine pure_ (i := 1) (N := some 45) (v := ?_) (a' := ?_) #[true, true, false, false, false, false, false, false, false, false, false] rfl rfl (by kernel_rfl) (fun _ _ _ h => h) (Or.inl ⟨by rfl, ?_⟩) ?_ ?_
  rotate_left
  · intro w'
    go_simp
    with_reducible rfl
  rotate_left
  · simp only [Act.put, zqf, zqg, zqh, i64_w, i32_w]
    rfl
  refine pure_ (i := 3) (N := some 47) (v := ?_) (a' := ?_) #[true, true, false, true, false, false, false, false, false, false, false] rfl rfl (by kernel_rfl) (fun _ _ _ h => h) (Or.inl ⟨by rfl, ?_⟩) ?_ ?_
  rotate_left
  · intro w'
    go_simp
    with_reducible rfl
  rotate_left
  · simp only [Act.put, zqf, zqg, zqh, i64_w, i32_w]
    rfl
  refine pure_ (i := 6) (N := some 50) (v := ?_) (a' := ?_) #[true, true, false, true, false, false, true, false, false, false, false] rfl rfl (by kernel_rfl) (fun _ _ _ h => h) (Or.inl ⟨by rfl, ?_⟩) ?_ ?_
  rotate_left
  · intro w'
    go_simp
    with_reducible rfl
  rotate_left
  · simp only [Act.put, zqf, zqg, zqh, i64_w, i32_w]
    rfl
  refine pure_ (i := 7) (N := some 51) (v := ?_) (a' := ?_) #[true, true, false, true, false, false, true, true, false, false, false] rfl rfl (by kernel_rfl) (fun _ _ _ h => h) (Or.inl ⟨by rfl, ?_⟩) ?_ ?_
  rotate_left
  · intro w'
    go_simp
    with_reducible rfl
  rotate_left
  · simp only [Act.put, zqf, zqg, zqh, i64_w, i32_w]
    rfl
  refine take_ (i := 2) (N := some 46) (v := ?_) (a' := ?_) #[true, true, true, true, false, false, true, true, false, false, false] rfl rfl (by kernel_rfl) (fun _ _ _ h => h) (Or.inl ⟨by rfl, ?_⟩) hHeld ?_ ?_
  rotate_left
  · rintro w' ⟨s0, s1, s2⟩
    go_simp
    with_reducible rfl
  rotate_left
  · simp only [Act.put, zqf, zqg, zqh, i64_w, i32_w]
    rfl
  refine take_ (i := 4) (N := some 48) (v := ?_) (a' := ?_) #[true, true, true, true, true, false, true, true, false, false, false] rfl rfl (by kernel_rfl) (fun _ _ _ h => h) (Or.inl ⟨by rfl, ?_⟩) hHeld ?_ ?_
  rotate_left
  · rintro w' ⟨s0, s1, s2⟩
    go_simp
    with_reducible rfl
  rotate_left
  · simp only [Act.put, zqf, zqg, zqh, i64_w, i32_w]
    rfl
  refine one_ (i := 5) (N := some 49) #[true, true, true, true, true, true, true, true, false, false, false] rfl rfl (by kernel_rfl) (by decide) (fun K hK => ?_)
  refine goes_ Try.func26 (by kernel_rfl) rfl #[.slice A0 l0.length c0] (by rfl) rfl rfl (by simp only [List.map_toArray, List.map_cons, List.map_nil]; rfl) ?_
  with_reducible refine (HCLN.out _ hHeld.2.2).mono ?_
  rintro e' w7 ⟨v7, rfl, r7, hb7⟩
  refine ⟨_, rfl, ?_⟩
  obtain ⟨A7, c7, e7⟩ := Kd.R_slice r7
  subst e7; have HR7 := K0 r7; have HB7 := K0 hb7; clear r7
  refine hK.out _ _ ⟨pw_cell_below hb7 hHeld.1, pw_cell_below hb7 hHeld.2.1, zqo hHeld.2.2 hb7⟩ (fun hHeld => ?_)
  clear hK K
  refine norm_ (a' := ?_) ?_ ?_
  rotate_left
  · show Act.put _ (some 49) _ = _
    simp only [Act.put, zqf, zqg, zqh, i64_w, i32_w]
    rfl
  refine pure_ (i := 8) (N := some 52) (v := ?_) (a' := ?_) #[true, true, true, true, true, true, true, true, true, false, false] rfl rfl (by kernel_rfl) (fun _ _ _ h => h) (Or.inl ⟨by rfl, ?_⟩) ?_ ?_
  rotate_left
  · intro w'
    go_simp
    with_reducible rfl
  rotate_left
  · simp only [Act.put, zqf, zqg, zqh, i64_w, i32_w]
    rfl
  refine last_ (i := 9) (N := some 53) #[true, true, true, true, true, true, true, true, true, true, false] rfl rfl (by kernel_rfl) (by decide) (fun K hK => ?_)
  refine value_ (w1 := ?_) (v := ?_) (by rfl) rfl ?_ ?_
  rotate_left 2
  · go_simp
    constructor
    · rfl
    rfl
  refine hK.out _ _ ?_
  clear hK K
  refine norm_ (a' := ?_) ?_ ?_
  rotate_left
  · show Act.put _ (some 53) _ = _
    simp only [Act.put, zqf, zqg, zqh, i64_w, i32_w]
    rfl
  refine pure_ (i := 10) (N := some 14) (v := ?_) (a' := ?_) #[true, true, true, true, true, true, true, true, true, true, true] rfl rfl (by kernel_rfl) (fun _ _ _ h => h) (Or.inl ⟨by rfl, ?_⟩) ?_ ?_
  rotate_left
  · intro w'
    go_simp
    with_reducible rfl
  rotate_left
  · simp only [Act.put, zqf, zqg, zqh, i64_w, i32_w]
    rfl
  refine done_ (by kernel_rfl) ?_
  have hsz7 : w5.heap.size ≤ w5.drew.heap.size := zqx _
  have hb57 := hHeld.2.2
  have HX67 := K0 (zqn HX65.out hb57)
  have hg6 : g6 < w4.heap.size := blk_lt HX64.out
  have b04 := zqo HB0.out HB4.out
  have hs8 := SolIn.make (w0 := w0) (w4 := w4) (n := n) (fuel := fuel) (HE.out.below hb57) HT5.out b04 (zqo HB45.out hb57) HR7.out (fun j hj => HE.out.fresh j hj) HB45.out.size HDS.out HR10.out HC1.out
  obtain ⟨W8, hW8⟩ : ∃ W8, w7.alloc (.cells #[.pointer (some ⟨B, 0, none⟩), .int .i64 n, .slice A7 hs.length c7, .slice A1 l1.length c1, .slice none 0 0, .int .i64 0, .int .i64 fuel] 57) = W8 := ⟨_, rfl⟩
  rw [hW8] at hs8
  have hb78 : Below w7.heap.size w7 W8 := by rw [← hW8]; exact zqb (zqw _ _) _
  have hx68 := zqn HX67.out hb78
  have hsz57 := hb57.size
  have hsz78 := hb78.size
  have hsz45 := HB45.out.size
  have HU5 := K0 (show ∀ g, w0.heap.size ≤ g → g < w4.heap.size → firstU w7.heap.size (.slice A7 hs.length c7) w0.heap.size w4.heap.size g = 5 from fun g h1 h2 => by
    unfold firstU
    rw [if_neg (by omega), if_neg (fun e => by have := Kd.R_base HR7.out g e; omega), if_pos ⟨h1, h2⟩])
  have HB48 := K0 (zqo (zqo HB45.out hb57) hb78)
  have HG6 := K0 hg6
  have HRUN := K0 (sol_run.calls k m i r hs8 HASW.out HNN.out HRUNS.out)
  have HX68 := K0 hx68
  rw [hlen] at hW8
  clear hs8 hb78 hx68 hsz57 hsz78 hsz45 hb57 hsz7 hg6 hlen b04
  rw [hW8]
  go_wp2_with fail
  refine HRUN.out.mono ?_
  rintro e' w8 ⟨ho4, hx4, vV, vL, vN, rfl, rV, rL, rN⟩
  have hgw : w0.heap.size ≤ g6 := Nat.le_trans HB0.out.size HGE.out.2
  have hx8 := (hx4 g6 (HU5.out g6 hgw HG6.out)).trans HX68.out
  have hok : ∀ j, okU w0 (firstU w7.heap.size (.slice A7 hs.length c7) w0.heap.size w4.heap.size) j → (w.heap.size ≤ j) ∧ j ≠ g6 := fun j hj => by
    have h1 := HB4.out.size
    have h0 := hj.1
    by_cases h : w0.heap.size ≤ j ∧ j < w4.heap.size
    case pos =>
      exact absurd (HU5.out j h.1 h.2) hj.2
    have := HG6.out
    exact ⟨by omega, by omega⟩
  have b04 := zqo HB0.out HB4.out
  have hw8 : Below w4.heap.size w4 w8 := ⟨ho4.1.trans b04.1.symm, ho4.2.trans b04.2.symm, ho4.3.trans b04.3.symm, by
    have h1 := HG6.out
    have h2 := K5.lt ((hx4 (w4.heap.size - 1) (HU5.out _ (by omega) (by omega))).trans (HB48.out.block _ (by omega))) (by omega)
    omega, fun j hj => by
    by_cases h : j < w0.heap.size
    case pos =>
      exact (ho4.block j h).trans (b04.block j h).symm
    exact (hx4 j (HU5.out j (by omega) hj)).trans (HB48.out.block j hj)⟩
  obtain ⟨AV, cV, eV⟩ := Kd.R_slice rV
  obtain ⟨AL, cL, eL⟩ := Kd.N_slice rL
  obtain ⟨AN, cN, eN⟩ := Kd.R_slice rN
  subst eV eL eN
  have e0 := zql hx8 0
  have e1 := zql hx8 1
  have e2_ := zql hx8 2
  have e3 := zql hx8 3
  have y0 := zqm hx8 0
  have y1 := zqm hx8 1
  have y2 := zqm hx8 2
  have y3 := zqm hx8 3
  have HB8 := K0 (put4_facts hx8 (.bool r.sat) (.slice AV r.vals.length cV) (.slice AL r.log.length cL) (.int .i64 r.steps)).2.2.2.2
  have HP8 := K0 (put4_below (zqo HB4.out hw8) HGE.out.2 (.bool r.sat) (.slice AV r.vals.length cV) (.slice AL r.log.length cL) (.int .i64 r.steps))
  have hfar := put4_far (w := w8) (g := g6) (.bool r.sat) (.slice AV r.vals.length cV) (.slice AL r.log.length cL) (.int .i64 r.steps)
  have HV8 := K0 (Kd.R_mono (Kd.R_step rV (fun j hj _ => hfar j (hok j hj).2)) (fun j hj => (hok j hj).1) (ok' := fun j => w.heap.size ≤ j))
  have HL8 := K0 (Kd.N_mono (Kd.N_step rL (fun j hj _ => hfar j (hok j hj.1.1).2)) (fun j hj => ⟨⟨(hok j hj.1.1).1, hj.1.2⟩, hj.2⟩) (ok' := fun j => (w.heap.size ≤ j ∧ some j ≠ (Value.slice AN r.need.length cN).ownBlock) ∧ some j ≠ (Value.slice AV r.vals.length cV).ownBlock))
  have HN8 := K0 (Kd.R_mono (Kd.R_step rN (fun j hj _ => hfar j (hok j hj).2)) (fun j hj => (hok j hj).1) (ok' := fun j => w.heap.size ≤ j))
  clear hx8 hx4 ho4 rV rL rN hfar HRUN hok hw8 b04 hgw
  go_wp2
  try simp only [Exit.inBlock, Exit.then, Exit.noGoto_ret]
  refine bodyPost_ret (results_cell3 rfl _ _ g6 _ _ _ _ rfl HB8.out hu33 rfl (by kernel_rfl)) rfl ?_
  exact ⟨HP8.out, _, _, _, rfl, HV8.out, HL8.out, HN8.out⟩
theorem own_rebase {w : World} {b b' e s n : Nat} {v : Value} {xs : List Value} (h : w.ownsRow b e s v n xs) (hk : ∀ k, v.ownBlock = some k → b' ≤ k) : w.ownsRow b' e s v n xs := by
  obtain ⟨h0, h⟩ := h
  refine ⟨h0, h.imp id ?_⟩
  rintro ⟨g, cap, cur, e1, _, rest⟩
  exact ⟨g, cap, cur, e1, hk g (by rw [e1]; rfl), rest⟩
theorem N_rebase {α : Type} {d : Kd α} {e : Nat} {w : World} {b b' : Nat} {ok : Nat → Prop} {v : Value} {xs : List α} (h : Kd.N d e w b ok v xs) (hk : ∀ k, ok k → b' ≤ k) : Kd.N d e w b' ok v xs := by
  obtain ⟨h0, rows, hl, ⟨hr0, inner, ho, hrp⟩, hf⟩ := h
  exact ⟨h0, rows, hl, ⟨hr0, inner, own_rebase ho (fun k e => hk k (h0 k e)), hrp⟩, hf⟩
theorem R_rebase {α : Type} {enc : α → Value} {h1 : ∀ x, (enc x).oneCell' = true} {e : Nat} {w : World} {b b' : Nat} {ok : Nat → Prop} {v : Value} {xs : List α} (h : (Kd.scalar enc h1).R e w b ok v xs) (hk : ∀ k, ok k → b' ≤ k) : (Kd.scalar enc h1).R e w b' ok v xs :=
  Kd.R_of_own (own_rebase (Kd.own_of_R h) (fun k e => hk k (h.1 k e))) h.1
def Sol.told (n : Int) (l : List (List Int)) (asm : List Int) (fuel : Int) (r : Found) : Prop := ∃ K : Nat, ∀ k m i, K ≤ k → K ≤ m → K ≤ i → underP k m i n l asm fuel r
noncomputable def solve_Under.f (n : Int) (l : List (List Int)) (asm : List Int) (fuel : Int) : Option (Bool × List Bool × (List S64) × Int × List Int × Int) :=
  @dite _ (∃ r : Found, Sol.told n l asm fuel r) (Classical.propDecidable _) (fun h => some ((Classical.choose h).sat, (Classical.choose h).vals, (Classical.choose h).log, (Classical.choose h).steps, (Classical.choose h).need, (Classical.choose h).err)) (fun _ => none)
theorem solve_Under.inv {n : Int} {l : List (List Int)} {asm : List Int} {fuel : Int} {t : Bool × List Bool × (List S64) × Int × List Int × Int} (h : solve_Under.f n l asm fuel = some t) : ∃ r : Found, Sol.told n l asm fuel r ∧ t = (r.sat, r.vals, r.log, r.steps, r.need, r.err) := by
  unfold solve_Under.f at h
  split at h
  · rename_i hx
    exact ⟨Classical.choose hx, Classical.choose_spec hx, (zqv h).symm⟩
  cases h
theorem solve_Under.tells {n : Int} {l : List (List Int)} {asm : List Int} {fuel : Int} (h : ∃ r : Found, Sol.told n l asm fuel r) : ∃ r : Found, Sol.told n l asm fuel r ∧ solve_Under.f n l asm fuel = some (r.sat, r.vals, r.log, r.steps, r.need, r.err) :=
  ⟨Classical.choose h, Classical.choose_spec h, dif_pos h⟩
theorem solve_Under.calls (a0_0 : Int) (A0_1 : Option Addr) (c0_1 : Nat) (l0_1 : List (List Int)) (A1 : Option Addr) (c1 : Nat) (l1 : List Int) (a2 : Int) (r1 : Bool) (r2 : List Bool) (r3 : List S64) (r4 : Int) (r5 : List Int) (r6 : Int) (w : World) (hr0_1 : Kd.C (Kd.slice 3 (Kd.int .i64)) w A0_1 l0_1.length l0_1) (hc0_1 : l0_1.length ≤ c0_1) (hr1 : Kd.C (Kd.int .i64) w A1 l1.length l1) (hc1 : l1.length ≤ c1) (h : solve_Under.f a0_0 l0_1 l1 a2 = some (r1, r2, r3, r4, r5, r6)) :
    Calls Try.prog 12 #[.agg #[.int .i64 a0_0, .slice A0_1 l0_1.length c0_1], .slice A1 l1.length c1, .int .i64 a2] w fun e w' => ∃ v1_ v2_ v4_ : Value, e = .returned (.tuple #[.agg #[.bool r1, v1_, v2_, .int .i64 r4], v4_, .int .i64 r6]) ∧ Kd.R Kd.bool 4 w' w.heap.size (fun k_ => (w.heap.size ≤ k_)) v1_ r2 ∧ Kd.N k64 64 w' w.heap.size (fun k_ => (w.heap.size ≤ k_) ∧ some k_ ≠ (v1_ : Value).ownBlock ∧ some k_ ≠ (v4_ : Value).ownBlock) v2_ r3 ∧ Kd.R (Kd.int .i64) 3 w' w.heap.size (fun k_ => (w.heap.size ≤ k_)) v4_ r5 ∧ Below w.heap.size w w' := by
  obtain ⟨r, ⟨K, hu⟩, ht⟩ := solve_Under.inv h
  injection ht with t1 ht
  injection ht with t2 ht
  injection ht with t3 ht
  injection ht with t4 ht
  injection ht with t5 t6
  subst t1 t2 t3 t4 t5 t6
  refine (solve_Under.walk K K K a0_0 A0_1 c0_1 l0_1 A1 c1 l1 a2 r w w (zqw _ _) hr0_1 hc0_1 hr1 hc1 (hu K K K (zqx _) (zqx _) (zqx _))).mono ?_
  rintro e w' ⟨hb, vV, vL, vN, rfl, hV, hL, hN⟩
  exact ⟨vV, vL, vN, rfl, R_rebase hV (fun _ h => h), Kd.N_mono (N_rebase hL (fun _ h => h.1.1)) (fun k hk => ⟨hk.1.1, hk.2, hk.1.2⟩), R_rebase hN (fun _ h => h), hb⟩
noncomputable def solve_Run.f (n : Int) (l : List (List Int)) (fuel : Int) : Option (Bool × List Bool × (List S64) × Int × Int) := (solve_Under.f n l [] fuel).bind fun t => some (t.1, t.2.1, t.2.2.1, t.2.2.2.1, t.2.2.2.2.2)
set_option maxRecDepth 100000 in
set_option maxHeartbeats 8000000 in
theorem solve_Run.calls (a0_0 : Int) (A0_1 : Option Addr) (c0_1 : Nat) (l0_1 : List (List Int)) (a1 : Int) (r1 : Bool) (r2 : List Bool) (r3 : List S64) (r4 : Int) (r5 : Int) (w : World) (hr0_1 : Kd.C (Kd.slice 3 (Kd.int .i64)) w A0_1 l0_1.length l0_1) (hc0_1 : l0_1.length ≤ c0_1) (h : solve_Run.f a0_0 l0_1 a1 = some (r1, r2, r3, r4, r5)) :
    Calls Try.prog 16 #[.agg #[.int .i64 a0_0, .slice A0_1 l0_1.length c0_1], .int .i64 a1] w fun e w' => ∃ v1_ v2_ : Value, e = .returned (.tuple #[.agg #[.bool r1, v1_, v2_, .int .i64 r4], .int .i64 r5]) ∧ Kd.R Kd.bool 4 w' w.heap.size (fun k_ => (w.heap.size ≤ k_)) v1_ r2 ∧ Kd.N k64 64 w' w.heap.size (fun k_ => (w.heap.size ≤ k_) ∧ some k_ ≠ (v1_ : Value).ownBlock) v2_ r3 ∧ Below w.heap.size w w' := by
  unfold solve_Run.f at h
  obtain ⟨⟨s1, s2, s3, s4, s5, s6⟩, hU, h⟩ := Option.bind_eq_some_iff.1 h
  injection h with h
  injection h with t1 h
  injection h with t2 h
  injection h with t3 h
  injection h with t4 t5
  subst t1 t2 t3 t4 t5
  have hu24 := Try.underlying24
  have hu33 := Try.underlying33
  obtain ⟨W1, hW1⟩ : ∃ W1, w.alloc (.cells #[.int .i64 a0_0, .slice A0_1 l0_1.length c0_1] 24) = W1 := ⟨_, rfl⟩
  obtain ⟨W2, hW2⟩ : ∃ W2, W1.alloc (.cells #[.bool false, .slice none 0 0, .slice none 0 0, .int .i64 0] 33) = W2 := ⟨_, rfl⟩
  obtain ⟨g2, hg2⟩ : ∃ g, w.heap.size = g := ⟨_, rfl⟩
  have hs1 : W1.heap.size = g2 + 1 := by rw [← hW1, ← hg2]; simp
  obtain ⟨g4, hg4⟩ : ∃ g, g2 + 1 = g := ⟨_, rfl⟩
  have b1 : Below w.heap.size w W1 := by rw [← hW1]; exact zqb (zqw _ _) _
  have b2 : Below W1.heap.size W1 W2 := by rw [← hW2]; exact zqb (zqw _ _) _
  have n1 := blk_new w (.cells #[.int .i64 a0_0, .slice A0_1 l0_1.length c0_1] 24)
  have n2 := blk_new W1 (.cells #[.bool false, .slice none 0 0, .slice none 0 0, .int .i64 0] 33)
  rw [hW1, hg2] at n1
  rw [hW2, hs1, hg4] at n2
  have hx2 := zqn n1 b2
  have HX4 := K0 n2
  have HB := K0 (zqo b1 b2)
  have HGE := K0 (show w.heap.size ≤ g4 by omega)
  have hg5 : W1.heap.size = g4 := by rw [hs1, hg4]
  have hs2 : W2.heap.size = g4 + 1 := by rw [← hW2, ← hg5]; simp
  have HLT := K0 (show w.heap.size ≤ g4 ∧ g4 < W2.heap.size by omega)
  have HU := K0 (solve_Under.calls a0_0 A0_1 c0_1 l0_1 none 0 [] a1 s1 s2 s3 s4 s5 s6 W2 (Kd.C_below hr0_1 HB.out) hc0_1 (Kd.R_reads' (Kd.R_nil (Kd.int .i64) 3 W2 0 (fun _ => True))).2.2 (zqx _) hU)
  have c20 : W2.cell? ⟨g2, 0, none⟩ = some (.int .i64 a0_0) := (zql hx2 0).trans rfl
  have c21 : W2.cell? ⟨g2, 1, none⟩ = some (.slice A0_1 l0_1.length c0_1) := (zql hx2 1).trans rfl
  clear hr0_1 hc0_1 hU b1 b2 n1 n2 hs1 hs2 hx2
  go_enter Try.func16, Try.ntmps16
  go_wp2_with fail
  refine HU.out.mono ?_
  rintro e' w3 ⟨vV, vL, vN, rfl, rV, rL, rN, hb3⟩
  obtain ⟨AV, cV, eV⟩ := Kd.R_slice rV
  obtain ⟨AL, cL, eL⟩ := Kd.N_slice rL
  obtain ⟨AN, cN, eN⟩ := Kd.R_slice rN
  subst eV eL eN
  have h43 := zqn HX4.out hb3
  obtain ⟨o7, ho7⟩ : ∃ o : Obj, (Obj.cells #[.bool s1, .slice AV s2.length cV, .slice AL s3.length cL, .int .i64 s4] 33 (0, 0)) = o := ⟨_, rfl⟩
  have hx7 := blk_new w3 o7
  have b37 : Below w3.heap.size w3 (w3.alloc o7) := zqb (zqw _ _) _
  have h47 := zqn h43 b37
  have HB7 := K0 (zqo (zqo HB.out hb3) b37)
  have HR7 := K0 (Kd.R_below rV b37)
  have HL7 := K0 (Kd.N_below rL b37)
  have HO7 := K0 ho7
  obtain ⟨g7, hg7⟩ : ∃ g, w3.heap.size = g := ⟨_, rfl⟩
  have HG7 := K0 (show W2.heap.size ≤ g7 by rw [← hg7]; exact hb3.size)
  rw [hg7] at hx7
  clear rV rL rN b37 h43 HU c20 c21 hb3 HX4
  go_upto_region 2 with fail
  try rw [ho7]
  try rw [hg7]
  obtain ⟨W7, hW7⟩ : ∃ W7, w3.alloc o7 = W7 := ⟨_, rfl⟩
  rw [hW7] at hx7 h47 HB7 HR7 HL7 ⊢
  clear hW7 hg7
  rw [← ho7] at hx7
  clear ho7 HO7
  have f0 := zql hx7 0
  have f1 := zql hx7 1
  have f2 := zql hx7 2
  have f3 := zql hx7 3
  have i0 := zql h47 0
  have i1 := zql h47 1
  have i2 := zql h47 2
  have i3 := zql h47 3
  have z0 := zqm h47 0
  have z1 := zqm h47 1
  have z2 := zqm h47 2
  have z3 := zqm h47 3
  have HB8 := K0 (put4_facts h47 (.bool s1) (.slice AV s2.length cV) (.slice AL s3.length cL) (.int .i64 s4)).2.2.2.2
  have HP8 := K0 (put4_below HB7.out HGE.out (.bool s1) (.slice AV s2.length cV) (.slice AL s3.length cL) (.int .i64 s4))
  have hfar := fun j (hj : W2.heap.size ≤ j) => put4_far (w := W7) (g := g4) (.bool s1) (.slice AV s2.length cV) (.slice AL s3.length cL) (.int .i64 s4) j (by have := HLT.out; omega)
  have hok : ∀ j, W2.heap.size ≤ j → w.heap.size ≤ j := fun j hj => Nat.le_trans HB.out.size hj
  have HV8 := K0 (Kd.R_mono (Kd.R_lower (Kd.R_step HR7.out (fun j hj _ => hfar j hj)) HB.out.size) hok)
  have HL8 := K0 (Kd.N_mono (Kd.N_lower (Kd.N_step HL7.out (fun j hj _ => hfar j hj.1)) HB.out.size) (fun j hj => ⟨hok j hj.1, hj.2.1⟩) (ok' := fun k_ => (w.heap.size ≤ k_) ∧ some k_ ≠ (Value.slice AV s2.length cV).ownBlock))
  clear hfar hok HR7 HL7 HB7 hx7 h47
  go_wp2
  refine bodyPost_ret (results_cell2 rfl _ _ g4 _ _ _ _ rfl HB8.out hu33 rfl (by kernel_rfl)) rfl ?_
  exact ⟨_, _, rfl, HV8.out, HL8.out, HP8.out⟩
noncomputable def sequiturlaw22_goes.f0 (k : Nat)  : Option (Bool) := (solve_Run.f 1 (([(([1] : List Int)), (([(-1)] : List Int))] : List (List Int))) 100).bind fun bt150 => ((solve_Under.f 2 (([(([(-1), (-2)] : List Int))] : List (List Int))) (([1, 2] : List Int)) 100).bind fun bt169 => (if bt150.2.2.2.2 = 0 then (if bt150.1 = true then (some false) else (if (bt150.2.2.1.length : Int) > 0 then (if bt169.2.2.2.2.2 = 0 then (if bt169.1 = true then (some false) else ((sequiturbase_Ints.f k bt169.2.2.2.2.1 (([1, 2] : List Int))).bind fun t185 => (if t185 = true then (some (decide ((bt169.2.2.1.length : Int) > 0))) else (some false)))) else (some false)) else (some false))) else (some false)))
theorem sequiturlaw22_goes.mono0 : ∀ k, LeO (sequiturlaw22_goes.f0 k ) (sequiturlaw22_goes.f0 (k + 1) ) := by
  intro  k
  unfold sequiturlaw22_goes.f0
  repeat' first
      | (with_reducible exact sequiturbase_Ints.mono _ _ _)
      | (with_reducible exact LeO.refl _)
      | (with_reducible exact LeO.none _)
      | (with_reducible refine LeO.ite ?_ ?_)
      | (with_reducible refine LeO.bind ?_ (fun _ => ?_))
      | exact sequiturbase_Ints.mono _ _ _
      | exact LeO.none _
      | refine LeO.ite ?_ ?_
      | refine LeO.bind ?_ (fun _ => ?_)
set_option maxHeartbeats 8000000 in
set_option maxRecDepth 100000 in
theorem sequiturlaw22_goes.calls0 (k : Nat)  (r : Bool) (w : World) (hT : r = true) (h : sequiturlaw22_goes.f0 k  = some r) :
    Calls Try.prog 11 #[] w fun e w' => e = .returned (.bool r) ∧ Below w.heap.size w w' := by
  have HT := K0 hT; clear hT
  have hu24 := Try.underlying24
  have hu33 := Try.underlying33
  have HB := K0 (zqw w.heap.size w)
  have H : ((solve_Run.f 1 (([(([1] : List Int)), (([(-1)] : List Int))] : List (List Int))) 100).bind fun bt150 => ((solve_Under.f 2 (([(([(-1), (-2)] : List Int))] : List (List Int))) (([1, 2] : List Int)) 100).bind fun bt169 => (if bt150.2.2.2.2 = 0 then (if bt150.1 = true then (some false) else (if (bt150.2.2.1.length : Int) > 0 then (if bt169.2.2.2.2.2 = 0 then (if bt169.1 = true then (some false) else ((sequiturbase_Ints.f k bt169.2.2.2.2.1 (([1, 2] : List Int))).bind fun t185 => (if t185 = true then (some (decide ((bt169.2.2.1.length : Int) > 0))) else (some false)))) else (some false)) else (some false))) else (some false)))) = some r := h
  clear h
  obtain ⟨y141, hy141⟩ : ∃ y_ : List Int, y_ = (([1] : List Int)) := ⟨_, rfl⟩
  replace H : ((solve_Run.f 1 (([y141, (([(-1)] : List Int))] : List (List Int))) 100).bind fun bt150 => ((solve_Under.f 2 (([(([(-1), (-2)] : List Int))] : List (List Int))) (([1, 2] : List Int)) 100).bind fun bt169 => (if bt150.2.2.2.2 = 0 then (if bt150.1 = true then (some false) else (if (bt150.2.2.1.length : Int) > 0 then (if bt169.2.2.2.2.2 = 0 then (if bt169.1 = true then (some false) else ((sequiturbase_Ints.f k bt169.2.2.2.2.1 (([1, 2] : List Int))).bind fun t185 => (if t185 = true then (some (decide ((bt169.2.2.1.length : Int) > 0))) else (some false)))) else (some false)) else (some false))) else (some false)))) = some r := by first | (rw [hy141]; with_reducible exact H) | (have H2_ := (Option.bind_some _ _).symm.trans H; rw [hy141]; with_reducible exact H2_) | (have H2_ := (Option.bind_some _ _).symm.trans H; with_reducible exact H2_) | with_reducible exact H | (rw [hy141]; exact H) | exact H
  have Ny141 := K0 hy141; clear hy141
  obtain ⟨y144, hy144⟩ : ∃ y_ : List Int, y_ = (([(-1)] : List Int)) := ⟨_, rfl⟩
  replace H : ((solve_Run.f 1 (([y141, y144] : List (List Int))) 100).bind fun bt150 => ((solve_Under.f 2 (([(([(-1), (-2)] : List Int))] : List (List Int))) (([1, 2] : List Int)) 100).bind fun bt169 => (if bt150.2.2.2.2 = 0 then (if bt150.1 = true then (some false) else (if (bt150.2.2.1.length : Int) > 0 then (if bt169.2.2.2.2.2 = 0 then (if bt169.1 = true then (some false) else ((sequiturbase_Ints.f k bt169.2.2.2.2.1 (([1, 2] : List Int))).bind fun t185 => (if t185 = true then (some (decide ((bt169.2.2.1.length : Int) > 0))) else (some false)))) else (some false)) else (some false))) else (some false)))) = some r := by first | (rw [hy144]; with_reducible exact H) | (have H2_ := (Option.bind_some _ _).symm.trans H; rw [hy144]; with_reducible exact H2_) | (have H2_ := (Option.bind_some _ _).symm.trans H; with_reducible exact H2_) | with_reducible exact H | (rw [hy144]; exact H) | exact H
  have Ny144 := K0 hy144; clear hy144
  obtain ⟨y147, hy147⟩ : ∃ y_ : List (List Int), y_ = (([y141, y144] : List (List Int))) := ⟨_, rfl⟩
  replace H : ((solve_Run.f 1 y147 100).bind fun bt150 => ((solve_Under.f 2 (([(([(-1), (-2)] : List Int))] : List (List Int))) (([1, 2] : List Int)) 100).bind fun bt169 => (if bt150.2.2.2.2 = 0 then (if bt150.1 = true then (some false) else (if (bt150.2.2.1.length : Int) > 0 then (if bt169.2.2.2.2.2 = 0 then (if bt169.1 = true then (some false) else ((sequiturbase_Ints.f k bt169.2.2.2.2.1 (([1, 2] : List Int))).bind fun t185 => (if t185 = true then (some (decide ((bt169.2.2.1.length : Int) > 0))) else (some false)))) else (some false)) else (some false))) else (some false)))) = some r := by first | (rw [hy147]; with_reducible exact H) | (have H2_ := (Option.bind_some _ _).symm.trans H; rw [hy147]; with_reducible exact H2_) | (have H2_ := (Option.bind_some _ _).symm.trans H; with_reducible exact H2_) | with_reducible exact H | (rw [hy147]; exact H) | exact H
  have Ny147 := K0 hy147; clear hy147
  replace H := Option.bind_eq_some_iff.mp H
  obtain ⟨⟨t150, t151, t154, t157, t158⟩, A10, H⟩ := H
  replace H : ((solve_Under.f 2 (([(([(-1), (-2)] : List Int))] : List (List Int))) (([1, 2] : List Int)) 100).bind fun bt169 => (if t158 = 0 then (if t150 = true then (some false) else (if (t154.length : Int) > 0 then (if bt169.2.2.2.2.2 = 0 then (if bt169.1 = true then (some false) else ((sequiturbase_Ints.f k bt169.2.2.2.2.1 (([1, 2] : List Int))).bind fun t185 => (if t185 = true then (some (decide ((bt169.2.2.1.length : Int) > 0))) else (some false)))) else (some false)) else (some false))) else (some false))) = some r := H
  have A1 := K0 A10; clear A10
  obtain ⟨y160, hy160⟩ : ∃ y_ : List Int, y_ = (([(-1), (-2)] : List Int)) := ⟨_, rfl⟩
  replace H : ((solve_Under.f 2 (([y160] : List (List Int))) (([1, 2] : List Int)) 100).bind fun bt169 => (if t158 = 0 then (if t150 = true then (some false) else (if (t154.length : Int) > 0 then (if bt169.2.2.2.2.2 = 0 then (if bt169.1 = true then (some false) else ((sequiturbase_Ints.f k bt169.2.2.2.2.1 (([1, 2] : List Int))).bind fun t185 => (if t185 = true then (some (decide ((bt169.2.2.1.length : Int) > 0))) else (some false)))) else (some false)) else (some false))) else (some false))) = some r := by first | (rw [hy160]; with_reducible exact H) | (have H2_ := (Option.bind_some _ _).symm.trans H; rw [hy160]; with_reducible exact H2_) | (have H2_ := (Option.bind_some _ _).symm.trans H; with_reducible exact H2_) | with_reducible exact H | (rw [hy160]; exact H) | exact H
  have Ny160 := K0 hy160; clear hy160
  obtain ⟨y163, hy163⟩ : ∃ y_ : List (List Int), y_ = (([y160] : List (List Int))) := ⟨_, rfl⟩
  replace H : ((solve_Under.f 2 y163 (([1, 2] : List Int)) 100).bind fun bt169 => (if t158 = 0 then (if t150 = true then (some false) else (if (t154.length : Int) > 0 then (if bt169.2.2.2.2.2 = 0 then (if bt169.1 = true then (some false) else ((sequiturbase_Ints.f k bt169.2.2.2.2.1 (([1, 2] : List Int))).bind fun t185 => (if t185 = true then (some (decide ((bt169.2.2.1.length : Int) > 0))) else (some false)))) else (some false)) else (some false))) else (some false))) = some r := by first | (rw [hy163]; with_reducible exact H) | (have H2_ := (Option.bind_some _ _).symm.trans H; rw [hy163]; with_reducible exact H2_) | (have H2_ := (Option.bind_some _ _).symm.trans H; with_reducible exact H2_) | with_reducible exact H | (rw [hy163]; exact H) | exact H
  have Ny163 := K0 hy163; clear hy163
  obtain ⟨y166, hy166⟩ : ∃ y_ : List Int, y_ = (([1, 2] : List Int)) := ⟨_, rfl⟩
  replace H : ((solve_Under.f 2 y163 y166 100).bind fun bt169 => (if t158 = 0 then (if t150 = true then (some false) else (if (t154.length : Int) > 0 then (if bt169.2.2.2.2.2 = 0 then (if bt169.1 = true then (some false) else ((sequiturbase_Ints.f k bt169.2.2.2.2.1 (([1, 2] : List Int))).bind fun t185 => (if t185 = true then (some (decide ((bt169.2.2.1.length : Int) > 0))) else (some false)))) else (some false)) else (some false))) else (some false))) = some r := by first | (rw [hy166]; with_reducible exact H) | (have H2_ := (Option.bind_some _ _).symm.trans H; rw [hy166]; with_reducible exact H2_) | (have H2_ := (Option.bind_some _ _).symm.trans H; with_reducible exact H2_) | with_reducible exact H | (rw [hy166]; exact H) | exact H
  have Ny166 := K0 hy166; clear hy166
  replace H := Option.bind_eq_some_iff.mp H
  obtain ⟨⟨t169, t170, t173, t176, t177, t180⟩, A20, H⟩ := H
  replace H : (if t158 = 0 then (if t150 = true then (some false) else (if (t154.length : Int) > 0 then (if t180 = 0 then (if t169 = true then (some false) else ((sequiturbase_Ints.f k t177 (([1, 2] : List Int))).bind fun t185 => (if t185 = true then (some (decide ((t173.length : Int) > 0))) else (some false)))) else (some false)) else (some false))) else (some false)) = some r := H
  have A2 := K0 A20; clear A20
  by_cases c3 : t158 = 0
  case neg =>
    rw [if_neg c3] at H
    have c3b0 : (t158 == 0) = false := beq_eq_false_iff_ne.mpr c3
    have c3b1 : (t158 != 0) = true := bne_iff_ne.mpr c3
    exact absurd ((zqv (show some false = some r from H)).trans HT.out) (by decide)
  rw [if_pos c3] at H
  have c3b0 : (t158 == 0) = true := beq_iff_eq.mpr c3
  have c3b1 : (t158 != 0) = false := bne_eq_false_iff_eq.mpr c3
  clear c3
  by_cases c4 : t150 = true
  case pos =>
    subst c4
    have H1 : (some false) = some r := by rw [if_pos rfl] at H; exact H
    clear H
    have H := H1
    clear H1
    exact absurd ((zqv (show some false = some r from H)).trans HT.out) (by decide)
  replace c4 := Bool.eq_false_iff.mpr c4
  subst c4
  have H1 : (if (t154.length : Int) > 0 then (if t180 = 0 then (if t169 = true then (some false) else ((sequiturbase_Ints.f k t177 (([1, 2] : List Int))).bind fun t185 => (if t185 = true then (some (decide ((t173.length : Int) > 0))) else (some false)))) else (some false)) else (some false)) = some r := by rw [if_neg (show ¬ (false = true) by decide)] at H; exact H
  clear H
  have H := H1
  clear H1
  by_cases c5 : (t154.length : Int) > 0
  case neg =>
    rw [if_neg c5] at H
    have c5b0 : decide (0 < (t154.length : Int)) = false := zqu c5
    have c5b1 : decide (0 < t154.length) = false := zqu (by omega)
    clear c5
    exact absurd ((zqv (show some false = some r from H)).trans HT.out) (by decide)
  rw [if_pos c5] at H
  have c5b0 : decide (0 < (t154.length : Int)) = true := zqt c5
  have c5b1 : decide (0 < t154.length) = true := zqt (by omega)
  clear c5
  by_cases c6 : t180 = 0
  case neg =>
    rw [if_neg c6] at H
    have c6b0 : (t180 == 0) = false := beq_eq_false_iff_ne.mpr c6
    have c6b1 : (t180 != 0) = true := bne_iff_ne.mpr c6
    exact absurd ((zqv (show some false = some r from H)).trans HT.out) (by decide)
  rw [if_pos c6] at H
  have c6b0 : (t180 == 0) = true := beq_iff_eq.mpr c6
  have c6b1 : (t180 != 0) = false := bne_eq_false_iff_eq.mpr c6
  clear c6
  by_cases c7 : t169 = true
  case pos =>
    subst c7
    have H1 : (some false) = some r := by rw [if_pos rfl] at H; exact H
    clear H
    have H := H1
    clear H1
    exact absurd ((zqv (show some false = some r from H)).trans HT.out) (by decide)
  replace c7 := Bool.eq_false_iff.mpr c7
  subst c7
  have H1 : ((sequiturbase_Ints.f k t177 (([1, 2] : List Int))).bind fun t185 => (if t185 = true then (some (decide ((t173.length : Int) > 0))) else (some false))) = some r := by rw [if_neg (show ¬ (false = true) by decide)] at H; exact H
  clear H
  have H := H1
  clear H1
  obtain ⟨y182, hy182⟩ : ∃ y_ : List Int, y_ = (([1, 2] : List Int)) := ⟨_, rfl⟩
  replace H : ((sequiturbase_Ints.f k t177 y182).bind fun t185 => (if t185 = true then (some (decide ((t173.length : Int) > 0))) else (some false))) = some r := by first | (rw [hy182]; with_reducible exact H) | (have H2_ := (Option.bind_some _ _).symm.trans H; rw [hy182]; with_reducible exact H2_) | (have H2_ := (Option.bind_some _ _).symm.trans H; with_reducible exact H2_) | with_reducible exact H | (rw [hy182]; exact H) | exact H
  have Ny182 := K0 hy182; clear hy182
  replace H := Option.bind_eq_some_iff.mp H
  obtain ⟨t185, A80, H⟩ := H
  replace H : (if t185 = true then (some (decide ((t173.length : Int) > 0))) else (some false)) = some r := H
  have A8 := K0 A80; clear A80
  by_cases c9 : t185 = true
  case neg =>
    replace c9 := Bool.eq_false_iff.mpr c9
    subst c9
    have H1 : (some false) = some r := by rw [if_neg (show ¬ (false = true) by decide)] at H; exact H
    clear H
    have H := H1
    clear H1
    exact absurd ((zqv (show some false = some r from H)).trans HT.out) (by decide)
  subst c9
  have H1 : (some (decide ((t173.length : Int) > 0))) = some r := by rw [if_pos rfl] at H; exact H
  clear H
  have H := H1
  clear H1
  as_aux_lemma =>
    obtain rfl := zqv H
    go_enter Try.func11, Try.ntmps11
    go_wp2_with (first | ((with_reducible refine gate_dst (N := 7) rfl ?_); (try (refine gate_guard (by rfl) ?_; dsimp only)); refine Kd.R_lit (Kd.int .i64) _ 3 ?hg (N := 7) ?hd (xs := ([1] : List Int)) (inner := [.int .i64 1]) (ok := fun _ => True) (okp := fun _ => True) ?hr ?hp (fun _ hk => hk) trivial (zqw _ _) (zqx _) (by simp) ?_; (case hd => rfl); (case hg => rfl); (case hr => first | (go_simp; done) | (go_simp; rfl)); (case hp => exact (Reps.one (show Kd.M (Kd.int .i64) _ _ _ 1 [.int .i64 1] from rfl) (Reps.none _ _))); intro v142 w10 ho11 hb hg_ hnew_; clear hg_ hnew_; (first | rw [← Ny141.out] at ho11 | (simp only [Int.reduceToNat] at ho11; rw [← Ny141.out] at ho11)); have n0_ := K0 (Kd.R_lower ho11 (zqp (by repeat (first | (with_reducible first | exact HB.out | apply zqb | apply zqa | apply zqc) | exact HB.out)))); have n1_ := K0 (zqo (by repeat (first | (with_reducible first | exact HB.out | apply zqb | apply zqa | apply zqc) | exact HB.out)) hb); clear HB; have HO143 := n0_; have HB := n1_; clear n0_ n1_; clear hb ho11) | ((with_reducible refine gate_dst (N := 8) rfl ?_); (try (refine gate_guard (by rfl) ?_; dsimp only)); refine Kd.R_lit (Kd.int .i64) _ 3 ?hg (N := 8) ?hd (xs := ([(-1)] : List Int)) (inner := [.int .i64 (-1)]) (ok := fun _ => True) (okp := fun _ => True) ?hr ?hp (fun _ hk => hk) trivial (zqw _ _) (zqx _) (by simp) ?_; (case hd => rfl); (case hg => rfl); (case hr => first | (go_simp; done) | (go_simp; rfl)); (case hp => exact (Reps.one (show Kd.M (Kd.int .i64) _ _ _ (-1) [.int .i64 (-1)] from rfl) (Reps.none _ _))); intro v145 w12 ho13 hb hg_ hnew_; clear hg_ hnew_; (first | rw [← Ny144.out] at ho13 | (simp only [Int.reduceToNat] at ho13; rw [← Ny144.out] at ho13)); have n0_ := K0 (Kd.R_elder' (by (with_reducible repeat (first | apply Kd.R_alloc | apply Kd.R_drewN | apply Kd.R_drew)); exact HO143.out) (Kd.R_base ho13) hb); have n1_ := K0 (Kd.R_lower (Kd.R_new' ho13 (Kd.R_lt (by (with_reducible repeat (first | apply Kd.R_alloc | apply Kd.R_drewN | apply Kd.R_drew)); exact HO143.out))) (zqp (by repeat (first | (with_reducible first | exact HB.out | apply zqb | apply zqa | apply zqc) | exact HB.out)))); have n2_ := K0 (zqo (by repeat (first | (with_reducible first | exact HB.out | apply zqb | apply zqa | apply zqc) | exact HB.out)) hb); clear HO143; clear HB; have HO143 := n0_; have HO146 := n1_; have HB := n2_; clear n0_ n1_ n2_; clear hb ho13; obtain ⟨Ao14, co14, eo14⟩ := Kd.R_slice HO143.out; subst eo14; obtain ⟨Ao15, co15, eo15⟩ := Kd.R_slice HO146.out; subst eo15) | ((with_reducible refine gate_dst (N := 9) rfl ?_); (try (refine gate_guard (by rfl) ?_; dsimp only)); refine Kd.N_lit (Kd.slice 3 (Kd.int .i64)) _ 25 ?hg (N' := 9) ?hd (xs := ([y141, y144] : List (List Int))) (inner := [.slice Ao14 y141.length co14, .slice Ao15 y144.length co15]) (ok := (fun _ => True)) (okp := (fun _ => True)) ?hr ?hp (fun _ hk => hk) ((show ∀ k_, w12.heap.size ≤ k_ → (fun _ => True) k_ from fun k_ hk => trivial) _ (zqx _)) (zqw _ _) (zqx _) (by simp) ?_; (case hd => rfl); (case hg => rfl); (case hr => first | (go_simp; done) | (go_simp; rfl)); (case hp => exact (Reps.one (show Kd.FK (Kd.slice 3 (Kd.int .i64)) _ _ y141 [.slice Ao14 y141.length co14] from (Kd.FK_slice_mk (Kd.R_reads' (Kd.R_mono (ok' := (fun _ => True)) (HO143.out) (fun k_ hk => trivial))).2.1 (Kd.R_F (Kd.R_mono (ok' := (fun _ => True)) (HO143.out) (fun k_ hk => trivial))))) (Reps.one (show Kd.FK (Kd.slice 3 (Kd.int .i64)) _ _ y144 [.slice Ao15 y144.length co15] from (Kd.FK_slice_mk (Kd.R_reads' (Kd.R_mono (ok' := (fun _ => True)) (HO146.out) (fun k_ hk => trivial))).2.1 (Kd.R_F (Kd.R_mono (ok' := (fun _ => True)) (HO146.out) (fun k_ hk => trivial))))) (Reps.none _ _)))); intro v148 w16 ho17 hb hg_ hnew_; clear hg_ hnew_; (first | rw [← Ny147.out] at ho17 | (simp only [Int.reduceToNat] at ho17; rw [← Ny147.out] at ho17)); have n0_ := K0 (Kd.N_lower ho17 (zqp (by repeat (first | (with_reducible first | exact HB.out | apply zqb | apply zqa | apply zqc) | exact HB.out)))); have n1_ := K0 (zqo (by repeat (first | (with_reducible first | exact HB.out | apply zqb | apply zqa | apply zqc) | exact HB.out)) hb); clear HB; clear HO143; clear HO146; have HO149 := n0_; have HB := n1_; clear n0_ n1_; clear hb ho17; obtain ⟨Ao18, co18, eo18⟩ := Kd.N_slice HO149.out; subst eo18) | ((with_reducible refine gate_callee (f := 16) rfl ?_); refine goesL_ (some 11) rfl rfl Try.func16 (by kernel_rfl) rfl #[.agg #[.int .i64 1, .slice Ao18 y147.length co18], .int .i64 100] rfl (by (try simp only [List.map_toArray, List.map_cons, List.map_nil]); first | done | rfl | (simp only [zqq, zqr]; rfl)) ?_; (with_reducible refine (solve_Run.calls 1 _ _ y147 100 false t151 t154 t157 t158 _ ?side1 ?side2 A1.out).mono ?_); (case side1 => repeat (first | exact (Kd.N_reads' HO149.out).2.2 | (with_reducible refine Kd.C_alloc ?_ _) | (with_reducible refine Kd.C_drewN ?_ _) | (with_reducible refine Kd.C_drew ?_))); (case side2 => exact (Kd.N_reads' HO149.out).2.1); rintro e w19 ⟨v152, v155, rfl, ho0, ho1, hb⟩; refine ⟨_, rfl, ?_⟩; have n0_ := K0 (Kd.N_mono (Kd.N_told (Kd.N_told (Kd.N_old (by (with_reducible repeat (first | apply Kd.N_alloc | apply Kd.N_drewN | apply Kd.N_drew)); exact HO149.out) hb) (Kd.R_base ho0)) (Kd.N_base ho1)) (fun _ h_ => h_.1)); have n1_ := K0 (Kd.R_lower (Kd.R_mono (ok' := fun k_ => True) ho0 (fun _ hk_ => trivial)) (zqp (by repeat (first | (with_reducible first | exact HB.out | apply zqb | apply zqa | apply zqc) | exact HB.out)))); have n2_ := K0 (Kd.N_lower (Kd.N_mono (ok' := fun k_ => some k_ ≠ (v152 : Value).ownBlock ∧ some k_ ≠ (.slice Ao18 y147.length co18 : Value).ownBlock) ho1 (fun k_ hk_ => ⟨hk_.2, (Kd.fresh' (Kd.N_lt (by (with_reducible repeat (first | apply Kd.N_alloc | apply Kd.N_drewN | apply Kd.N_drew)); exact HO149.out)) k_ hk_.1)⟩)) (zqp (by repeat (first | (with_reducible first | exact HB.out | apply zqb | apply zqa | apply zqc) | exact HB.out)))); have n3_ := K0 (zqo (by repeat (first | (with_reducible first | exact HB.out | apply zqb | apply zqa | apply zqc) | exact HB.out)) hb); clear HO149; clear HB; have HO149 := n0_; have HO153 := n1_; have HO156 := n2_; have HB := n3_; clear n0_ n1_ n2_ n3_; (try clear hb); (try clear hb2); (try clear hk); (try clear hi); (try clear ho0); (try clear ho1)) | ((with_reducible refine gate_dst (N := 1) rfl ?_); (try (refine gate_guard (by rfl) ?_; dsimp only)); refine box_event ?hg (N := 1) ?hd (cs := #[.bool false, .slice none 0 0, .slice none 0 0, .int .i64 0]) (t := 33) ?hr ?_; (case hd => rfl); (case hg => rfl); (case hr => first | (go_simp; done) | (go_simp; rfl)); intro gb159 hg w20 hbox hb; have n0_ := K0 (Kd.N_below (Kd.N_elderB (by (with_reducible repeat (first | apply Kd.N_alloc | apply Kd.N_drewN | apply Kd.N_drew)); exact HO149.out) gb159 (Nat.le_of_eq hg.symm)) hb); have n1_ := K0 (Kd.R_below (by (with_reducible repeat (first | apply Kd.R_alloc | apply Kd.R_drewN | apply Kd.R_drew)); exact HO153.out) hb); have n2_ := K0 (Kd.N_below (Kd.N_elderB (by (with_reducible repeat (first | apply Kd.N_alloc | apply Kd.N_drewN | apply Kd.N_drew)); exact HO156.out) gb159 (Nat.le_of_eq hg.symm)) hb); have n3_ := K0 (zqo (by repeat (first | (with_reducible first | exact HB.out | apply zqb | apply zqa | apply zqc) | exact HB.out)) hb); have n4_ := K0 (hbox); have n5_ := K0 ((by rw [hg]; exact (zqp (by repeat (first | (with_reducible first | exact HB.out | apply zqb | apply zqa | apply zqc) | exact HB.out))) : w.heap.size ≤ gb159)); have n6_ := K0 ((by rw [hg]; exact (zqp (by repeat (first | (with_reducible first | exact HB.out | apply zqb | apply zqa | apply zqc) | exact HB.out))) : w.heap.size ≤ gb159)); clear HO149; clear HO153; clear HO156; clear HB; have HO149 := n0_; have HO153 := n1_; have HO156 := n2_; have HB := n3_; have BK159 := n4_; have GW159 := n5_; have GE159 := n6_; clear n0_ n1_ n2_ n3_ n4_ n5_ n6_; clear hb hbox hg; have hcz21_0 : w20.cell? ⟨gb159, 0, none⟩ = some (.bool false) := (zql BK159.out 0).trans rfl; have hcz21_1 : w20.cell? ⟨gb159, 1, none⟩ = some (.slice none 0 0) := (zql BK159.out 1).trans rfl; have hcz21_2 : w20.cell? ⟨gb159, 2, none⟩ = some (.slice none 0 0) := (zql BK159.out 2).trans rfl; have hcz21_3 : w20.cell? ⟨gb159, 3, none⟩ = some (.int .i64 0) := (zql BK159.out 3).trans rfl; have hfz21_0 := zqm BK159.out 0; have hfz21_1 := zqm BK159.out 1; have hfz21_2 := zqm BK159.out 2; have hfz21_3 := zqm BK159.out 3; obtain ⟨Ao22, co22, eo22⟩ := Kd.R_slice HO153.out; subst eo22; obtain ⟨Ao23, co23, eo23⟩ := Kd.N_slice HO156.out; subst eo23) | ((with_reducible refine gate_dst (N := 15) rfl ?_); (try (refine gate_guard (by rfl) ?_; dsimp only)); refine Kd.R_lit (Kd.int .i64) _ 3 ?hg (N := 15) ?hd (xs := ([(-1), (-2)] : List Int)) (inner := [.int .i64 (-1), .int .i64 (-2)]) (ok := fun _ => True) (okp := fun _ => True) ?hr ?hp (fun _ hk => hk) trivial (zqw _ _) (zqx _) (by simp) ?_; (case hd => rfl); (case hg => rfl); (case hr => first | (go_simp; done) | (go_simp; rfl)); (case hp => exact (Reps.one (show Kd.M (Kd.int .i64) _ _ _ (-1) [.int .i64 (-1)] from rfl) (Reps.one (show Kd.M (Kd.int .i64) _ _ _ (-2) [.int .i64 (-2)] from rfl) (Reps.none _ _)))); intro v161 w24 ho25 hb hg_ hnew_; clear hg_ hnew_; (first | rw [← Ny160.out] at ho25 | (simp only [Int.reduceToNat] at ho25; rw [← Ny160.out] at ho25)); have n0_ := K0 (Kd.N_elder' (by (with_reducible repeat (first | apply Kd.N_alloc | apply Kd.N_drewN | apply Kd.N_drew)); exact (Kd.N_mono (Kd.N_far (p := ⟨gb159, 3, none⟩) (Kd.N_far (p := ⟨gb159, 2, none⟩) (Kd.N_far (p := ⟨gb159, 1, none⟩) (Kd.N_far (p := ⟨gb159, 0, none⟩) (Kd.N_mono HO149.out (fun k_ hk => (⟨hk, hk.2⟩ : _ ∧ k_ ≠ gb159))) (fun _ hk => hk.2) (.bool false)) (fun _ hk => hk.2) (.slice Ao22 t151.length co22)) (fun _ hk => hk.2) (.slice Ao23 t154.length co23)) (fun _ hk => hk.2) (.int .i64 t157)) (fun _ h_ => h_.1))) (Kd.R_base ho25) hb); have n1_ := K0 (Kd.R_below (by (with_reducible repeat (first | apply Kd.R_alloc | apply Kd.R_drewN | apply Kd.R_drew)); exact (Kd.R_mono (Kd.R_far (p := ⟨gb159, 3, none⟩) (Kd.R_far (p := ⟨gb159, 2, none⟩) (Kd.R_far (p := ⟨gb159, 1, none⟩) (Kd.R_far (p := ⟨gb159, 0, none⟩) (Kd.R_types HO153.out BK159.out (by decide)) (fun _ hk => hk.2) (.bool false)) (fun _ hk => hk.2) (.slice Ao22 t151.length co22)) (fun _ hk => hk.2) (.slice Ao23 t154.length co23)) (fun _ hk => hk.2) (.int .i64 t157)) (fun _ h_ => h_.1))) hb); have n2_ := K0 (Kd.N_elder' (by (with_reducible repeat (first | apply Kd.N_alloc | apply Kd.N_drewN | apply Kd.N_drew)); exact (Kd.N_mono (Kd.N_far (p := ⟨gb159, 3, none⟩) (Kd.N_far (p := ⟨gb159, 2, none⟩) (Kd.N_far (p := ⟨gb159, 1, none⟩) (Kd.N_far (p := ⟨gb159, 0, none⟩) (Kd.N_mono HO156.out (fun k_ hk => (⟨hk, hk.2⟩ : _ ∧ k_ ≠ gb159))) (fun _ hk => hk.2) (.bool false)) (fun _ hk => hk.2) (.slice Ao22 t151.length co22)) (fun _ hk => hk.2) (.slice Ao23 t154.length co23)) (fun _ hk => hk.2) (.int .i64 t157)) (fun _ h_ => h_.1))) (Kd.R_base ho25) hb); have n3_ := K0 (Kd.R_lower ho25 (zqp (by repeat (first | (with_reducible first | exact HB.out | apply zqb | apply zqa | apply zqc | refine zqd ?_ GE159.out) | exact HB.out)))); have n4_ := K0 (zqn (g := gb159) (o := .cells #[.bool false, .slice Ao22 t151.length co22, .slice Ao23 t154.length co23, .int .i64 t157] 33 (0, 0)) (by (with_reducible repeat (first | refine zqj ?_ _ | refine zqk ?_ | refine zqi ?_ _)); refine blk_put (cs := #[.bool false, .slice Ao22 t151.length co22, .slice Ao23 t154.length co23, .int .i64 0]) ?_ 3 _ rfl; (with_reducible repeat (first | refine zqj ?_ _ | refine zqk ?_ | refine zqi ?_ _)); refine blk_put (cs := #[.bool false, .slice Ao22 t151.length co22, .slice none 0 0, .int .i64 0]) ?_ 2 _ rfl; (with_reducible repeat (first | refine zqj ?_ _ | refine zqk ?_ | refine zqi ?_ _)); refine blk_put (cs := #[.bool false, .slice none 0 0, .slice none 0 0, .int .i64 0]) ?_ 1 _ rfl; (with_reducible repeat (first | refine zqj ?_ _ | refine zqk ?_ | refine zqi ?_ _)); refine blk_put (cs := #[.bool false, .slice none 0 0, .slice none 0 0, .int .i64 0]) ?_ 0 _ rfl; (with_reducible repeat (first | refine zqj ?_ _ | refine zqk ?_ | refine zqi ?_ _)); exact BK159.out) hb); have n5_ := K0 (zqo (by repeat (first | (with_reducible first | exact HB.out | apply zqb | apply zqa | apply zqc | refine zqd ?_ GE159.out) | exact HB.out)) hb); clear HO149; clear HO153; clear HO156; clear BK159; clear HB; have HO149 := n0_; have HO153 := n1_; have HO156 := n2_; have HO162 := n3_; have BK159 := n4_; have HB := n5_; clear n0_ n1_ n2_ n3_ n4_ n5_; clear hb ho25; obtain ⟨Ao26, co26, eo26⟩ := Kd.R_slice HO162.out; subst eo26) | ((with_reducible refine gate_dst (N := 16) rfl ?_); (try (refine gate_guard (by rfl) ?_; dsimp only)); refine Kd.N_lit (Kd.slice 3 (Kd.int .i64)) _ 25 ?hg (N' := 16) ?hd (xs := ([y160] : List (List Int))) (inner := [.slice Ao26 y160.length co26]) (ok := (fun k_ => some k_ ≠ (.slice Ao18 y147.length co18 : Value).ownBlock ∧ some k_ ≠ (.slice Ao22 t151.length co22 : Value).ownBlock ∧ some k_ ≠ (.slice Ao23 t154.length co23 : Value).ownBlock ∧ k_ ≠ gb159)) (okp := (fun k_ => some k_ ≠ (.slice Ao18 y147.length co18 : Value).ownBlock ∧ some k_ ≠ (.slice Ao22 t151.length co22 : Value).ownBlock ∧ some k_ ≠ (.slice Ao23 t154.length co23 : Value).ownBlock ∧ k_ ≠ gb159)) ?hr ?hp (fun _ hk => hk) ((show ∀ k_, w24.heap.size ≤ k_ → (fun k_ => some k_ ≠ (.slice Ao18 y147.length co18 : Value).ownBlock ∧ some k_ ≠ (.slice Ao22 t151.length co22 : Value).ownBlock ∧ some k_ ≠ (.slice Ao23 t154.length co23 : Value).ownBlock ∧ k_ ≠ gb159) k_ from fun k_ hk => ⟨Kd.fresh' (Kd.N_lt (by (with_reducible repeat (first | apply Kd.N_alloc | apply Kd.N_drewN | apply Kd.N_drew)); exact HO149.out)) k_ hk, Kd.fresh' (Kd.R_lt (by (with_reducible repeat (first | apply Kd.R_alloc | apply Kd.R_drewN | apply Kd.R_drew)); exact HO153.out)) k_ hk, Kd.fresh' (Kd.N_lt (by (with_reducible repeat (first | apply Kd.N_alloc | apply Kd.N_drewN | apply Kd.N_drew)); exact HO156.out)) k_ hk, Kd.freshB (g := gb159) (o := .cells #[.bool false, .slice Ao22 t151.length co22, .slice Ao23 t154.length co23, .int .i64 t157] 33 (0, 0)) (by (with_reducible repeat (first | refine zqj ?_ _ | refine zqk ?_ | refine zqi ?_ _)); exact BK159.out) k_ hk⟩) _ (zqx _)) (zqw _ _) (zqx _) (by simp) ?_; (case hd => rfl); (case hg => rfl); (case hr => first | (go_simp; done) | (go_simp; rfl)); (case hp => exact (Reps.one (show Kd.FK (Kd.slice 3 (Kd.int .i64)) _ _ y160 [.slice Ao26 y160.length co26] from (Kd.FK_slice_mk (Kd.R_reads' (Kd.R_mono (ok' := (fun k_ => some k_ ≠ (.slice Ao18 y147.length co18 : Value).ownBlock ∧ some k_ ≠ (.slice Ao22 t151.length co22 : Value).ownBlock ∧ some k_ ≠ (.slice Ao23 t154.length co23 : Value).ownBlock ∧ k_ ≠ gb159)) (Kd.R_types (Kd.R_apart' (Kd.R_apart' (Kd.R_apart' (HO162.out) (Kd.N_typed HO149.out) (by decide)) (Kd.R_typed HO153.out) (by decide)) (Kd.N_typed HO156.out) (by decide)) BK159.out (by decide)) (fun k_ hk => ⟨hk.1.1.1.2, ⟨hk.1.1.2, ⟨hk.1.2, hk.2⟩⟩⟩))).2.1 (Kd.R_F (Kd.R_mono (ok' := (fun k_ => some k_ ≠ (.slice Ao18 y147.length co18 : Value).ownBlock ∧ some k_ ≠ (.slice Ao22 t151.length co22 : Value).ownBlock ∧ some k_ ≠ (.slice Ao23 t154.length co23 : Value).ownBlock ∧ k_ ≠ gb159)) (Kd.R_types (Kd.R_apart' (Kd.R_apart' (Kd.R_apart' (HO162.out) (Kd.N_typed HO149.out) (by decide)) (Kd.R_typed HO153.out) (by decide)) (Kd.N_typed HO156.out) (by decide)) BK159.out (by decide)) (fun k_ hk => ⟨hk.1.1.1.2, ⟨hk.1.1.2, ⟨hk.1.2, hk.2⟩⟩⟩))))) (Reps.none _ _))); intro v164 w27 ho28 hb hg_ hnew_; clear hg_ hnew_; (first | rw [← Ny163.out] at ho28 | (simp only [Int.reduceToNat] at ho28; rw [← Ny163.out] at ho28)); have n0_ := K0 (Kd.N_elder' (by (with_reducible repeat (first | apply Kd.N_alloc | apply Kd.N_drewN | apply Kd.N_drew)); exact HO149.out) (Kd.N_base ho28) hb); have n1_ := K0 (Kd.R_below (by (with_reducible repeat (first | apply Kd.R_alloc | apply Kd.R_drewN | apply Kd.R_drew)); exact HO153.out) hb); have n2_ := K0 (Kd.N_elder' (by (with_reducible repeat (first | apply Kd.N_alloc | apply Kd.N_drewN | apply Kd.N_drew)); exact HO156.out) (Kd.N_base ho28) hb); have n3_ := K0 (Kd.N_lower ho28 (zqp (by repeat (first | (with_reducible first | exact HB.out | apply zqb | apply zqa | apply zqc | refine zqd ?_ GE159.out) | exact HB.out)))); have n4_ := K0 (zqn (g := gb159) (o := .cells #[.bool false, .slice Ao22 t151.length co22, .slice Ao23 t154.length co23, .int .i64 t157] 33 (0, 0)) (by (with_reducible repeat (first | refine zqj ?_ _ | refine zqk ?_ | refine zqi ?_ _)); exact BK159.out) hb); have n5_ := K0 (zqo (by repeat (first | (with_reducible first | exact HB.out | apply zqb | apply zqa | apply zqc | refine zqd ?_ GE159.out) | exact HB.out)) hb); clear HO149; clear HO153; clear HO156; clear BK159; clear HB; clear HO162; have HO149 := n0_; have HO153 := n1_; have HO156 := n2_; have HO165 := n3_; have BK159 := n4_; have HB := n5_; clear n0_ n1_ n2_ n3_ n4_ n5_; clear hb ho28; obtain ⟨Ao29, co29, eo29⟩ := Kd.N_slice HO165.out; subst eo29) | ((with_reducible refine gate_dst (N := 18) rfl ?_); (try (refine gate_guard (by rfl) ?_; dsimp only)); refine Kd.R_lit (Kd.int .i64) _ 3 ?hg (N := 18) ?hd (xs := ([1, 2] : List Int)) (inner := [.int .i64 1, .int .i64 2]) (ok := fun _ => True) (okp := fun _ => True) ?hr ?hp (fun _ hk => hk) trivial (zqw _ _) (zqx _) (by simp) ?_; (case hd => rfl); (case hg => rfl); (case hr => first | (go_simp; done) | (go_simp; rfl)); (case hp => exact (Reps.one (show Kd.M (Kd.int .i64) _ _ _ 1 [.int .i64 1] from rfl) (Reps.one (show Kd.M (Kd.int .i64) _ _ _ 2 [.int .i64 2] from rfl) (Reps.none _ _)))); intro v167 w30 ho31 hb hg_ hnew_; clear hg_ hnew_; (first | rw [← Ny166.out] at ho31 | (simp only [Int.reduceToNat] at ho31; rw [← Ny166.out] at ho31)); have n0_ := K0 (Kd.N_elder' (by (with_reducible repeat (first | apply Kd.N_alloc | apply Kd.N_drewN | apply Kd.N_drew)); exact HO149.out) (Kd.R_base ho31) hb); have n1_ := K0 (Kd.R_below (by (with_reducible repeat (first | apply Kd.R_alloc | apply Kd.R_drewN | apply Kd.R_drew)); exact HO153.out) hb); have n2_ := K0 (Kd.N_elder' (by (with_reducible repeat (first | apply Kd.N_alloc | apply Kd.N_drewN | apply Kd.N_drew)); exact HO156.out) (Kd.R_base ho31) hb); have n3_ := K0 (Kd.N_elder' (by (with_reducible repeat (first | apply Kd.N_alloc | apply Kd.N_drewN | apply Kd.N_drew)); exact HO165.out) (Kd.R_base ho31) hb); have n4_ := K0 (Kd.R_lower ho31 (zqp (by repeat (first | (with_reducible first | exact HB.out | apply zqb | apply zqa | apply zqc | refine zqd ?_ GE159.out) | exact HB.out)))); have n5_ := K0 (zqn (g := gb159) (o := .cells #[.bool false, .slice Ao22 t151.length co22, .slice Ao23 t154.length co23, .int .i64 t157] 33 (0, 0)) (by (with_reducible repeat (first | refine zqj ?_ _ | refine zqk ?_ | refine zqi ?_ _)); exact BK159.out) hb); have n6_ := K0 (zqo (by repeat (first | (with_reducible first | exact HB.out | apply zqb | apply zqa | apply zqc | refine zqd ?_ GE159.out) | exact HB.out)) hb); clear HO149; clear HO153; clear HO156; clear HO165; clear BK159; clear HB; have HO149 := n0_; have HO153 := n1_; have HO156 := n2_; have HO165 := n3_; have HO168 := n4_; have BK159 := n5_; have HB := n6_; clear n0_ n1_ n2_ n3_ n4_ n5_ n6_; clear hb ho31; obtain ⟨Ao32, co32, eo32⟩ := Kd.R_slice HO168.out; subst eo32) | ((with_reducible refine gate_callee (f := 12) rfl ?_); refine goesL_ (some 19) rfl rfl Try.func12 (by kernel_rfl) rfl #[.agg #[.int .i64 2, .slice Ao29 y163.length co29], .slice Ao32 y166.length co32, .int .i64 100] rfl (by (try simp only [List.map_toArray, List.map_cons, List.map_nil]); first | done | rfl | (simp only [zqq, zqr]; rfl)) ?_; (with_reducible refine (solve_Under.calls 2 _ _ y163 _ _ y166 100 false t170 t173 t176 t177 t180 _ ?side1 ?side2 ?side3 ?side4 A2.out).mono ?_); (case side1 => repeat (first | exact (Kd.N_reads' HO165.out).2.2 | (with_reducible refine Kd.C_alloc ?_ _) | (with_reducible refine Kd.C_drewN ?_ _) | (with_reducible refine Kd.C_drew ?_))); (case side2 => exact (Kd.N_reads' HO165.out).2.1); (case side3 => repeat (first | exact (Kd.R_reads' HO168.out).2.2 | (with_reducible refine Kd.C_alloc ?_ _) | (with_reducible refine Kd.C_drewN ?_ _) | (with_reducible refine Kd.C_drew ?_))); (case side4 => exact (Kd.R_reads' HO168.out).2.1); rintro e w33 ⟨v171, v174, v178, rfl, ho0, ho1, ho2, hb⟩; refine ⟨_, rfl, ?_⟩; have n0_ := K0 (Kd.N_mono (Kd.N_told (Kd.N_told (Kd.N_told (Kd.N_old (by (with_reducible repeat (first | apply Kd.N_alloc | apply Kd.N_drewN | apply Kd.N_drew)); exact HO149.out) hb) (Kd.R_base ho0)) (Kd.N_base ho1)) (Kd.R_base ho2)) (fun _ h_ => h_.1)); have n1_ := K0 (Kd.R_elder' (by (with_reducible repeat (first | apply Kd.R_alloc | apply Kd.R_drewN | apply Kd.R_drew)); exact HO153.out) (Kd.R_base ho0) hb); have n2_ := K0 (Kd.N_mono (Kd.N_told (Kd.N_told (Kd.N_told (Kd.N_old (by (with_reducible repeat (first | apply Kd.N_alloc | apply Kd.N_drewN | apply Kd.N_drew)); exact HO156.out) hb) (Kd.R_base ho0)) (Kd.N_base ho1)) (Kd.R_base ho2)) (fun _ h_ => h_.1)); have n3_ := K0 (Kd.N_mono (Kd.N_told (Kd.N_told (Kd.N_told (Kd.N_old (by (with_reducible repeat (first | apply Kd.N_alloc | apply Kd.N_drewN | apply Kd.N_drew)); exact HO165.out) hb) (Kd.R_base ho0)) (Kd.N_base ho1)) (Kd.R_base ho2)) (fun _ h_ => h_.1)); have n4_ := K0 (Kd.R_elder' (by (with_reducible repeat (first | apply Kd.R_alloc | apply Kd.R_drewN | apply Kd.R_drew)); exact HO168.out) (Kd.R_base ho2) hb); have n5_ := K0 (Kd.R_lower (Kd.R_new' (Kd.R_mono (ok' := fun k_ => True) ho0 (fun _ hk_ => trivial)) (Kd.R_lt (by (with_reducible repeat (first | apply Kd.R_alloc | apply Kd.R_drewN | apply Kd.R_drew)); exact HO153.out))) (zqp (by repeat (first | (with_reducible first | exact HB.out | apply zqb | apply zqa | apply zqc | refine zqd ?_ GE159.out) | exact HB.out)))); have n6_ := K0 (Kd.N_lower (Kd.N_mono (ok' := fun k_ => some k_ ≠ (v171 : Value).ownBlock ∧ some k_ ≠ (v178 : Value).ownBlock ∧ some k_ ≠ (.slice Ao18 y147.length co18 : Value).ownBlock ∧ some k_ ≠ (.slice Ao22 t151.length co22 : Value).ownBlock ∧ some k_ ≠ (.slice Ao23 t154.length co23 : Value).ownBlock ∧ some k_ ≠ (.slice Ao29 y163.length co29 : Value).ownBlock ∧ some k_ ≠ (.slice Ao32 y166.length co32 : Value).ownBlock ∧ k_ ≠ gb159) ho1 (fun k_ hk_ => ⟨hk_.2.1, hk_.2.2, (Kd.fresh' (Kd.N_lt (by (with_reducible repeat (first | apply Kd.N_alloc | apply Kd.N_drewN | apply Kd.N_drew)); exact HO149.out)) k_ hk_.1), (Kd.fresh' (Kd.R_lt (by (with_reducible repeat (first | apply Kd.R_alloc | apply Kd.R_drewN | apply Kd.R_drew)); exact HO153.out)) k_ hk_.1), (Kd.fresh' (Kd.N_lt (by (with_reducible repeat (first | apply Kd.N_alloc | apply Kd.N_drewN | apply Kd.N_drew)); exact HO156.out)) k_ hk_.1), (Kd.fresh' (Kd.N_lt (by (with_reducible repeat (first | apply Kd.N_alloc | apply Kd.N_drewN | apply Kd.N_drew)); exact HO165.out)) k_ hk_.1), (Kd.fresh' (Kd.R_lt (by (with_reducible repeat (first | apply Kd.R_alloc | apply Kd.R_drewN | apply Kd.R_drew)); exact HO168.out)) k_ hk_.1), (Kd.freshB (g := gb159) (o := .cells #[.bool false, .slice Ao22 t151.length co22, .slice Ao23 t154.length co23, .int .i64 t157] 33 (0, 0)) (by (with_reducible repeat (first | refine zqj ?_ _ | refine zqk ?_ | refine zqi ?_ _)); exact BK159.out) k_ hk_.1)⟩)) (zqp (by repeat (first | (with_reducible first | exact HB.out | apply zqb | apply zqa | apply zqc | refine zqd ?_ GE159.out) | exact HB.out)))); have n7_ := K0 (Kd.R_lower (Kd.R_new' (Kd.R_mono (ok' := fun k_ => True) ho2 (fun _ hk_ => trivial)) (Kd.R_lt (by (with_reducible repeat (first | apply Kd.R_alloc | apply Kd.R_drewN | apply Kd.R_drew)); exact HO168.out))) (zqp (by repeat (first | (with_reducible first | exact HB.out | apply zqb | apply zqa | apply zqc | refine zqd ?_ GE159.out) | exact HB.out)))); have n8_ := K0 (zqn (g := gb159) (o := .cells #[.bool false, .slice Ao22 t151.length co22, .slice Ao23 t154.length co23, .int .i64 t157] 33 (0, 0)) (by (with_reducible repeat (first | refine zqj ?_ _ | refine zqk ?_ | refine zqi ?_ _)); exact BK159.out) hb); have n9_ := K0 (zqo (by repeat (first | (with_reducible first | exact HB.out | apply zqb | apply zqa | apply zqc | refine zqd ?_ GE159.out) | exact HB.out)) hb); clear HO149; clear HO153; clear HO156; clear HO165; clear HO168; clear BK159; clear HB; have HO149 := n0_; have HO153 := n1_; have HO156 := n2_; have HO165 := n3_; have HO168 := n4_; have HO172 := n5_; have HO175 := n6_; have HO179 := n7_; have BK159 := n8_; have HB := n9_; clear n0_ n1_ n2_ n3_ n4_ n5_ n6_ n7_ n8_ n9_; (try clear hb); (try clear hb2); (try clear hk); (try clear hi); (try clear ho0); (try clear ho1); (try clear ho2)) | ((with_reducible refine gate_dst (N := 3) rfl ?_); (try (refine gate_guard (by rfl) ?_; dsimp only)); refine box_event ?hg (N := 3) ?hd (cs := #[.bool false, .slice none 0 0, .slice none 0 0, .int .i64 0]) (t := 33) ?hr ?_; (case hd => rfl); (case hg => rfl); (case hr => first | (go_simp; done) | (go_simp; rfl)); intro gb181 hg w34 hbox hb; have n0_ := K0 (Kd.N_below (Kd.N_elderB (by (with_reducible repeat (first | apply Kd.N_alloc | apply Kd.N_drewN | apply Kd.N_drew)); exact HO149.out) gb181 (Nat.le_of_eq hg.symm)) hb); have n1_ := K0 (Kd.R_below (by (with_reducible repeat (first | apply Kd.R_alloc | apply Kd.R_drewN | apply Kd.R_drew)); exact HO153.out) hb); have n2_ := K0 (Kd.N_below (Kd.N_elderB (by (with_reducible repeat (first | apply Kd.N_alloc | apply Kd.N_drewN | apply Kd.N_drew)); exact HO156.out) gb181 (Nat.le_of_eq hg.symm)) hb); have n3_ := K0 (Kd.N_below (Kd.N_elderB (by (with_reducible repeat (first | apply Kd.N_alloc | apply Kd.N_drewN | apply Kd.N_drew)); exact HO165.out) gb181 (Nat.le_of_eq hg.symm)) hb); have n4_ := K0 (Kd.R_below (by (with_reducible repeat (first | apply Kd.R_alloc | apply Kd.R_drewN | apply Kd.R_drew)); exact HO168.out) hb); have n5_ := K0 (Kd.R_below (by (with_reducible repeat (first | apply Kd.R_alloc | apply Kd.R_drewN | apply Kd.R_drew)); exact HO172.out) hb); have n6_ := K0 (Kd.N_below (Kd.N_elderB (by (with_reducible repeat (first | apply Kd.N_alloc | apply Kd.N_drewN | apply Kd.N_drew)); exact HO175.out) gb181 (Nat.le_of_eq hg.symm)) hb); have n7_ := K0 (Kd.R_below (by (with_reducible repeat (first | apply Kd.R_alloc | apply Kd.R_drewN | apply Kd.R_drew)); exact HO179.out) hb); have n8_ := K0 (zqn (g := gb159) (o := .cells #[.bool false, .slice Ao22 t151.length co22, .slice Ao23 t154.length co23, .int .i64 t157] 33 (0, 0)) (by (with_reducible repeat (first | refine zqj ?_ _ | refine zqk ?_ | refine zqi ?_ _)); exact BK159.out) hb); have n9_ := K0 (zqo (by repeat (first | (with_reducible first | exact HB.out | apply zqb | apply zqa | apply zqc | refine zqd ?_ GE159.out) | exact HB.out)) hb); have n10_ := K0 (hbox); have n11_ := K0 ((by rw [hg]; exact (zqp (by repeat (first | (with_reducible first | exact HB.out | apply zqb | apply zqa | apply zqc | refine zqd ?_ GE159.out) | exact HB.out))) : w.heap.size ≤ gb181)); have n12_ := K0 ((by rw [hg]; exact (zqp (by repeat (first | (with_reducible first | exact HB.out | apply zqb | apply zqa | apply zqc | refine zqd ?_ GE159.out) | exact HB.out))) : w.heap.size ≤ gb181)); have n13_ := K0 ((by rw [hg]; exact Nat.ne_of_lt (blk_lt (g := gb159) (o := .cells #[.bool false, .slice Ao22 t151.length co22, .slice Ao23 t154.length co23, .int .i64 t157] 33 (0, 0)) (by (with_reducible repeat (first | refine zqj ?_ _ | refine zqk ?_ | refine zqi ?_ _)); exact BK159.out)) : gb159 ≠ gb181)); have n14_ := K0 ((by rw [hg]; exact Nat.ne_of_gt (blk_lt (g := gb159) (o := .cells #[.bool false, .slice Ao22 t151.length co22, .slice Ao23 t154.length co23, .int .i64 t157] 33 (0, 0)) (by (with_reducible repeat (first | refine zqj ?_ _ | refine zqk ?_ | refine zqi ?_ _)); exact BK159.out)) : gb181 ≠ gb159)); clear HO149; clear HO153; clear HO156; clear HO165; clear HO168; clear HO172; clear HO175; clear HO179; clear BK159; clear HB; have HO149 := n0_; have HO153 := n1_; have HO156 := n2_; have HO165 := n3_; have HO168 := n4_; have HO172 := n5_; have HO175 := n6_; have HO179 := n7_; have BK159 := n8_; have HB := n9_; have BK181 := n10_; have GW181 := n11_; have GE181 := n12_; have NB159_181 := n13_; have NB181_159 := n14_; clear n0_ n1_ n2_ n3_ n4_ n5_ n6_ n7_ n8_ n9_ n10_ n11_ n12_ n13_ n14_; clear hb hbox hg; have hnb35 := NB181_159.out; have hnc35 := NB159_181.out; have hcz36_0 : w34.cell? ⟨gb181, 0, none⟩ = some (.bool false) := (zql BK181.out 0).trans rfl; have hcz36_1 : w34.cell? ⟨gb181, 1, none⟩ = some (.slice none 0 0) := (zql BK181.out 1).trans rfl; have hcz36_2 : w34.cell? ⟨gb181, 2, none⟩ = some (.slice none 0 0) := (zql BK181.out 2).trans rfl; have hcz36_3 : w34.cell? ⟨gb181, 3, none⟩ = some (.int .i64 0) := (zql BK181.out 3).trans rfl; have hfz36_0 := zqm BK181.out 0; have hfz36_1 := zqm BK181.out 1; have hfz36_2 := zqm BK181.out 2; have hfz36_3 := zqm BK181.out 3; obtain ⟨Ao37, co37, eo37⟩ := Kd.R_slice HO172.out; subst eo37; obtain ⟨Ao38, co38, eo38⟩ := Kd.N_slice HO175.out; subst eo38; have hcz39_0 : w34.cell? ⟨gb159, 0, none⟩ = some (.bool false) := (zql BK159.out 0).trans rfl; have hcz39_1 : w34.cell? ⟨gb159, 1, none⟩ = some (.slice Ao22 t151.length co22) := (zql BK159.out 1).trans rfl; have hcz39_2 : w34.cell? ⟨gb159, 2, none⟩ = some (.slice Ao23 t154.length co23) := (zql BK159.out 2).trans rfl; have hcz39_3 : w34.cell? ⟨gb159, 3, none⟩ = some (.int .i64 t157) := (zql BK159.out 3).trans rfl; have hfz39_0 := zqm BK159.out 0; have hfz39_1 := zqm BK159.out 1; have hfz39_2 := zqm BK159.out 2; have hfz39_3 := zqm BK159.out 3) | ((with_reducible refine gate_dst (N := 47) rfl ?_); (try (refine gate_guard (by rfl) ?_; dsimp only)); refine Kd.R_lit (Kd.int .i64) _ 3 ?hg (N := 47) ?hd (xs := ([1, 2] : List Int)) (inner := [.int .i64 1, .int .i64 2]) (ok := fun _ => True) (okp := fun _ => True) ?hr ?hp (fun _ hk => hk) trivial (zqw _ _) (zqx _) (by simp) ?_; (case hd => rfl); (case hg => rfl); (case hr => first | (go_simp; done) | (go_simp; rfl)); (case hp => exact (Reps.one (show Kd.M (Kd.int .i64) _ _ _ 1 [.int .i64 1] from rfl) (Reps.one (show Kd.M (Kd.int .i64) _ _ _ 2 [.int .i64 2] from rfl) (Reps.none _ _)))); intro v183 w40 ho41 hb hg_ hnew_; clear hg_ hnew_; (first | rw [← Ny182.out] at ho41 | (simp only [Int.reduceToNat] at ho41; rw [← Ny182.out] at ho41)); have n0_ := K0 (Kd.N_elder' (by (with_reducible repeat (first | apply Kd.N_alloc | apply Kd.N_drewN | apply Kd.N_drew)); exact (Kd.N_mono (Kd.N_far (p := ⟨gb181, 3, none⟩) (Kd.N_far (p := ⟨gb181, 2, none⟩) (Kd.N_far (p := ⟨gb181, 1, none⟩) (Kd.N_far (p := ⟨gb181, 0, none⟩) (Kd.N_mono HO149.out (fun k_ hk => (⟨hk, hk.2⟩ : _ ∧ k_ ≠ gb181))) (fun _ hk => hk.2) (.bool false)) (fun _ hk => hk.2) (.slice Ao37 t170.length co37)) (fun _ hk => hk.2) (.slice Ao38 t173.length co38)) (fun _ hk => hk.2) (.int .i64 t176)) (fun _ h_ => h_.1))) (Kd.R_base ho41) hb); have n1_ := K0 (Kd.R_below (by (with_reducible repeat (first | apply Kd.R_alloc | apply Kd.R_drewN | apply Kd.R_drew)); exact (Kd.R_mono (Kd.R_far (p := ⟨gb181, 3, none⟩) (Kd.R_far (p := ⟨gb181, 2, none⟩) (Kd.R_far (p := ⟨gb181, 1, none⟩) (Kd.R_far (p := ⟨gb181, 0, none⟩) (Kd.R_types HO153.out BK181.out (by decide)) (fun _ hk => hk.2) (.bool false)) (fun _ hk => hk.2) (.slice Ao37 t170.length co37)) (fun _ hk => hk.2) (.slice Ao38 t173.length co38)) (fun _ hk => hk.2) (.int .i64 t176)) (fun _ h_ => h_.1))) hb); have n2_ := K0 (Kd.N_elder' (by (with_reducible repeat (first | apply Kd.N_alloc | apply Kd.N_drewN | apply Kd.N_drew)); exact (Kd.N_mono (Kd.N_far (p := ⟨gb181, 3, none⟩) (Kd.N_far (p := ⟨gb181, 2, none⟩) (Kd.N_far (p := ⟨gb181, 1, none⟩) (Kd.N_far (p := ⟨gb181, 0, none⟩) (Kd.N_mono HO156.out (fun k_ hk => (⟨hk, hk.2⟩ : _ ∧ k_ ≠ gb181))) (fun _ hk => hk.2) (.bool false)) (fun _ hk => hk.2) (.slice Ao37 t170.length co37)) (fun _ hk => hk.2) (.slice Ao38 t173.length co38)) (fun _ hk => hk.2) (.int .i64 t176)) (fun _ h_ => h_.1))) (Kd.R_base ho41) hb); have n3_ := K0 (Kd.N_elder' (by (with_reducible repeat (first | apply Kd.N_alloc | apply Kd.N_drewN | apply Kd.N_drew)); exact (Kd.N_mono (Kd.N_far (p := ⟨gb181, 3, none⟩) (Kd.N_far (p := ⟨gb181, 2, none⟩) (Kd.N_far (p := ⟨gb181, 1, none⟩) (Kd.N_far (p := ⟨gb181, 0, none⟩) (Kd.N_mono HO165.out (fun k_ hk => (⟨hk, hk.2⟩ : _ ∧ k_ ≠ gb181))) (fun _ hk => hk.2) (.bool false)) (fun _ hk => hk.2) (.slice Ao37 t170.length co37)) (fun _ hk => hk.2) (.slice Ao38 t173.length co38)) (fun _ hk => hk.2) (.int .i64 t176)) (fun _ h_ => h_.1))) (Kd.R_base ho41) hb); have n4_ := K0 (Kd.R_elder' (by (with_reducible repeat (first | apply Kd.R_alloc | apply Kd.R_drewN | apply Kd.R_drew)); exact (Kd.R_mono (Kd.R_far (p := ⟨gb181, 3, none⟩) (Kd.R_far (p := ⟨gb181, 2, none⟩) (Kd.R_far (p := ⟨gb181, 1, none⟩) (Kd.R_far (p := ⟨gb181, 0, none⟩) (Kd.R_types HO168.out BK181.out (by decide)) (fun _ hk => hk.2) (.bool false)) (fun _ hk => hk.2) (.slice Ao37 t170.length co37)) (fun _ hk => hk.2) (.slice Ao38 t173.length co38)) (fun _ hk => hk.2) (.int .i64 t176)) (fun _ h_ => h_.1))) (Kd.R_base ho41) hb); have n5_ := K0 (Kd.R_below (by (with_reducible repeat (first | apply Kd.R_alloc | apply Kd.R_drewN | apply Kd.R_drew)); exact (Kd.R_mono (Kd.R_far (p := ⟨gb181, 3, none⟩) (Kd.R_far (p := ⟨gb181, 2, none⟩) (Kd.R_far (p := ⟨gb181, 1, none⟩) (Kd.R_far (p := ⟨gb181, 0, none⟩) (Kd.R_types HO172.out BK181.out (by decide)) (fun _ hk => hk.2) (.bool false)) (fun _ hk => hk.2) (.slice Ao37 t170.length co37)) (fun _ hk => hk.2) (.slice Ao38 t173.length co38)) (fun _ hk => hk.2) (.int .i64 t176)) (fun _ h_ => h_.1))) hb); have n6_ := K0 (Kd.N_elder' (by (with_reducible repeat (first | apply Kd.N_alloc | apply Kd.N_drewN | apply Kd.N_drew)); exact (Kd.N_mono (Kd.N_far (p := ⟨gb181, 3, none⟩) (Kd.N_far (p := ⟨gb181, 2, none⟩) (Kd.N_far (p := ⟨gb181, 1, none⟩) (Kd.N_far (p := ⟨gb181, 0, none⟩) (Kd.N_mono HO175.out (fun k_ hk => (⟨hk, hk.2⟩ : _ ∧ k_ ≠ gb181))) (fun _ hk => hk.2) (.bool false)) (fun _ hk => hk.2) (.slice Ao37 t170.length co37)) (fun _ hk => hk.2) (.slice Ao38 t173.length co38)) (fun _ hk => hk.2) (.int .i64 t176)) (fun _ h_ => h_.1))) (Kd.R_base ho41) hb); have n7_ := K0 (Kd.R_elder' (by (with_reducible repeat (first | apply Kd.R_alloc | apply Kd.R_drewN | apply Kd.R_drew)); exact (Kd.R_mono (Kd.R_far (p := ⟨gb181, 3, none⟩) (Kd.R_far (p := ⟨gb181, 2, none⟩) (Kd.R_far (p := ⟨gb181, 1, none⟩) (Kd.R_far (p := ⟨gb181, 0, none⟩) (Kd.R_types HO179.out BK181.out (by decide)) (fun _ hk => hk.2) (.bool false)) (fun _ hk => hk.2) (.slice Ao37 t170.length co37)) (fun _ hk => hk.2) (.slice Ao38 t173.length co38)) (fun _ hk => hk.2) (.int .i64 t176)) (fun _ h_ => h_.1))) (Kd.R_base ho41) hb); have n8_ := K0 (Kd.R_lower (Kd.R_new' (Kd.R_new' ho41 (Kd.R_lt (by (with_reducible repeat (first | apply Kd.R_alloc | apply Kd.R_drewN | apply Kd.R_drew)); exact (Kd.R_mono (Kd.R_far (p := ⟨gb181, 3, none⟩) (Kd.R_far (p := ⟨gb181, 2, none⟩) (Kd.R_far (p := ⟨gb181, 1, none⟩) (Kd.R_far (p := ⟨gb181, 0, none⟩) (Kd.R_types HO168.out BK181.out (by decide)) (fun _ hk => hk.2) (.bool false)) (fun _ hk => hk.2) (.slice Ao37 t170.length co37)) (fun _ hk => hk.2) (.slice Ao38 t173.length co38)) (fun _ hk => hk.2) (.int .i64 t176)) (fun _ h_ => h_.1))))) (Kd.R_lt (by (with_reducible repeat (first | apply Kd.R_alloc | apply Kd.R_drewN | apply Kd.R_drew)); exact (Kd.R_mono (Kd.R_far (p := ⟨gb181, 3, none⟩) (Kd.R_far (p := ⟨gb181, 2, none⟩) (Kd.R_far (p := ⟨gb181, 1, none⟩) (Kd.R_far (p := ⟨gb181, 0, none⟩) (Kd.R_types HO179.out BK181.out (by decide)) (fun _ hk => hk.2) (.bool false)) (fun _ hk => hk.2) (.slice Ao37 t170.length co37)) (fun _ hk => hk.2) (.slice Ao38 t173.length co38)) (fun _ hk => hk.2) (.int .i64 t176)) (fun _ h_ => h_.1))))) (zqp (by repeat (first | (with_reducible first | exact HB.out | apply zqb | apply zqa | apply zqc | refine zqd ?_ GE159.out | refine zqd ?_ GE181.out) | exact HB.out)))); have n9_ := K0 (zqn (g := gb159) (o := .cells #[.bool false, .slice Ao22 t151.length co22, .slice Ao23 t154.length co23, .int .i64 t157] 33 (0, 0)) (by (with_reducible repeat (first | refine zqj ?_ _ | refine zqk ?_ | refine zqi ?_ _)); refine blk_far ?_ NB159_181.out _; (with_reducible repeat (first | refine zqj ?_ _ | refine zqk ?_ | refine zqi ?_ _)); refine blk_far ?_ NB159_181.out _; (with_reducible repeat (first | refine zqj ?_ _ | refine zqk ?_ | refine zqi ?_ _)); refine blk_far ?_ NB159_181.out _; (with_reducible repeat (first | refine zqj ?_ _ | refine zqk ?_ | refine zqi ?_ _)); refine blk_far ?_ NB159_181.out _; (with_reducible repeat (first | refine zqj ?_ _ | refine zqk ?_ | refine zqi ?_ _)); exact BK159.out) hb); have n10_ := K0 (zqn (g := gb181) (o := .cells #[.bool false, .slice Ao37 t170.length co37, .slice Ao38 t173.length co38, .int .i64 t176] 33 (0, 0)) (by (with_reducible repeat (first | refine zqj ?_ _ | refine zqk ?_ | refine zqi ?_ _)); refine blk_put (cs := #[.bool false, .slice Ao37 t170.length co37, .slice Ao38 t173.length co38, .int .i64 0]) ?_ 3 _ rfl; (with_reducible repeat (first | refine zqj ?_ _ | refine zqk ?_ | refine zqi ?_ _)); refine blk_put (cs := #[.bool false, .slice Ao37 t170.length co37, .slice none 0 0, .int .i64 0]) ?_ 2 _ rfl; (with_reducible repeat (first | refine zqj ?_ _ | refine zqk ?_ | refine zqi ?_ _)); refine blk_put (cs := #[.bool false, .slice none 0 0, .slice none 0 0, .int .i64 0]) ?_ 1 _ rfl; (with_reducible repeat (first | refine zqj ?_ _ | refine zqk ?_ | refine zqi ?_ _)); refine blk_put (cs := #[.bool false, .slice none 0 0, .slice none 0 0, .int .i64 0]) ?_ 0 _ rfl; (with_reducible repeat (first | refine zqj ?_ _ | refine zqk ?_ | refine zqi ?_ _)); exact BK181.out) hb); have n11_ := K0 (zqo (by repeat (first | (with_reducible first | exact HB.out | apply zqb | apply zqa | apply zqc | refine zqd ?_ GE159.out | refine zqd ?_ GE181.out) | exact HB.out)) hb); clear HO149; clear HO153; clear HO156; clear HO165; clear HO168; clear HO172; clear HO175; clear HO179; clear BK159; clear BK181; clear HB; have HO149 := n0_; have HO153 := n1_; have HO156 := n2_; have HO165 := n3_; have HO168 := n4_; have HO172 := n5_; have HO175 := n6_; have HO179 := n7_; have HO184 := n8_; have BK159 := n9_; have BK181 := n10_; have HB := n11_; clear n0_ n1_ n2_ n3_ n4_ n5_ n6_ n7_ n8_ n9_ n10_ n11_; clear hb ho41; obtain ⟨Ao42, co42, eo42⟩ := Kd.R_slice HO179.out; subst eo42; obtain ⟨Ao43, co43, eo43⟩ := Kd.R_slice HO184.out; subst eo43) | (go_at_call 22; (with_reducible refine (sequiturbase_Ints.calls k _ _ t177 _ _ y182 true _ ?side1 ?side2 ?side3 ?side4 A8.out).mono ?_); (case side1 => repeat (first | exact (Kd.R_reads' HO179.out).2.2 | (with_reducible refine Kd.C_alloc ?_ _) | (with_reducible refine Kd.C_drewN ?_ _) | (with_reducible refine Kd.C_drew ?_))); (case side2 => exact (Kd.R_reads' HO179.out).2.1); (case side3 => repeat (first | exact (Kd.R_reads' HO184.out).2.2 | (with_reducible refine Kd.C_alloc ?_ _) | (with_reducible refine Kd.C_drewN ?_ _) | (with_reducible refine Kd.C_drew ?_))); (case side4 => exact (Kd.R_reads' HO184.out).2.1); rintro e w' ⟨rfl, ⟨nd, rfl⟩⟩; have hcz44_0 : w40.cell? ⟨gb181, 0, none⟩ = some (.bool false) := (zql BK181.out 0).trans rfl; have hcz44_1 : w40.cell? ⟨gb181, 1, none⟩ = some (.slice Ao37 t170.length co37) := (zql BK181.out 1).trans rfl; have hcz44_2 : w40.cell? ⟨gb181, 2, none⟩ = some (.slice Ao38 t173.length co38) := (zql BK181.out 2).trans rfl; have hcz44_3 : w40.cell? ⟨gb181, 3, none⟩ = some (.int .i64 t176) := (zql BK181.out 3).trans rfl; have hfz44_0 := zqm BK181.out 0; have hfz44_1 := zqm BK181.out 1; have hfz44_2 := zqm BK181.out 2; have hfz44_3 := zqm BK181.out 3))
    go_ret
    exact ⟨by first | rfl | (simp [errW_none, errW_some] <;> rfl) | (simp [*, errW_none, errW_some] <;> rfl), by repeat (first | (with_reducible first | exact HB.out | apply zqb | apply zqa | apply zqc | refine zqd ?_ GE159.out | refine zqd ?_ GE181.out) | exact HB.out)⟩
noncomputable def sequiturlaw22_goes.f (k : Nat) : Option Bool := (sequiturlaw22_goes.f0 k).bind fun r => if r = true then some true else none
theorem sequiturlaw22_goes.mono : ∀ k, LeO (sequiturlaw22_goes.f k) (sequiturlaw22_goes.f (k + 1)) := fun k => LeO.bind (sequiturlaw22_goes.mono0 k) (fun _ => LeO.refl _)
theorem sequiturlaw22_goes.calls (k : Nat) (r : Bool) (w : World) (h : sequiturlaw22_goes.f k = some r) :
    Calls Try.prog 11 #[] w fun e w' => e = .returned (.bool r) ∧ Below w.heap.size w w' := by
  obtain ⟨r0, h0, h⟩ := Option.bind_eq_some_iff.1 (show (sequiturlaw22_goes.f0 k).bind _ = some r from h)
  split at h
  · rename_i hr
    injection h with h
    subst hr h
    exact sequiturlaw22_goes.calls0 k true w rfl h0
  cases h
end Go.Proofs.Ytaibnbhgjnddnaa.P
