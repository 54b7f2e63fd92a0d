import Derived.Test.YtaibnbhgjnddnaaKSolveUnders1
import Derived.Test.YtaibnbhgjnddnaaKSolveUnders5
namespace Go.Proofs.Ytaibnbhgjnddnaa.P
open Go.RowKit Go.Proofs.YtaibnbhgjnddnaaW.PrintWords Go.Proofs.YtaibnbhgjnddnaaW.PrintLast Go.Proofs.YtaibnbhgjnddnaaW.PrintMore
attribute [local go_sem] max2_int min2_int max_two min_two max_three min_three max_four min_four
set_option linter.unusedVariables false
set_option linter.unusedSimpArgs false
mutual
def sequiturref22_Follows.l0 : Nat → List (List Int) → List Int → List Int → Int → Option (Bool)
  | 0, _, _, _, _ => none
  | k + 1, x0, x2, x7, x8 => if x8 < (x2.length : Int) then (if 0 ≤ x8 then ((sequiturref22_value.f x7 (rd x2 x8)).bind fun t183 => (if t183 > 0 then (some true) else (if (rd x2 x8) < 0 then (if 0 ≤ (wrap64 (-(rd x2 x8))) then (if (wrap64 (-(rd x2 x8))) < (x7.length : Int) then (sequiturref22_Follows.l0 k x0 x2 (x7.set ((wrap64 (-(rd x2 x8))) : Int).toNat 1) (wrap64 (x8 + 1))) else (none)) else (none)) else (if 0 ≤ (rd x2 x8) then (if (rd x2 x8) < (x7.length : Int) then (sequiturref22_Follows.l0 k x0 x2 (x7.set ((rd x2 x8) : Int).toNat (-1)) (wrap64 (x8 + 1))) else (none)) else (none))))) else (none)) else (sequiturref22_Follows.l1 k x0 x7 true)
def sequiturref22_Follows.l1 : Nat → List (List Int) → List Int → Bool → Option (Bool)
  | 0, _, _, _ => none
  | k + 1, x0, x7, x9 => if x9 = true then (sequiturref22_Follows.l2 k x0 x7 false 0) else (some false)
def sequiturref22_Follows.l2 : Nat → List (List Int) → List Int → Bool → Int → Option (Bool)
  | 0, _, _, _, _ => none
  | k + 1, x0, x7, x9, x10 => if x10 < (x0.length : Int) then (if 0 ≤ x10 then ((sequiturref22_one.f k (rd_L3 x0 x10) x7).bind fun bt190 => (if bt190.2 = true then (some true) else (if bt190.1 = 0 then (sequiturref22_Follows.l2 k x0 x7 x9 (wrap64 (x10 + 1))) else (if bt190.1 < 0 then (if 0 ≤ (wrap64 (-bt190.1)) then (if (wrap64 (-bt190.1)) < (x7.length : Int) then (sequiturref22_Follows.l2 k x0 (x7.set ((wrap64 (-bt190.1)) : Int).toNat (-1)) true (wrap64 (x10 + 1))) else (none)) else (none)) else (if 0 ≤ bt190.1 then (if bt190.1 < (x7.length : Int) then (sequiturref22_Follows.l2 k x0 (x7.set (bt190.1 : Int).toNat 1) true (wrap64 (x10 + 1))) else (none)) else (none)))))) else (none)) else (sequiturref22_Follows.l1 k x0 x7 x9)
end
def sequiturref22_Follows.f (k : Nat) (l0 : List (List Int)) (a1 : Int) (l2 : List Int) : Option (Bool) := if 0 ≤ (wrap64 (a1 + 1)) then (if (wrap64 (a1 + 1) : Int).toNat ≤ 35184372088832 then (sequiturref22_Follows.l0 k l0 l2 (List.replicate (wrap64 (a1 + 1) : Int).toNat 0) 0) else (none)) else (none)
set_option maxHeartbeats 8000000 in
set_option maxRecDepth 100000 in
theorem sequiturref22_Follows.calls (k : Nat) (A0 : Option Addr) (c0 : Nat) (l0 : List (List Int)) (a1 : Int) (A2 : Option Addr) (c2 : Nat) (l2 : List Int) (r : Bool) (w : World) (hr0 : Kd.C (Kd.slice 3 (Kd.int .i64)) w A0 l0.length l0) (hc0 : l0.length ≤ c0) (hr2 : Kd.C (Kd.int .i64) w A2 l2.length l2) (hc2 : l2.length ≤ c2) (h : sequiturref22_Follows.f k l0 a1 l2 = some r) :
    Calls Try.prog 49 #[.slice A0 l0.length c0, .int .i64 a1, .slice A2 l2.length c2] w fun e w' => e = .returned (.bool r) ∧ Below w.heap.size w w' := by
  have HR0 := K0 hr0; have HC0 := K0 hc0; clear hr0 hc0; have HR2 := K0 hr2; have HC2 := K0 hc2; clear hr2 hc2
  have HB := K0 (zqw w.heap.size w)
  have H : (if 0 ≤ (wrap64 (a1 + 1)) then (if (wrap64 (a1 + 1) : Int).toNat ≤ 35184372088832 then (sequiturref22_Follows.l0 k l0 l2 (List.replicate (wrap64 (a1 + 1) : Int).toNat 0) 0) else (none)) else (none)) = some r := h
  clear h
  obtain ⟨ji4, hji4⟩ : ∃ j_ : Int, (wrap64 (a1 + 1)) = j_ := ⟨_, rfl⟩
  replace H : (if 0 ≤ (ji4) then (if (ji4 : Int).toNat ≤ 35184372088832 then (sequiturref22_Follows.l0 k l0 l2 (List.replicate (ji4 : Int).toNat 0) 0) else (none)) else (none)) = some r := by first | (rw [hji4] at H; exact H) | (simp only [hji4] at H ⊢; exact H)
  have hji4w : (IntKind.i64.wrap (a1 + 1)) = ji4 := (i64_w _).trans hji4
  by_cases c5 : 0 ≤ (ji4)
  case neg =>
    rw [if_neg c5] at H
    exact absurd H (by simp)
  rw [if_pos c5] at H
  have c5b0 := eq_true c5
  have c5b1 : decide (0 ≤ (ji4)) = true := zqt c5
  clear c5
  by_cases c6 : (ji4 : Int).toNat ≤ 35184372088832
  case neg =>
    rw [if_neg c6] at H
    exact absurd H (by simp)
  rw [if_pos c6] at H
  have c6b0 := eq_true c6
  have c6b1 : decide ((ji4 : Int).toNat ≤ 35184372088832) = true := zqt c6
  clear c6
  obtain ⟨y179, hy179⟩ : ∃ y_ : List Int, y_ = (List.replicate (ji4 : Int).toNat 0) := ⟨_, rfl⟩
  replace H : (sequiturref22_Follows.l0 k l0 l2 y179 0) = some r := by first | (rw [hy179]; with_reducible exact H) | (have H2_ := (Option.bind_some _ _).symm.trans H; rw [hy179]; with_reducible exact H2_) | (have H2_ := (Option.bind_some _ _).symm.trans H; with_reducible exact H2_) | with_reducible exact H | (rw [hy179]; exact H) | exact H
  have Ny179 := K0 hy179; clear hy179
  have H' := K0 H
  clear H
  go_enter Try.func49, Try.ntmps49
  go_wp2_with (first | ((with_reducible refine gate_dst (N := 15) rfl ?_); refine Kd.R_make (Kd.int .i64) _ 3 rfl (N := 15) rfl 25 _ _ rfl ji4 rfl rfl Try.underlying25 (.int .i64 0) 8 info3 rfl (by decide) (by omega) 0 (ok := fun _ => True) (okp := fun _ => True) rfl (fun _ hk => hk) trivial (zqe (by first | (with_reducible assumption) | assumption)) (Nat.le_trans (Nat.mul_le_mul_right _ (zqe (by first | (with_reducible assumption) | assumption) : ji4.toNat ≤ 35184372088832)) (by omega)) (zqw _ _) (zqx _) ?_; intro v180 w7 ho8 hb hg_ hnew_; clear hg_ hnew_; (first | rw [← Ny179.out] at ho8 | (simp only [Int.reduceToNat] at ho8; rw [← Ny179.out] at ho8)); have n0_ := K0 (Kd.R_lower ho8 (zqp (by repeat (first | (with_reducible first | exact HB.out | apply zqb | apply zqa | apply zqc) | exact HB.out)))); have n1_ := K0 (zqo (by repeat (first | (with_reducible first | exact HB.out | apply zqb | apply zqa | apply zqc) | exact HB.out)) hb); clear HB; have HO181 := n0_; have HB := n1_; clear n0_ n1_; clear hb ho8))
  go_loopg [8] k (fun kq v8 w' => ∃ (x7_1 : List Int) (x8_1 : Int), v8 = .int .i64 x8_1 ∧ Aside0 (sequiturref22_Follows.l0 kq l0 l2 x7_1 x8_1 = some r) ∧ Aside0 (kq ≤ k) ∧ Aside0 (Kd.R (Kd.int .i64) 3 w' w.heap.size (fun _ => True) v180 x7_1) ∧ Aside0 (Below w.heap.size w w'))
  case atStart => exact ⟨(y179), (0), (by first | rfl | (simp; done) | (simp [*]; done)), H', ⟨zqx _⟩, ⟨by (with_reducible repeat (first | apply Kd.R_alloc | apply Kd.R_drewN | apply Kd.R_drew)); exact HO181.out⟩, ⟨by repeat (first | (with_reducible first | exact HB.out | apply zqb | apply zqa | apply zqc) | exact HB.out)⟩⟩
  case round =>
    clear H'; try clear c2; try clear p2; try clear c4; try clear c5; try clear c5b0; try clear c5b1; try clear c6; try clear c6b0; try clear c6b1; try clear p6
    obtain ⟨x7_1, x8_1, rfl, HA, HK1, HO_7, HB⟩ := hrel
    cases gk with
    | zero => exact absurd HA.out (by simp [sequiturref22_Follows.l0])
    | succ k1 =>
      have H := HA.out
      clear HA
      simp only [sequiturref22_Follows.l0] at H
      by_cases c9 : x8_1 < (l2.length : Int)
      case pos =>
        rw [if_pos c9] at H
        have c9b0 : decide (x8_1 < (l2.length : Int)) = true := zqt c9
        clear c9
        by_cases c10 : 0 ≤ x8_1
        case neg =>
          rw [if_neg c10] at H
          exact absurd H (by simp)
        rw [if_pos c10] at H
        have c10b0 : decide (0 ≤ x8_1) = true := zqt c10
        clear c10
        replace H := Option.bind_eq_some_iff.mp H
        obtain ⟨t183, A110, H⟩ := H
        replace H : (if t183 > 0 then (some true) else (if (rd l2 x8_1) < 0 then (if 0 ≤ (wrap64 (-(rd l2 x8_1))) then (if (wrap64 (-(rd l2 x8_1))) < (x7_1.length : Int) then (sequiturref22_Follows.l0 k1 l0 l2 (x7_1.set ((wrap64 (-(rd l2 x8_1))) : Int).toNat 1) (wrap64 (x8_1 + 1))) else (none)) else (none)) else (if 0 ≤ (rd l2 x8_1) then (if (rd l2 x8_1) < (x7_1.length : Int) then (sequiturref22_Follows.l0 k1 l0 l2 (x7_1.set ((rd l2 x8_1) : Int).toNat (-1)) (wrap64 (x8_1 + 1))) else (none)) else (none)))) = some r := H
        have A11 := K0 A110; clear A110
        by_cases c12 : t183 > 0
        case pos =>
          rw [if_pos c12] at H
          have c12b0 : decide (0 < t183) = true := zqt c12
          clear c12
          as_aux_lemma =>
            obtain rfl := zqv H
            have p182 : 0 ≤ (x8_1 : Int) := zqe (by first | (with_reducible assumption) | assumption)
            have q182 : x8_1 < (l2.length : Int) := zqe (by first | (with_reducible assumption) | assumption)
            obtain ⟨ad182, e182, hx182_0⟩ := Kd.at_int HR2.out x8_1 p182 q182
            cases e182
            replace hx182_0 := (HB.out.cell (World.block_lt_of_cell? w _ hx182_0)).trans hx182_0
            replace p182 := eq_true p182; replace q182 := eq_true q182
            obtain ⟨Ao13, co13, eo13⟩ := Kd.R_slice HO_7.out
            subst eo13
            go_wp2_with (first | ((with_reducible refine gate_callee (f := 68) rfl ?_); refine goesL_ (some 27) rfl rfl Try.func68 (by kernel_rfl) rfl #[.slice Ao13 x7_1.length co13, .int .i64 (rd l2 x8_1)] rfl (by (try simp only [List.map_toArray, List.map_cons, List.map_nil]); first | done | rfl | (simp only [zqq, zqr]; rfl)) ?_; (with_reducible refine (sequiturref22_value.calls _ _ x7_1 (rd l2 x8_1) t183 _ ?side1 ?side2 A11.out).mono ?_); (case side1 => repeat (first | exact (Kd.R_reads' HO_7.out).2.2 | (with_reducible refine Kd.C_alloc ?_ _) | (with_reducible refine Kd.C_drewN ?_ _) | (with_reducible refine Kd.C_drew ?_))); (case side2 => exact (Kd.R_reads' HO_7.out).2.1); rintro e w' ⟨rfl, ⟨nd, rfl⟩⟩; refine ⟨_, rfl, ?_⟩))
            go_ret
            exact ⟨by first | rfl | (simp [errW_none, errW_some] <;> rfl) | (simp only [← hji4]; first | rfl | (simp [errW_none, errW_some] <;> rfl)) | (simp [*, errW_none, errW_some] <;> rfl), by repeat (first | (with_reducible first | exact HB.out | apply zqb | apply zqa | apply zqc) | exact HB.out)⟩
        rw [if_neg c12] at H
        have c12b0 : decide (0 < t183) = false := zqu c12
        clear c12
        by_cases c14 : (rd l2 x8_1) < 0
        case neg =>
          rw [if_neg c14] at H
          have c14b0 : decide ((rd l2 x8_1) < 0) = false := zqu c14
          clear c14
          by_cases c22 : 0 ≤ (rd l2 x8_1)
          case neg =>
            rw [if_neg c22] at H
            exact absurd H (by simp)
          rw [if_pos c22] at H
          have c22b0 : decide (0 ≤ (rd l2 x8_1)) = true := zqt c22
          clear c22
          by_cases c23 : (rd l2 x8_1) < (x7_1.length : Int)
          case neg =>
            rw [if_neg c23] at H
            exact absurd H (by simp)
          rw [if_pos c23] at H
          have c23b0 : decide ((rd l2 x8_1) < (x7_1.length : Int)) = true := zqt c23
          clear c23
          obtain ⟨y188, hy188⟩ : ∃ y_ : List Int, y_ = (x7_1.set ((rd l2 x8_1) : Int).toNat (-1)) := ⟨_, rfl⟩
          replace H : (sequiturref22_Follows.l0 k1 l0 l2 y188 (wrap64 (x8_1 + 1))) = some r := by first | (rw [hy188]; with_reducible exact H) | (have H2_ := (Option.bind_some _ _).symm.trans H; rw [hy188]; with_reducible exact H2_) | (have H2_ := (Option.bind_some _ _).symm.trans H; with_reducible exact H2_) | with_reducible exact H | (rw [hy188]; exact H) | exact H
          have Ny188 := K0 hy188; clear hy188
          as_aux_lemma =>
            have H' := K0 H
            clear H
            have p182 : 0 ≤ (x8_1 : Int) := zqe (by first | (with_reducible assumption) | assumption)
            have q182 : x8_1 < (l2.length : Int) := zqe (by first | (with_reducible assumption) | assumption)
            obtain ⟨ad182, e182, hx182_0⟩ := Kd.at_int HR2.out x8_1 p182 q182
            cases e182
            replace hx182_0 := (HB.out.cell (World.block_lt_of_cell? w _ hx182_0)).trans hx182_0
            replace p182 := eq_true p182; replace q182 := eq_true q182
            obtain ⟨Ao25, co25, eo25⟩ := Kd.R_slice HO_7.out
            subst eo25
            go_wp2_with (first | ((with_reducible refine gate_callee (f := 68) rfl ?_); refine goesL_ (some 27) rfl rfl Try.func68 (by kernel_rfl) rfl #[.slice Ao25 x7_1.length co25, .int .i64 (rd l2 x8_1)] rfl (by (try simp only [List.map_toArray, List.map_cons, List.map_nil]); first | done | rfl | (simp only [zqq, zqr]; rfl)) ?_; (with_reducible refine (sequiturref22_value.calls _ _ x7_1 (rd l2 x8_1) t183 _ ?side1 ?side2 A11.out).mono ?_); (case side1 => repeat (first | exact (Kd.R_reads' HO_7.out).2.2 | (with_reducible refine Kd.C_alloc ?_ _) | (with_reducible refine Kd.C_drewN ?_ _) | (with_reducible refine Kd.C_drew ?_))); (case side2 => exact (Kd.R_reads' HO_7.out).2.1); rintro e w' ⟨rfl, ⟨nd, rfl⟩⟩; refine ⟨_, rfl, ?_⟩; (try (rw [drewN_self wr]; generalize hq_ : World.drewN wr _ = wr; have n0_ : Aside0 (Kd.R (Kd.int .i64) 3 wr w.heap.size (fun _ => True) (.slice Ao25 x7_1.length co25) x7_1) := ⟨by rw [← hq_]; exact (by (with_reducible repeat (first | apply Kd.R_alloc | apply Kd.R_drewN | apply Kd.R_drew)); exact HO_7.out)⟩; have n1_ : Aside0 (Below w.heap.size w wr) := ⟨by rw [← hq_]; exact (by repeat (first | (with_reducible first | exact HB.out | apply zqb | apply zqa | apply zqc) | exact HB.out))⟩; clear HO_7 HB hq_; have HO_7 := n0_; have HB := n1_; clear n0_ n1_)); have p184 : 0 ≤ (x8_1 : Int) := zqe (by first | (with_reducible assumption) | assumption); have q184 : x8_1 < (l2.length : Int) := zqe (by first | (with_reducible assumption) | assumption); obtain ⟨ad184, e184, hx184_0⟩ := Kd.at_int HR2.out x8_1 p184 q184; obtain rfl : ad182 = ad184 := (by injection e184); replace hx184_0 := (HB.out.cell (World.block_lt_of_cell? w _ hx184_0)).trans hx184_0; replace p184 := eq_true p184; replace q184 := eq_true q184; have p187 : 0 ≤ (x8_1 : Int) := zqe (by first | (with_reducible assumption) | assumption); have q187 : x8_1 < (l2.length : Int) := zqe (by first | (with_reducible assumption) | assumption); obtain ⟨ad187, e187, hx187_0⟩ := Kd.at_int HR2.out x8_1 p187 q187; obtain rfl : ad182 = ad187 := (by injection e187); replace hx187_0 := (HB.out.cell (World.block_lt_of_cell? w _ hx187_0)).trans hx187_0; replace p187 := eq_true p187; replace q187 := eq_true q187; have p24 : 0 ≤ ((rd l2 x8_1) : Int) := zqe (by first | (with_reducible assumption) | assumption); have q24 : ((rd l2 x8_1) : Int) < ((x7_1.length : Int) : Int) := zqe (by first | (with_reducible assumption) | assumption); obtain ⟨go24, co24, eo24, gb24, gl24, cl24, HG24⟩ := Kd.R_form HO_7.out (by omega); (first | cases eo24 | (injection eo24 with ea_ en_ ec_; (first | subst ea_ | (injection ea_ with ea_; subst ea_)); subst ec_; clear en_)); have GB24 := K0 gb24; have GG24 := K0 HG24; clear gb24 gl24 HG24; obtain ⟨hx24_0, hf24_0⟩ := Kd.R_celln 0 HO_7.out ((rd l2 x8_1) : Int) p24 q24; replace p24 := eq_true p24; replace q24 := eq_true q24; obtain ⟨hy26_, hz26_⟩ := Kd.R_celln 0 HO_7.out ((rd l2 x8_1) : Int) (zqe (by first | (with_reducible assumption) | assumption)) (zqe (by first | (with_reducible assumption) | assumption)); have HP26 := Kd.R_putg HO_7.out ((rd l2 x8_1) : Int) (-1)) | ((with_reducible refine gate_store (t := 3) (p := 46) rfl ?_); refine store_event (t := 3) (p := 46) (v := ?vo_w27) (w1 := (wr.setCell ⟨go24, ((rd l2 x8_1) : Int).toNat, none⟩ (.int .i64 (-1)))) ?hg ?ho ?hn ?hr ?_; (case ho => rfl); (case hg => rfl); (case hn => rfl); (case hr => first | (go_simp; done) | (go_simp; rfl)); intro w27 hw; have hg : wr.grownBy w27 (some go24) := (by rw [hw]; exact HP26.2); have hp_ : Kd.R (Kd.int .i64) 3 w27 w.heap.size (fun _ => True) (.slice (some ⟨go24, 0, none⟩) x7_1.length co25) y188 := (by rw [hw, Ny188.out]; exact HP26.1); clear HP26; have n0_ := K0 (hp_); have n1_ := K0 ((by rw [hw]; exact zqd (HB.out) GB24.out : Below w.heap.size w w27)); clear HO_7; clear HB; have HO_7 := n0_; have HB := n1_; clear n0_ n1_; clear hg hw hp_))
            go_roundg k1
            case measure => have := HK1.out; omega
            case rel => exact ⟨(y188), (wrap64 (x8_1 + 1)), (by first | rfl | (simp; done) | (simp [*]; done)), H', ⟨by have := HK1.out; omega⟩, ⟨by (with_reducible repeat (first | apply Kd.R_alloc | apply Kd.R_drewN | apply Kd.R_drew)); exact HO_7.out⟩, ⟨by repeat (first | (with_reducible first | exact HB.out | apply zqb | apply zqa | apply zqc) | exact HB.out)⟩⟩
        rw [if_pos c14] at H
        have c14b0 : decide ((rd l2 x8_1) < 0) = true := zqt c14
        clear c14
        obtain ⟨ji15, hji15⟩ : ∃ j_ : Int, (wrap64 (-(rd l2 x8_1))) = j_ := ⟨_, rfl⟩
        replace H : (if 0 ≤ (ji15) then (if (ji15) < (x7_1.length : Int) then (sequiturref22_Follows.l0 k1 l0 l2 (x7_1.set ((ji15) : Int).toNat 1) (wrap64 (x8_1 + 1))) else (none)) else (none)) = some r := by first | (rw [hji15] at H; exact H) | (simp only [hji15] at H ⊢; exact H)
        (try rw [hji15] at A11)
        have hji15w : (IntKind.i64.wrap (-(rd l2 x8_1))) = ji15 := (i64_w _).trans hji15
        by_cases c16 : 0 ≤ (ji15)
        case neg =>
          rw [if_neg c16] at H
          exact absurd H (by simp)
        rw [if_pos c16] at H
        have c16b0 : decide (0 ≤ (ji15)) = true := zqt c16
        clear c16
        by_cases c17 : (ji15) < (x7_1.length : Int)
        case neg =>
          rw [if_neg c17] at H
          exact absurd H (by simp)
        rw [if_pos c17] at H
        have c17b0 : decide ((ji15) < (x7_1.length : Int)) = true := zqt c17
        clear c17
        obtain ⟨y186, hy186⟩ : ∃ y_ : List Int, y_ = (x7_1.set ((ji15) : Int).toNat 1) := ⟨_, rfl⟩
        replace H : (sequiturref22_Follows.l0 k1 l0 l2 y186 (wrap64 (x8_1 + 1))) = some r := by first | (rw [hy186]; with_reducible exact H) | (have H2_ := (Option.bind_some _ _).symm.trans H; rw [hy186]; with_reducible exact H2_) | (have H2_ := (Option.bind_some _ _).symm.trans H; with_reducible exact H2_) | with_reducible exact H | (rw [hy186]; exact H) | exact H
        have Ny186 := K0 hy186; clear hy186
        as_aux_lemma =>
          have H' := K0 H
          clear H
          have p182 : 0 ≤ (x8_1 : Int) := zqe (by first | (with_reducible assumption) | assumption)
          have q182 : x8_1 < (l2.length : Int) := zqe (by first | (with_reducible assumption) | assumption)
          obtain ⟨ad182, e182, hx182_0⟩ := Kd.at_int HR2.out x8_1 p182 q182
          cases e182
          replace hx182_0 := (HB.out.cell (World.block_lt_of_cell? w _ hx182_0)).trans hx182_0
          replace p182 := eq_true p182; replace q182 := eq_true q182
          obtain ⟨Ao19, co19, eo19⟩ := Kd.R_slice HO_7.out
          subst eo19
          go_wp2_with (first | ((with_reducible refine gate_callee (f := 68) rfl ?_); refine goesL_ (some 27) rfl rfl Try.func68 (by kernel_rfl) rfl #[.slice Ao19 x7_1.length co19, .int .i64 (rd l2 x8_1)] rfl (by (try simp only [List.map_toArray, List.map_cons, List.map_nil]); first | done | rfl | (simp only [zqq, zqr]; rfl)) ?_; (with_reducible refine (sequiturref22_value.calls _ _ x7_1 (rd l2 x8_1) t183 _ ?side1 ?side2 A11.out).mono ?_); (case side1 => repeat (first | exact (Kd.R_reads' HO_7.out).2.2 | (with_reducible refine Kd.C_alloc ?_ _) | (with_reducible refine Kd.C_drewN ?_ _) | (with_reducible refine Kd.C_drew ?_))); (case side2 => exact (Kd.R_reads' HO_7.out).2.1); rintro e w' ⟨rfl, ⟨nd, rfl⟩⟩; refine ⟨_, rfl, ?_⟩; (try (rw [drewN_self wr]; generalize hq_ : World.drewN wr _ = wr; have n0_ : Aside0 (Kd.R (Kd.int .i64) 3 wr w.heap.size (fun _ => True) (.slice Ao19 x7_1.length co19) x7_1) := ⟨by rw [← hq_]; exact (by (with_reducible repeat (first | apply Kd.R_alloc | apply Kd.R_drewN | apply Kd.R_drew)); exact HO_7.out)⟩; have n1_ : Aside0 (Below w.heap.size w wr) := ⟨by rw [← hq_]; exact (by repeat (first | (with_reducible first | exact HB.out | apply zqb | apply zqa | apply zqc) | exact HB.out))⟩; clear HO_7 HB hq_; have HO_7 := n0_; have HB := n1_; clear n0_ n1_)); have p184 : 0 ≤ (x8_1 : Int) := zqe (by first | (with_reducible assumption) | assumption); have q184 : x8_1 < (l2.length : Int) := zqe (by first | (with_reducible assumption) | assumption); obtain ⟨ad184, e184, hx184_0⟩ := Kd.at_int HR2.out x8_1 p184 q184; obtain rfl : ad182 = ad184 := (by injection e184); replace hx184_0 := (HB.out.cell (World.block_lt_of_cell? w _ hx184_0)).trans hx184_0; replace p184 := eq_true p184; replace q184 := eq_true q184; have p185 : 0 ≤ (x8_1 : Int) := zqe (by first | (with_reducible assumption) | assumption); have q185 : x8_1 < (l2.length : Int) := zqe (by first | (with_reducible assumption) | assumption); obtain ⟨ad185, e185, hx185_0⟩ := Kd.at_int HR2.out x8_1 p185 q185; obtain rfl : ad182 = ad185 := (by injection e185); replace hx185_0 := (HB.out.cell (World.block_lt_of_cell? w _ hx185_0)).trans hx185_0; replace p185 := eq_true p185; replace q185 := eq_true q185; have p18 : 0 ≤ ((ji15) : Int) := zqe (by first | (with_reducible assumption) | assumption); have q18 : ((ji15) : Int) < ((x7_1.length : Int) : Int) := zqe (by first | (with_reducible assumption) | assumption); obtain ⟨go18, co18, eo18, gb18, gl18, cl18, HG18⟩ := Kd.R_form HO_7.out (by omega); (first | cases eo18 | (injection eo18 with ea_ en_ ec_; (first | subst ea_ | (injection ea_ with ea_; subst ea_)); subst ec_; clear en_)); have GB18 := K0 gb18; have GG18 := K0 HG18; clear gb18 gl18 HG18; obtain ⟨hx18_0, hf18_0⟩ := Kd.R_celln 0 HO_7.out ((ji15) : Int) p18 q18; replace p18 := eq_true p18; replace q18 := eq_true q18; obtain ⟨hy20_, hz20_⟩ := Kd.R_celln 0 HO_7.out ((ji15) : Int) (zqe (by first | (with_reducible assumption) | assumption)) (zqe (by first | (with_reducible assumption) | assumption)); have HP20 := Kd.R_putg HO_7.out ((ji15) : Int) 1) | ((with_reducible refine gate_store (t := 3) (p := 40) rfl ?_); refine store_event (t := 3) (p := 40) (v := ?vo_w21) (w1 := (wr.setCell ⟨go18, ((ji15) : Int).toNat, none⟩ (.int .i64 1))) ?hg ?ho ?hn ?hr ?_; (case ho => rfl); (case hg => rfl); (case hn => rfl); (case hr => first | (go_simp; done) | (go_simp; rfl)); intro w21 hw; have hg : wr.grownBy w21 (some go18) := (by rw [hw]; exact HP20.2); have hp_ : Kd.R (Kd.int .i64) 3 w21 w.heap.size (fun _ => True) (.slice (some ⟨go18, 0, none⟩) x7_1.length co19) y186 := (by rw [hw, Ny186.out]; exact HP20.1); clear HP20; have n0_ := K0 (hp_); have n1_ := K0 ((by rw [hw]; exact zqd (HB.out) GB18.out : Below w.heap.size w w21)); clear HO_7; clear HB; have HO_7 := n0_; have HB := n1_; clear n0_ n1_; clear hg hw hp_))
          go_roundg k1
          case measure => have := HK1.out; omega
          case rel => exact ⟨(y186), (wrap64 (x8_1 + 1)), (by first | rfl | (simp; done) | (simp [*]; done)), H', ⟨by have := HK1.out; omega⟩, ⟨by (with_reducible repeat (first | apply Kd.R_alloc | apply Kd.R_drewN | apply Kd.R_drew)); exact HO_7.out⟩, ⟨by repeat (first | (with_reducible first | exact HB.out | apply zqb | apply zqa | apply zqc) | exact HB.out)⟩⟩
      rw [if_neg c9] at H
      have c9b0 : decide (x8_1 < (l2.length : Int)) = false := zqu c9
      clear c9
      have H' := K0 H
      clear H
      go_wp2
      go_loopg [9] k1 (fun kq v9 w' => ∃ (x7_2 : List Int) (x9_2 : Bool), v9 = .bool x9_2 ∧ Aside0 (sequiturref22_Follows.l1 kq l0 x7_2 x9_2 = some r) ∧ Aside0 (kq ≤ k1) ∧ Aside0 (Kd.R (Kd.int .i64) 3 w' w.heap.size (fun _ => True) v180 x7_2) ∧ Aside0 (Below w.heap.size w w'))
      case atStart => exact ⟨(x7_1), (true), (by first | rfl | (simp; done) | (simp [*]; done)), H', ⟨zqx _⟩, ⟨by (with_reducible repeat (first | apply Kd.R_alloc | apply Kd.R_drewN | apply Kd.R_drew)); exact HO_7.out⟩, ⟨by repeat (first | (with_reducible first | exact HB.out | apply zqb | apply zqa | apply zqc) | exact HB.out)⟩⟩
      case round =>
        clear H'; try clear c1; try clear p1; try clear q1; try clear hx1; try clear c2; try clear p2; try clear q2; try clear hx2; try clear c4; try clear c5; try clear c5b0; try clear c5b1; try clear c6; try clear c6b0; try clear c6b1; try clear p6; try clear c9; try clear c9b0; try clear c10; try clear c10b0; try clear c12; try clear c12b0; try clear c14; try clear c14b0; try clear c16; try clear c16b0; try clear c17; try clear c17b0; try clear p18; try clear q18; try clear hx18; try clear hf18; try clear c22; try clear c22b0; try clear c23; try clear c23b0; try clear p24; try clear q24; try clear hx24; try clear hf24; try clear hx182_0; try clear hx184_0; try clear hx185_0; try clear hx187_0; try clear hx18_0; try clear hx24_0; try clear p18; try clear p182; try clear p184; try clear p185; try clear p187; try clear p2; try clear p24; try clear p6; try clear q18; try clear q182; try clear q184; try clear q185; try clear q187; try clear q24
        obtain ⟨x7_2, x9_2, rfl, HA, HK2, HO_7, HB⟩ := hrel
        cases gk with
        | zero => exact absurd HA.out (by simp [sequiturref22_Follows.l1])
        | succ k2 =>
          have H := HA.out
          clear HA
          simp only [sequiturref22_Follows.l1] at H
          by_cases c28 : x9_2 = true
          case neg =>
            replace c28 := Bool.eq_false_iff.mpr c28
            subst c28
            have H1 : (some false) = some r := by rw [if_neg (show ¬ (false = true) by decide)] at H; exact H
            clear H
            have H := H1
            clear H1
            as_aux_lemma =>
              obtain rfl := zqv H
              go_wp2
              go_ret
              exact ⟨by first | rfl | (simp [errW_none, errW_some] <;> rfl) | (simp only [← hji4]; first | rfl | (simp [errW_none, errW_some] <;> rfl)) | (simp [*, errW_none, errW_some] <;> rfl), by repeat (first | (with_reducible first | exact HB.out | apply zqb | apply zqa | apply zqc) | exact HB.out)⟩
          subst c28
          have H1 : (sequiturref22_Follows.l2 k2 l0 x7_2 false 0) = some r := by rw [if_pos rfl] at H; exact H
          clear H
          have H := H1
          clear H1
          have H' := K0 H
          clear H
          go_wp2
          go_loopg [9, 10] k2 (fun kq v9 v10 w' => ∃ (x7_3 : List Int) (x9_3 : Bool) (x10_3 : Int), v9 = .bool x9_3 ∧ v10 = .int .i64 x10_3 ∧ Aside0 (sequiturref22_Follows.l2 kq l0 x7_3 x9_3 x10_3 = some r) ∧ Aside0 (kq ≤ k2) ∧ Aside0 (Kd.R (Kd.int .i64) 3 w' w.heap.size (fun _ => True) v180 x7_3) ∧ Aside0 (Below w.heap.size w w'))
          case atStart => exact ⟨(x7_2), (false), (0), (by first | rfl | (simp; done) | (simp [*]; done)), (by first | rfl | (simp; done) | (simp [*]; done)), H', ⟨zqx _⟩, ⟨by (with_reducible repeat (first | apply Kd.R_alloc | apply Kd.R_drewN | apply Kd.R_drew)); exact HO_7.out⟩, ⟨by repeat (first | (with_reducible first | exact HB.out | apply zqb | apply zqa | apply zqc) | exact HB.out)⟩⟩
          case round =>
            clear H'; try clear c1; try clear p1; try clear q1; try clear hx1; try clear c2; try clear p2; try clear q2; try clear hx2; try clear c4; try clear c5; try clear c5b0; try clear c5b1; try clear c6; try clear c6b0; try clear c6b1; try clear p6; try clear c9; try clear c9b0; try clear c10; try clear c10b0; try clear c12; try clear c12b0; try clear c14; try clear c14b0; try clear c16; try clear c16b0; try clear c17; try clear c17b0; try clear p18; try clear q18; try clear hx18; try clear hf18; try clear c22; try clear c22b0; try clear c23; try clear c23b0; try clear p24; try clear q24; try clear hx24; try clear hf24; try clear c28; try clear hx182_0; try clear hx184_0; try clear hx185_0; try clear hx187_0; try clear hx18_0; try clear hx24_0; try clear p1; try clear p18; try clear p182; try clear p184; try clear p185; try clear p187; try clear p2; try clear p24; try clear p6; try clear q1; try clear q18; try clear q182; try clear q184; try clear q185; try clear q187; try clear q2; try clear q24
            obtain ⟨x7_3, x9_3, x10_3, rfl, rfl, HA, HK3, HO_7, HB⟩ := hrel
            cases gk with
            | zero => exact absurd HA.out (by simp [sequiturref22_Follows.l2])
            | succ k3 =>
              have H := HA.out
              clear HA
              simp only [sequiturref22_Follows.l2] at H
              by_cases c29 : x10_3 < (l0.length : Int)
              case neg =>
                rw [if_neg c29] at H
                have c29b0 : decide (x10_3 < (l0.length : Int)) = false := zqu c29
                clear c29
                as_aux_lemma =>
                  have H' := K0 H
                  clear H
                  go_wp2
                  go_roundg k3
                  case measure => have := HK1.out; have := HK2.out; have := HK3.out; omega
                  case rel => exact ⟨(x7_3), (x9_3), (by first | rfl | (simp; done) | (simp [*]; done)), H', ⟨by have := HK1.out; have := HK2.out; have := HK3.out; omega⟩, ⟨by (with_reducible repeat (first | apply Kd.R_alloc | apply Kd.R_drewN | apply Kd.R_drew)); exact HO_7.out⟩, ⟨by repeat (first | (with_reducible first | exact HB.out | apply zqb | apply zqa | apply zqc) | exact HB.out)⟩⟩
              rw [if_pos c29] at H
              have c29b0 : decide (x10_3 < (l0.length : Int)) = true := zqt c29
              clear c29
              by_cases c30 : 0 ≤ x10_3
              case neg =>
                rw [if_neg c30] at H
                exact absurd H (by simp)
              rw [if_pos c30] at H
              have c30b0 : decide (0 ≤ x10_3) = true := zqt c30
              clear c30
              replace H := Option.bind_eq_some_iff.mp H
              obtain ⟨⟨t190, t191⟩, A310, H⟩ := H
              replace H : (if t191 = true then (some true) else (if t190 = 0 then (sequiturref22_Follows.l2 k3 l0 x7_3 x9_3 (wrap64 (x10_3 + 1))) else (if t190 < 0 then (if 0 ≤ (wrap64 (-t190)) then (if (wrap64 (-t190)) < (x7_3.length : Int) then (sequiturref22_Follows.l2 k3 l0 (x7_3.set ((wrap64 (-t190)) : Int).toNat (-1)) true (wrap64 (x10_3 + 1))) else (none)) else (none)) else (if 0 ≤ t190 then (if t190 < (x7_3.length : Int) then (sequiturref22_Follows.l2 k3 l0 (x7_3.set (t190 : Int).toNat 1) true (wrap64 (x10_3 + 1))) else (none)) else (none))))) = some r := H
              have A31 := K0 A310; clear A310
              by_cases c32 : t191 = true
              case pos =>
                subst c32
                have H1 : (some true) = some r := by rw [if_pos rfl] at H; exact H
                clear H
                have H := H1
                clear H1
                as_aux_lemma =>
                  obtain rfl := zqv H
                  have p189 : 0 ≤ (x10_3 : Int) := zqe (by first | (with_reducible assumption) | assumption)
                  have q189 : x10_3 < (l0.length : Int) := zqe (by first | (with_reducible assumption) | assumption)
                  obtain ⟨ad189, A189_0, c189_0, e189, hx189_0, hl189_0, hi189_0⟩ := at_L3 HR0.out x10_3 p189 q189
                  cases e189
                  replace hx189_0 := (HB.out.cell (World.block_lt_of_cell? w _ hx189_0)).trans hx189_0
                  have HR189_0 := K0 hi189_0; have HC189_0 := K0 hl189_0; clear hi189_0 hl189_0; replace p189 := eq_true p189; replace q189 := eq_true q189
                  obtain ⟨Ao33, co33, eo33⟩ := Kd.R_slice HO_7.out
                  subst eo33
                  go_wp2_with (first | ((with_reducible refine gate_callee (f := 69) rfl ?_); refine goesL_ (some 60) rfl rfl Try.func69 (by kernel_rfl) rfl #[.slice A189_0 (rd_L3 l0 x10_3).length c189_0, .slice Ao33 x7_3.length co33] rfl (by (try simp only [List.map_toArray, List.map_cons, List.map_nil]); first | done | rfl | (simp only [zqq, zqr]; rfl)) ?_; (with_reducible refine (sequiturref22_one.calls k3 _ _ (rd_L3 l0 x10_3) _ _ x7_3 t190 true _ ?side1 ?side2 ?side3 ?side4 A31.out).mono ?_); (case side1 => repeat (first | exact (Kd.C_below HR189_0.out HB.out) | (with_reducible refine Kd.C_alloc ?_ _) | (with_reducible refine Kd.C_drewN ?_ _) | (with_reducible refine Kd.C_drew ?_))); (case side2 => exact HC189_0.out); (case side3 => repeat (first | exact (Kd.R_reads' HO_7.out).2.2 | (with_reducible refine Kd.C_alloc ?_ _) | (with_reducible refine Kd.C_drewN ?_ _) | (with_reducible refine Kd.C_drew ?_))); (case side4 => exact (Kd.R_reads' HO_7.out).2.1); rintro e w' ⟨rfl, ⟨nd, rfl⟩⟩; refine ⟨_, rfl, ?_⟩))
                  go_ret
                  exact ⟨by first | rfl | (simp [errW_none, errW_some] <;> rfl) | (simp only [← hji4]; first | rfl | (simp [errW_none, errW_some] <;> rfl)) | (simp [*, errW_none, errW_some] <;> rfl), by repeat (first | (with_reducible first | exact HB.out | apply zqb | apply zqa | apply zqc) | exact HB.out)⟩
              replace c32 := Bool.eq_false_iff.mpr c32
              subst c32
              have H1 : (if t190 = 0 then (sequiturref22_Follows.l2 k3 l0 x7_3 x9_3 (wrap64 (x10_3 + 1))) else (if t190 < 0 then (if 0 ≤ (wrap64 (-t190)) then (if (wrap64 (-t190)) < (x7_3.length : Int) then (sequiturref22_Follows.l2 k3 l0 (x7_3.set ((wrap64 (-t190)) : Int).toNat (-1)) true (wrap64 (x10_3 + 1))) else (none)) else (none)) else (if 0 ≤ t190 then (if t190 < (x7_3.length : Int) then (sequiturref22_Follows.l2 k3 l0 (x7_3.set (t190 : Int).toNat 1) true (wrap64 (x10_3 + 1))) else (none)) else (none)))) = some r := by rw [if_neg (show ¬ (false = true) by decide)] at H; exact H
              clear H
              have H := H1
              clear H1
              by_cases c34 : t190 = 0
              case pos =>
                rw [if_pos c34] at H
                have c34b0 : (t190 == 0) = true := beq_iff_eq.mpr c34
                have c34b1 : (t190 != 0) = false := bne_eq_false_iff_eq.mpr c34
                clear c34
                as_aux_lemma =>
                  have H' := K0 H
                  clear H
                  have p189 : 0 ≤ (x10_3 : Int) := zqe (by first | (with_reducible assumption) | assumption)
                  have q189 : x10_3 < (l0.length : Int) := zqe (by first | (with_reducible assumption) | assumption)
                  obtain ⟨ad189, A189_0, c189_0, e189, hx189_0, hl189_0, hi189_0⟩ := at_L3 HR0.out x10_3 p189 q189
                  cases e189
                  replace hx189_0 := (HB.out.cell (World.block_lt_of_cell? w _ hx189_0)).trans hx189_0
                  have HR189_0 := K0 hi189_0; have HC189_0 := K0 hl189_0; clear hi189_0 hl189_0; replace p189 := eq_true p189; replace q189 := eq_true q189
                  obtain ⟨Ao35, co35, eo35⟩ := Kd.R_slice HO_7.out
                  subst eo35
                  go_wp2_with (first | ((with_reducible refine gate_callee (f := 69) rfl ?_); refine goesL_ (some 60) rfl rfl Try.func69 (by kernel_rfl) rfl #[.slice A189_0 (rd_L3 l0 x10_3).length c189_0, .slice Ao35 x7_3.length co35] rfl (by (try simp only [List.map_toArray, List.map_cons, List.map_nil]); first | done | rfl | (simp only [zqq, zqr]; rfl)) ?_; (with_reducible refine (sequiturref22_one.calls k3 _ _ (rd_L3 l0 x10_3) _ _ x7_3 t190 false _ ?side1 ?side2 ?side3 ?side4 A31.out).mono ?_); (case side1 => repeat (first | exact (Kd.C_below HR189_0.out HB.out) | (with_reducible refine Kd.C_alloc ?_ _) | (with_reducible refine Kd.C_drewN ?_ _) | (with_reducible refine Kd.C_drew ?_))); (case side2 => exact HC189_0.out); (case side3 => repeat (first | exact (Kd.R_reads' HO_7.out).2.2 | (with_reducible refine Kd.C_alloc ?_ _) | (with_reducible refine Kd.C_drewN ?_ _) | (with_reducible refine Kd.C_drew ?_))); (case side4 => exact (Kd.R_reads' HO_7.out).2.1); rintro e w' ⟨rfl, ⟨nd, rfl⟩⟩; refine ⟨_, rfl, ?_⟩))
                  go_roundg k3
                  case measure => have := HK1.out; have := HK2.out; have := HK3.out; omega
                  case rel => exact ⟨(x7_3), (x9_3), (wrap64 (x10_3 + 1)), (by first | rfl | (simp; done) | (simp [*]; done)), (by first | rfl | (simp; done) | (simp [*]; done)), H', ⟨by have := HK1.out; have := HK2.out; have := HK3.out; omega⟩, ⟨by (with_reducible repeat (first | apply Kd.R_alloc | apply Kd.R_drewN | apply Kd.R_drew)); exact HO_7.out⟩, ⟨by repeat (first | (with_reducible first | exact HB.out | apply zqb | apply zqa | apply zqc) | exact HB.out)⟩⟩
              rw [if_neg c34] at H
              have c34b0 : (t190 == 0) = false := beq_eq_false_iff_ne.mpr c34
              have c34b1 : (t190 != 0) = true := bne_iff_ne.mpr c34
              by_cases c36 : t190 < 0
              case neg =>
                rw [if_neg c36] at H
                have c36b0 : decide (t190 < 0) = false := zqu c36
                clear c36
                by_cases c44 : 0 ≤ t190
                case neg =>
                  rw [if_neg c44] at H
                  exact absurd H (by simp)
                rw [if_pos c44] at H
                have c44b0 : decide (0 ≤ t190) = true := zqt c44
                clear c44
                by_cases c45 : t190 < (x7_3.length : Int)
                case neg =>
                  rw [if_neg c45] at H
                  exact absurd H (by simp)
                rw [if_pos c45] at H
                have c45b0 : decide (t190 < (x7_3.length : Int)) = true := zqt c45
                clear c45
                obtain ⟨y193, hy193⟩ : ∃ y_ : List Int, y_ = (x7_3.set (t190 : Int).toNat 1) := ⟨_, rfl⟩
                replace H : (sequiturref22_Follows.l2 k3 l0 y193 true (wrap64 (x10_3 + 1))) = some r := by first | (rw [hy193]; with_reducible exact H) | (have H2_ := (Option.bind_some _ _).symm.trans H; rw [hy193]; with_reducible exact H2_) | (have H2_ := (Option.bind_some _ _).symm.trans H; with_reducible exact H2_) | with_reducible exact H | (rw [hy193]; exact H) | exact H
                have Ny193 := K0 hy193; clear hy193
                as_aux_lemma =>
                  have H' := K0 H
                  clear H
                  have p189 : 0 ≤ (x10_3 : Int) := zqe (by first | (with_reducible assumption) | assumption)
                  have q189 : x10_3 < (l0.length : Int) := zqe (by first | (with_reducible assumption) | assumption)
                  obtain ⟨ad189, A189_0, c189_0, e189, hx189_0, hl189_0, hi189_0⟩ := at_L3 HR0.out x10_3 p189 q189
                  cases e189
                  replace hx189_0 := (HB.out.cell (World.block_lt_of_cell? w _ hx189_0)).trans hx189_0
                  have HR189_0 := K0 hi189_0; have HC189_0 := K0 hl189_0; clear hi189_0 hl189_0; replace p189 := eq_true p189; replace q189 := eq_true q189
                  obtain ⟨Ao47, co47, eo47⟩ := Kd.R_slice HO_7.out
                  subst eo47
                  go_wp2_with (first | ((with_reducible refine gate_callee (f := 69) rfl ?_); refine goesL_ (some 60) rfl rfl Try.func69 (by kernel_rfl) rfl #[.slice A189_0 (rd_L3 l0 x10_3).length c189_0, .slice Ao47 x7_3.length co47] rfl (by (try simp only [List.map_toArray, List.map_cons, List.map_nil]); first | done | rfl | (simp only [zqq, zqr]; rfl)) ?_; (with_reducible refine (sequiturref22_one.calls k3 _ _ (rd_L3 l0 x10_3) _ _ x7_3 t190 false _ ?side1 ?side2 ?side3 ?side4 A31.out).mono ?_); (case side1 => repeat (first | exact (Kd.C_below HR189_0.out HB.out) | (with_reducible refine Kd.C_alloc ?_ _) | (with_reducible refine Kd.C_drewN ?_ _) | (with_reducible refine Kd.C_drew ?_))); (case side2 => exact HC189_0.out); (case side3 => repeat (first | exact (Kd.R_reads' HO_7.out).2.2 | (with_reducible refine Kd.C_alloc ?_ _) | (with_reducible refine Kd.C_drewN ?_ _) | (with_reducible refine Kd.C_drew ?_))); (case side4 => exact (Kd.R_reads' HO_7.out).2.1); rintro e w' ⟨rfl, ⟨nd, rfl⟩⟩; refine ⟨_, rfl, ?_⟩; (try (rw [drewN_self wr]; generalize hq_ : World.drewN wr _ = wr; have n0_ : Aside0 (Kd.R (Kd.int .i64) 3 wr w.heap.size (fun _ => True) (.slice Ao47 x7_3.length co47) x7_3) := ⟨by rw [← hq_]; exact (by (with_reducible repeat (first | apply Kd.R_alloc | apply Kd.R_drewN | apply Kd.R_drew)); exact HO_7.out)⟩; have n1_ : Aside0 (Below w.heap.size w wr) := ⟨by rw [← hq_]; exact (by repeat (first | (with_reducible first | exact HB.out | apply zqb | apply zqa | apply zqc) | exact HB.out))⟩; clear HO_7 HB hq_; have HO_7 := n0_; have HB := n1_; clear n0_ n1_)); have p46 : 0 ≤ (t190 : Int) := zqe (by first | (with_reducible assumption) | assumption); have q46 : (t190 : Int) < ((x7_3.length : Int) : Int) := zqe (by first | (with_reducible assumption) | assumption); obtain ⟨go46, co46, eo46, gb46, gl46, cl46, HG46⟩ := Kd.R_form HO_7.out (by omega); (first | cases eo46 | (injection eo46 with ea_ en_ ec_; (first | subst ea_ | (injection ea_ with ea_; subst ea_)); subst ec_; clear en_)); have GB46 := K0 gb46; have GG46 := K0 HG46; clear gb46 gl46 HG46; obtain ⟨hx46_0, hf46_0⟩ := Kd.R_celln 0 HO_7.out (t190 : Int) p46 q46; replace p46 := eq_true p46; replace q46 := eq_true q46; obtain ⟨hy48_, hz48_⟩ := Kd.R_celln 0 HO_7.out (t190 : Int) (zqe (by first | (with_reducible assumption) | assumption)) (zqe (by first | (with_reducible assumption) | assumption)); have HP48 := Kd.R_putg HO_7.out (t190 : Int) 1) | ((with_reducible refine gate_store (t := 3) (p := 74) rfl ?_); refine store_event (t := 3) (p := 74) (v := ?vo_w49) (w1 := (wr.setCell ⟨go46, (t190 : Int).toNat, none⟩ (.int .i64 1))) ?hg ?ho ?hn ?hr ?_; (case ho => rfl); (case hg => rfl); (case hn => rfl); (case hr => first | (go_simp; done) | (go_simp; rfl)); intro w49 hw; have hg : wr.grownBy w49 (some go46) := (by rw [hw]; exact HP48.2); have hp_ : Kd.R (Kd.int .i64) 3 w49 w.heap.size (fun _ => True) (.slice (some ⟨go46, 0, none⟩) x7_3.length co47) y193 := (by rw [hw, Ny193.out]; exact HP48.1); clear HP48; have n0_ := K0 (hp_); have n1_ := K0 ((by rw [hw]; exact zqd (HB.out) GB46.out : Below w.heap.size w w49)); clear HO_7; clear HB; have HO_7 := n0_; have HB := n1_; clear n0_ n1_; clear hg hw hp_))
                  go_roundg k3
                  case measure => have := HK1.out; have := HK2.out; have := HK3.out; omega
                  case rel => exact ⟨(y193), (true), (wrap64 (x10_3 + 1)), (by first | rfl | (simp; done) | (simp [*]; done)), (by first | rfl | (simp; done) | (simp [*]; done)), H', ⟨by have := HK1.out; have := HK2.out; have := HK3.out; omega⟩, ⟨by (with_reducible repeat (first | apply Kd.R_alloc | apply Kd.R_drewN | apply Kd.R_drew)); exact HO_7.out⟩, ⟨by repeat (first | (with_reducible first | exact HB.out | apply zqb | apply zqa | apply zqc) | exact HB.out)⟩⟩
              rw [if_pos c36] at H
              have c36b0 : decide (t190 < 0) = true := zqt c36
              clear c36
              obtain ⟨ji37, hji37⟩ : ∃ j_ : Int, (wrap64 (-t190)) = j_ := ⟨_, rfl⟩
              replace H : (if 0 ≤ (ji37) then (if (ji37) < (x7_3.length : Int) then (sequiturref22_Follows.l2 k3 l0 (x7_3.set ((ji37) : Int).toNat (-1)) true (wrap64 (x10_3 + 1))) else (none)) else (none)) = some r := by first | (rw [hji37] at H; exact H) | (simp only [hji37] at H ⊢; exact H)
              (try rw [hji37] at A31)
              have hji37w : (IntKind.i64.wrap (-t190)) = ji37 := (i64_w _).trans hji37
              by_cases c38 : 0 ≤ (ji37)
              case neg =>
                rw [if_neg c38] at H
                exact absurd H (by simp)
              rw [if_pos c38] at H
              have c38b0 : decide (0 ≤ (ji37)) = true := zqt c38
              clear c38
              by_cases c39 : (ji37) < (x7_3.length : Int)
              case neg =>
                rw [if_neg c39] at H
                exact absurd H (by simp)
              rw [if_pos c39] at H
              have c39b0 : decide ((ji37) < (x7_3.length : Int)) = true := zqt c39
              clear c39
              obtain ⟨y192, hy192⟩ : ∃ y_ : List Int, y_ = (x7_3.set ((ji37) : Int).toNat (-1)) := ⟨_, rfl⟩
              replace H : (sequiturref22_Follows.l2 k3 l0 y192 true (wrap64 (x10_3 + 1))) = some r := by first | (rw [hy192]; with_reducible exact H) | (have H2_ := (Option.bind_some _ _).symm.trans H; rw [hy192]; with_reducible exact H2_) | (have H2_ := (Option.bind_some _ _).symm.trans H; with_reducible exact H2_) | with_reducible exact H | (rw [hy192]; exact H) | exact H
              have Ny192 := K0 hy192; clear hy192
              as_aux_lemma =>
                have H' := K0 H
                clear H
                have p189 : 0 ≤ (x10_3 : Int) := zqe (by first | (with_reducible assumption) | assumption)
                have q189 : x10_3 < (l0.length : Int) := zqe (by first | (with_reducible assumption) | assumption)
                obtain ⟨ad189, A189_0, c189_0, e189, hx189_0, hl189_0, hi189_0⟩ := at_L3 HR0.out x10_3 p189 q189
                cases e189
                replace hx189_0 := (HB.out.cell (World.block_lt_of_cell? w _ hx189_0)).trans hx189_0
                have HR189_0 := K0 hi189_0; have HC189_0 := K0 hl189_0; clear hi189_0 hl189_0; replace p189 := eq_true p189; replace q189 := eq_true q189
                obtain ⟨Ao41, co41, eo41⟩ := Kd.R_slice HO_7.out
                subst eo41
                go_wp2_with (first | ((with_reducible refine gate_callee (f := 69) rfl ?_); refine goesL_ (some 60) rfl rfl Try.func69 (by kernel_rfl) rfl #[.slice A189_0 (rd_L3 l0 x10_3).length c189_0, .slice Ao41 x7_3.length co41] rfl (by (try simp only [List.map_toArray, List.map_cons, List.map_nil]); first | done | rfl | (simp only [zqq, zqr]; rfl)) ?_; (with_reducible refine (sequiturref22_one.calls k3 _ _ (rd_L3 l0 x10_3) _ _ x7_3 t190 false _ ?side1 ?side2 ?side3 ?side4 A31.out).mono ?_); (case side1 => repeat (first | exact (Kd.C_below HR189_0.out HB.out) | (with_reducible refine Kd.C_alloc ?_ _) | (with_reducible refine Kd.C_drewN ?_ _) | (with_reducible refine Kd.C_drew ?_))); (case side2 => exact HC189_0.out); (case side3 => repeat (first | exact (Kd.R_reads' HO_7.out).2.2 | (with_reducible refine Kd.C_alloc ?_ _) | (with_reducible refine Kd.C_drewN ?_ _) | (with_reducible refine Kd.C_drew ?_))); (case side4 => exact (Kd.R_reads' HO_7.out).2.1); rintro e w' ⟨rfl, ⟨nd, rfl⟩⟩; refine ⟨_, rfl, ?_⟩; (try (rw [drewN_self wr]; generalize hq_ : World.drewN wr _ = wr; have n0_ : Aside0 (Kd.R (Kd.int .i64) 3 wr w.heap.size (fun _ => True) (.slice Ao41 x7_3.length co41) x7_3) := ⟨by rw [← hq_]; exact (by (with_reducible repeat (first | apply Kd.R_alloc | apply Kd.R_drewN | apply Kd.R_drew)); exact HO_7.out)⟩; have n1_ : Aside0 (Below w.heap.size w wr) := ⟨by rw [← hq_]; exact (by repeat (first | (with_reducible first | exact HB.out | apply zqb | apply zqa | apply zqc) | exact HB.out))⟩; clear HO_7 HB hq_; have HO_7 := n0_; have HB := n1_; clear n0_ n1_)); have p40 : 0 ≤ ((ji37) : Int) := zqe (by first | (with_reducible assumption) | assumption); have q40 : ((ji37) : Int) < ((x7_3.length : Int) : Int) := zqe (by first | (with_reducible assumption) | assumption); obtain ⟨go40, co40, eo40, gb40, gl40, cl40, HG40⟩ := Kd.R_form HO_7.out (by omega); (first | cases eo40 | (injection eo40 with ea_ en_ ec_; (first | subst ea_ | (injection ea_ with ea_; subst ea_)); subst ec_; clear en_)); have GB40 := K0 gb40; have GG40 := K0 HG40; clear gb40 gl40 HG40; obtain ⟨hx40_0, hf40_0⟩ := Kd.R_celln 0 HO_7.out ((ji37) : Int) p40 q40; replace p40 := eq_true p40; replace q40 := eq_true q40; obtain ⟨hy42_, hz42_⟩ := Kd.R_celln 0 HO_7.out ((ji37) : Int) (zqe (by first | (with_reducible assumption) | assumption)) (zqe (by first | (with_reducible assumption) | assumption)); have HP42 := Kd.R_putg HO_7.out ((ji37) : Int) (-1)) | ((with_reducible refine gate_store (t := 3) (p := 71) rfl ?_); refine store_event (t := 3) (p := 71) (v := ?vo_w43) (w1 := (wr.setCell ⟨go40, ((ji37) : Int).toNat, none⟩ (.int .i64 (-1)))) ?hg ?ho ?hn ?hr ?_; (case ho => rfl); (case hg => rfl); (case hn => rfl); (case hr => first | (go_simp; done) | (go_simp; rfl)); intro w43 hw; have hg : wr.grownBy w43 (some go40) := (by rw [hw]; exact HP42.2); have hp_ : Kd.R (Kd.int .i64) 3 w43 w.heap.size (fun _ => True) (.slice (some ⟨go40, 0, none⟩) x7_3.length co41) y192 := (by rw [hw, Ny192.out]; exact HP42.1); clear HP42; have n0_ := K0 (hp_); have n1_ := K0 ((by rw [hw]; exact zqd (HB.out) GB40.out : Below w.heap.size w w43)); clear HO_7; clear HB; have HO_7 := n0_; have HB := n1_; clear n0_ n1_; clear hg hw hp_))
                go_roundg k3
                case measure => have := HK1.out; have := HK2.out; have := HK3.out; omega
                case rel => exact ⟨(y192), (true), (wrap64 (x10_3 + 1)), (by first | rfl | (simp; done) | (simp [*]; done)), (by first | rfl | (simp; done) | (simp [*]; done)), H', ⟨by have := HK1.out; have := HK2.out; have := HK3.out; omega⟩, ⟨by (with_reducible repeat (first | apply Kd.R_alloc | apply Kd.R_drewN | apply Kd.R_drew)); exact HO_7.out⟩, ⟨by repeat (first | (with_reducible first | exact HB.out | apply zqb | apply zqa | apply zqc) | exact HB.out)⟩⟩
def sequiturref22_has.l0 : Nat → List Int → Int → Int → Option (Bool)
  | 0, _, _, _ => none
  | k + 1, x0, x1, x5 => if x5 < (x0.length : Int) then (if 0 ≤ x5 then (if (rd x0 x5) = x1 then (some true) else (sequiturref22_has.l0 k x0 x1 (wrap64 (x5 + 1)))) else (none)) else (some false)
def sequiturref22_has.f (k : Nat) (l0 : List Int) (a1 : Int) : Option (Bool) := sequiturref22_has.l0 k l0 a1 0
set_option maxHeartbeats 8000000 in
set_option maxRecDepth 100000 in
theorem sequiturref22_has.calls (k : Nat) (A0 : Option Addr) (c0 : Nat) (l0 : List Int) (a1 : Int) (r : Bool) (w : World) (hr0 : Kd.C (Kd.int .i64) w A0 l0.length l0) (hc0 : l0.length ≤ c0) (h : sequiturref22_has.f k l0 a1 = some r) :
    Calls Try.prog 70 #[.slice A0 l0.length c0, .int .i64 a1] w fun e w' => e = .returned (.bool r) ∧ Drawn0 w w' := by
  have HR0 := K0 hr0
  have HC0 := K0 hc0
  clear hr0 hc0
  have H : (sequiturref22_has.l0 k l0 a1 0) = some r := h
  clear h
  have H' := K0 H
  clear H
  go_enter Try.func70, Try.ntmps70
  go_wp2
  go_loopg [5] k (fun kq v5 w' => ∃ (x5_1 : Int), v5 = .int .i64 x5_1 ∧ Aside0 (sequiturref22_has.l0 kq l0 a1 x5_1 = some r) ∧ Aside0 (kq ≤ k) ∧ Drawn0 w w')
  case atStart => exact ⟨(0), (by first | rfl | (simp; done) | (simp [*]; done)), H', ⟨zqx _⟩, by repeat (first | exact Drawn0.refl _ | apply Drawn0.step)⟩
  case round =>
    clear H'
    try clear p2
    obtain ⟨x5_1, rfl, HA, HK1, ⟨m1, rfl⟩⟩ := hrel
    cases gk with
    | zero => exact absurd HA.out (by simp [sequiturref22_has.l0])
    | succ k1 =>
      have H := HA.out
      clear HA
      simp only [sequiturref22_has.l0] at H
      by_cases c3 : x5_1 < (l0.length : Int)
      · rw [if_pos c3] at H
        have c3b0 : decide (x5_1 < (l0.length : Int)) = true := zqt c3
        clear c3
        by_cases c4 : 0 ≤ x5_1
        · rw [if_pos c4] at H
          have c4b0 : decide (0 ≤ x5_1) = true := zqt c4
          clear c4
          by_cases c5 : (rd l0 x5_1) = a1
          · rw [if_pos c5] at H
            have c5b0 : ((rd l0 x5_1) == a1) = true := beq_iff_eq.mpr c5
            have c5b1 : ((rd l0 x5_1) != a1) = false := bne_eq_false_iff_eq.mpr c5
            clear c5
            as_aux_lemma =>
              obtain rfl := zqv H
              have p194 : 0 ≤ (x5_1 : Int) := zqe (by first | (with_reducible assumption) | assumption)
              have q194 : x5_1 < (l0.length : Int) := zqe (by first | (with_reducible assumption) | assumption)
              obtain ⟨ad194, e194, hx194_0⟩ := Kd.at_int HR0.out x5_1 p194 q194
              cases e194
              replace p194 := eq_true p194
              replace q194 := eq_true q194
              go_wp2
              go_ret
              exact ⟨by first | rfl | (simp; done) | (simp [*]; done), by repeat (first | exact Drawn0.refl _ | apply Drawn0.step)⟩
          · rw [if_neg c5] at H
            have c5b0 : ((rd l0 x5_1) == a1) = false := beq_eq_false_iff_ne.mpr c5
            have c5b1 : ((rd l0 x5_1) != a1) = true := bne_iff_ne.mpr c5
            as_aux_lemma =>
              have H' := K0 H
              clear H
              have p194 : 0 ≤ (x5_1 : Int) := zqe (by first | (with_reducible assumption) | assumption)
              have q194 : x5_1 < (l0.length : Int) := zqe (by first | (with_reducible assumption) | assumption)
              obtain ⟨ad194, e194, hx194_0⟩ := Kd.at_int HR0.out x5_1 p194 q194
              cases e194
              replace p194 := eq_true p194
              replace q194 := eq_true q194
              go_wp2
              go_roundg k1
              case measure => have := HK1.out; omega
              case rel => exact ⟨(wrap64 (x5_1 + 1)), (by first | rfl | (simp; done) | (simp [*]; done)), H', ⟨by have := HK1.out; omega⟩, by repeat (first | exact Drawn0.refl _ | apply Drawn0.step)⟩
        · rw [if_neg c4] at H
          exact absurd H (by simp)
      · rw [if_neg c3] at H
        have c3b0 : decide (x5_1 < (l0.length : Int)) = false := zqu c3
        clear c3
        as_aux_lemma =>
          obtain rfl := zqv H
          go_wp2
          go_ret
          exact ⟨by first | rfl | (simp; done) | (simp [*]; done), by repeat (first | exact Drawn0.refl _ | apply Drawn0.step)⟩
mutual
def sequiturref22_Same.l0 : Nat → List Int → List Int → Int → Option (Bool)
  | 0, _, _, _ => none
  | k + 1, x0, x1, x5 => if x5 < (x0.length : Int) then (if 0 ≤ x5 then ((sequiturref22_has.f k x1 (rd x0 x5)).bind fun t196 => (if t196 = true then (sequiturref22_Same.l0 k x0 x1 (wrap64 (x5 + 1))) else (some false))) else (none)) else (sequiturref22_Same.l1 k x0 x1 0)
def sequiturref22_Same.l1 : Nat → List Int → List Int → Int → Option (Bool)
  | 0, _, _, _ => none
  | k + 1, x0, x1, x6 => if x6 < (x1.length : Int) then (if 0 ≤ x6 then ((sequiturref22_has.f k x0 (rd x1 x6)).bind fun t198 => (if t198 = true then (sequiturref22_Same.l1 k x0 x1 (wrap64 (x6 + 1))) else (some false))) else (none)) else (some true)
end
def sequiturref22_Same.f (k : Nat) (l0 : List Int) (l1 : List Int) : Option (Bool) := sequiturref22_Same.l0 k l0 l1 0
set_option maxHeartbeats 8000000 in
set_option maxRecDepth 100000 in
theorem sequiturref22_Same.calls (k : Nat) (A0 : Option Addr) (c0 : Nat) (l0 : List Int) (A1 : Option Addr) (c1 : Nat) (l1 : List Int) (r : Bool) (w : World) (hr0 : Kd.C (Kd.int .i64) w A0 l0.length l0) (hc0 : l0.length ≤ c0) (hr1 : Kd.C (Kd.int .i64) w A1 l1.length l1) (hc1 : l1.length ≤ c1) (h : sequiturref22_Same.f k l0 l1 = some r) :
    Calls Try.prog 50 #[.slice A0 l0.length c0, .slice A1 l1.length c1] w fun e w' => e = .returned (.bool r) ∧ Drawn0 w w' := by
  have HR0 := K0 hr0; have HC0 := K0 hc0; clear hr0 hc0; have HR1 := K0 hr1; have HC1 := K0 hc1; clear hr1 hc1
  have H : (sequiturref22_Same.l0 k l0 l1 0) = some r := h
  clear h
  have H' := K0 H
  clear H
  go_enter Try.func50, Try.ntmps50
  go_wp2
  go_loopg [5] k (fun kq v5 w' => ∃ (x5_1 : Int), v5 = .int .i64 x5_1 ∧ Aside0 (sequiturref22_Same.l0 kq l0 l1 x5_1 = some r) ∧ Aside0 (kq ≤ k) ∧ Drawn0 w w')
  case atStart => exact ⟨(0), (by first | rfl | (simp; done) | (simp [*]; done)), H', ⟨zqx _⟩, by repeat (first | exact Drawn0.refl _ | apply Drawn0.step)⟩
  case round =>
    clear H'; try clear c1; try clear p2
    obtain ⟨x5_1, rfl, HA, HK1, ⟨m1, rfl⟩⟩ := hrel
    cases gk with
    | zero => exact absurd HA.out (by simp [sequiturref22_Same.l0])
    | succ k1 =>
      have H := HA.out
      clear HA
      simp only [sequiturref22_Same.l0] at H
      by_cases c3 : x5_1 < (l0.length : Int)
      case pos =>
        rw [if_pos c3] at H
        have c3b0 : decide (x5_1 < (l0.length : Int)) = true := zqt c3
        clear c3
        by_cases c4 : 0 ≤ x5_1
        case neg =>
          rw [if_neg c4] at H
          exact absurd H (by simp)
        rw [if_pos c4] at H
        have c4b0 : decide (0 ≤ x5_1) = true := zqt c4
        clear c4
        replace H := Option.bind_eq_some_iff.mp H
        obtain ⟨t196, A50, H⟩ := H
        replace H : (if t196 = true then (sequiturref22_Same.l0 k1 l0 l1 (wrap64 (x5_1 + 1))) else (some false)) = some r := H
        have A5 := K0 A50; clear A50
        by_cases c6 : t196 = true
        case neg =>
          replace c6 := Bool.eq_false_iff.mpr c6
          subst c6
          have H1 : (some false) = some r := by rw [if_neg (show ¬ (false = true) by decide)] at H; exact H
          clear H
          have H := H1
          clear H1
          as_aux_lemma =>
            obtain rfl := zqv H
            have p195 : 0 ≤ (x5_1 : Int) := zqe (by first | (with_reducible assumption) | assumption)
            have q195 : x5_1 < (l0.length : Int) := zqe (by first | (with_reducible assumption) | assumption)
            obtain ⟨ad195, e195, hx195_0⟩ := Kd.at_int HR0.out x5_1 p195 q195
            cases e195; replace p195 := eq_true p195; replace q195 := eq_true q195
            go_wp2_with (first | ((with_reducible refine gate_callee (f := 70) rfl ?_); refine goesL_ (some 18) rfl rfl Try.func70 (by kernel_rfl) rfl #[.slice A1 l1.length c1, .int .i64 (rd l0 x5_1)] rfl (by (try simp only [List.map_toArray, List.map_cons, List.map_nil]); first | done | rfl | (simp only [zqq, zqr]; rfl)) ?_; (with_reducible refine (sequiturref22_has.calls k1 _ _ l1 (rd l0 x5_1) false _ ?side1 ?side2 A5.out).mono ?_); (case side1 => repeat (first | exact HR1.out | (with_reducible refine Kd.C_alloc ?_ _) | (with_reducible refine Kd.C_drewN ?_ _) | (with_reducible refine Kd.C_drew ?_))); (case side2 => exact HC1.out); rintro e w' ⟨rfl, ⟨nd, rfl⟩⟩; refine ⟨_, rfl, ?_⟩))
            go_ret
            exact ⟨by first | rfl | (simp; done) | (simp [*]; done), by repeat (first | exact Drawn0.refl _ | apply Drawn0.step)⟩
        subst c6
        have H1 : (sequiturref22_Same.l0 k1 l0 l1 (wrap64 (x5_1 + 1))) = some r := by rw [if_pos rfl] at H; exact H
        clear H
        have H := H1
        clear H1
        as_aux_lemma =>
          have H' := K0 H
          clear H
          have p195 : 0 ≤ (x5_1 : Int) := zqe (by first | (with_reducible assumption) | assumption)
          have q195 : x5_1 < (l0.length : Int) := zqe (by first | (with_reducible assumption) | assumption)
          obtain ⟨ad195, e195, hx195_0⟩ := Kd.at_int HR0.out x5_1 p195 q195
          cases e195; replace p195 := eq_true p195; replace q195 := eq_true q195
          go_wp2_with (first | ((with_reducible refine gate_callee (f := 70) rfl ?_); refine goesL_ (some 18) rfl rfl Try.func70 (by kernel_rfl) rfl #[.slice A1 l1.length c1, .int .i64 (rd l0 x5_1)] rfl (by (try simp only [List.map_toArray, List.map_cons, List.map_nil]); first | done | rfl | (simp only [zqq, zqr]; rfl)) ?_; (with_reducible refine (sequiturref22_has.calls k1 _ _ l1 (rd l0 x5_1) true _ ?side1 ?side2 A5.out).mono ?_); (case side1 => repeat (first | exact HR1.out | (with_reducible refine Kd.C_alloc ?_ _) | (with_reducible refine Kd.C_drewN ?_ _) | (with_reducible refine Kd.C_drew ?_))); (case side2 => exact HC1.out); rintro e w' ⟨rfl, ⟨nd, rfl⟩⟩; refine ⟨_, rfl, ?_⟩))
          go_roundg k1
          case measure => have := HK1.out; omega
          case rel => exact ⟨(wrap64 (x5_1 + 1)), (by first | rfl | (simp; done) | (simp [*]; done)), H', ⟨by have := HK1.out; omega⟩, by repeat (first | exact Drawn0.refl _ | apply Drawn0.step)⟩
      rw [if_neg c3] at H
      have c3b0 : decide (x5_1 < (l0.length : Int)) = false := zqu c3
      clear c3
      have H' := K0 H
      clear H
      go_wp2
      go_loopg [6] k1 (fun kq v6 w' => ∃ (x6_2 : Int), v6 = .int .i64 x6_2 ∧ Aside0 (sequiturref22_Same.l1 kq l0 l1 x6_2 = some r) ∧ Aside0 (kq ≤ k1) ∧ Drawn0 w w')
      case atStart => exact ⟨(0), (by first | rfl | (simp; done) | (simp [*]; done)), H', ⟨zqx _⟩, by repeat (first | exact Drawn0.refl _ | apply Drawn0.step)⟩
      case round =>
        clear H'; try clear c1; try clear p1; try clear q1; try clear hx1; try clear p2; try clear c3; try clear c3b0; try clear c4; try clear c4b0; try clear c5; try clear c6; try clear p6; try clear hx195_0; try clear p195; try clear p2; try clear q195
        obtain ⟨x6_2, rfl, HA, HK2, ⟨m2, rfl⟩⟩ := hrel
        cases gk with
        | zero => exact absurd HA.out (by simp [sequiturref22_Same.l1])
        | succ k2 =>
          have H := HA.out
          clear HA
          simp only [sequiturref22_Same.l1] at H
          by_cases c7 : x6_2 < (l1.length : Int)
          case neg =>
            rw [if_neg c7] at H
            have c7b0 : decide (x6_2 < (l1.length : Int)) = false := zqu c7
            clear c7
            as_aux_lemma =>
              obtain rfl := zqv H
              go_wp2
              go_ret
              exact ⟨by first | rfl | (simp; done) | (simp [*]; done), by repeat (first | exact Drawn0.refl _ | apply Drawn0.step)⟩
          rw [if_pos c7] at H
          have c7b0 : decide (x6_2 < (l1.length : Int)) = true := zqt c7
          clear c7
          by_cases c8 : 0 ≤ x6_2
          case neg =>
            rw [if_neg c8] at H
            exact absurd H (by simp)
          rw [if_pos c8] at H
          have c8b0 : decide (0 ≤ x6_2) = true := zqt c8
          clear c8
          replace H := Option.bind_eq_some_iff.mp H
          obtain ⟨t198, A90, H⟩ := H
          replace H : (if t198 = true then (sequiturref22_Same.l1 k2 l0 l1 (wrap64 (x6_2 + 1))) else (some false)) = some r := H
          have A9 := K0 A90; clear A90
          by_cases c10 : t198 = true
          case neg =>
            replace c10 := Bool.eq_false_iff.mpr c10
            subst c10
            have H1 : (some false) = some r := by rw [if_neg (show ¬ (false = true) by decide)] at H; exact H
            clear H
            have H := H1
            clear H1
            as_aux_lemma =>
              obtain rfl := zqv H
              have p197 : 0 ≤ (x6_2 : Int) := zqe (by first | (with_reducible assumption) | assumption)
              have q197 : x6_2 < (l1.length : Int) := zqe (by first | (with_reducible assumption) | assumption)
              obtain ⟨ad197, e197, hx197_0⟩ := Kd.at_int HR1.out x6_2 p197 q197
              cases e197; replace p197 := eq_true p197; replace q197 := eq_true q197
              go_wp2_with (first | ((with_reducible refine gate_callee (f := 70) rfl ?_); refine goesL_ (some 31) rfl rfl Try.func70 (by kernel_rfl) rfl #[.slice A0 l0.length c0, .int .i64 (rd l1 x6_2)] rfl (by (try simp only [List.map_toArray, List.map_cons, List.map_nil]); first | done | rfl | (simp only [zqq, zqr]; rfl)) ?_; (with_reducible refine (sequiturref22_has.calls k2 _ _ l0 (rd l1 x6_2) false _ ?side1 ?side2 A9.out).mono ?_); (case side1 => repeat (first | exact HR0.out | (with_reducible refine Kd.C_alloc ?_ _) | (with_reducible refine Kd.C_drewN ?_ _) | (with_reducible refine Kd.C_drew ?_))); (case side2 => exact HC0.out); rintro e w' ⟨rfl, ⟨nd, rfl⟩⟩; refine ⟨_, rfl, ?_⟩))
              go_ret
              exact ⟨by first | rfl | (simp; done) | (simp [*]; done), by repeat (first | exact Drawn0.refl _ | apply Drawn0.step)⟩
          subst c10
          have H1 : (sequiturref22_Same.l1 k2 l0 l1 (wrap64 (x6_2 + 1))) = some r := by rw [if_pos rfl] at H; exact H
          clear H
          have H := H1
          clear H1
          as_aux_lemma =>
            have H' := K0 H
            clear H
            have p197 : 0 ≤ (x6_2 : Int) := zqe (by first | (with_reducible assumption) | assumption)
            have q197 : x6_2 < (l1.length : Int) := zqe (by first | (with_reducible assumption) | assumption)
            obtain ⟨ad197, e197, hx197_0⟩ := Kd.at_int HR1.out x6_2 p197 q197
            cases e197; replace p197 := eq_true p197; replace q197 := eq_true q197
            go_wp2_with (first | ((with_reducible refine gate_callee (f := 70) rfl ?_); refine goesL_ (some 31) rfl rfl Try.func70 (by kernel_rfl) rfl #[.slice A0 l0.length c0, .int .i64 (rd l1 x6_2)] rfl (by (try simp only [List.map_toArray, List.map_cons, List.map_nil]); first | done | rfl | (simp only [zqq, zqr]; rfl)) ?_; (with_reducible refine (sequiturref22_has.calls k2 _ _ l0 (rd l1 x6_2) true _ ?side1 ?side2 A9.out).mono ?_); (case side1 => repeat (first | exact HR0.out | (with_reducible refine Kd.C_alloc ?_ _) | (with_reducible refine Kd.C_drewN ?_ _) | (with_reducible refine Kd.C_drew ?_))); (case side2 => exact HC0.out); rintro e w' ⟨rfl, ⟨nd, rfl⟩⟩; refine ⟨_, rfl, ?_⟩))
            go_roundg k2
            case measure => have := HK1.out; have := HK2.out; omega
            case rel => exact ⟨(wrap64 (x6_2 + 1)), (by first | rfl | (simp; done) | (simp [*]; done)), H', ⟨by have := HK1.out; have := HK2.out; omega⟩, by repeat (first | exact Drawn0.refl _ | apply Drawn0.step)⟩
def sequiturref22_Log.l0 : Nat → List (S64) → List Int → List (List Int) → Bool → Int → Int → List (List Int) → Option (Bool)
  | 0, _, _, _, _, _, _, _ => none
  | k + 1, x1, x2, x7, x8, x9, x245000, x245001 => if x9 < (x1.length : Int) then (if 0 ≤ x9 then (if ((rd_T64 x1 x9).f0 = true) then none else ((sequiturref19_Clause.f k ((rd_T64 x1 x9).f1) x245000).bind fun t253 => (if t253 = 0 then ((sequiturref22_Follows.f k x7 x245000 ((rd_T64 x1 x9).f1)).bind fun t254 => (if t254 = true then (if x7.length < 5864062014805 then ((sequiturref22_Same.f k ((rd_T64 x1 x9).f1) x2).bind fun t258 => (sequiturref22_Log.l0 k x1 x2 (x7 ++ [(rd_T64 x1 x9).f1]) t258 (wrap64 (x9 + 1)) x245000 x245001)) else (none)) else (some false))) else (some false)))) else (none)) else (some x8)
def sequiturref22_Log.f (k : Nat) (a0_0 : Int) (l0_1 : List (List Int)) (l1 : List (S64)) (l2 : List Int) : Option (Bool) := (some (([] : List (List Int)) : List (List Int))).bind fun y245 => (if y245.length + l0_1.length < 5864062014805 then (sequiturref22_Log.l0 k l1 l2 (y245 ++ l0_1) false 0 a0_0 l0_1) else (none))
set_option maxHeartbeats 8000000 in
set_option maxRecDepth 100000 in
theorem sequiturref22_Log.calls (k : Nat) (a0_0 : Int) (P0_1_ : Nat → Prop) (A0_1 : Option Addr) (c0_1 : Nat) (l0_1 : List (List Int)) (P1_ : Nat → Prop) (A1 : Option Addr) (c1 : Nat) (l1 : List (S64)) (A2 : Option Addr) (c2 : Nat) (l2 : List Int) (r : Bool) (w : World) (hs0_1 : Kd.V (Kd.slice 3 (Kd.int .i64)) 25 w w.heap.size (fun k_ => P0_1_ k_) (.slice A0_1 l0_1.length c0_1) l0_1) (hs1 : Kd.V k64 64 w w.heap.size (fun k_ => P1_ k_) (.slice A1 l1.length c1) l1) (hr2 : Kd.C (Kd.int .i64) w A2 l2.length l2) (hc2 : l2.length ≤ c2) (h : sequiturref22_Log.f k a0_0 l0_1 l1 l2 = some r) :
    Calls Try.prog 31 #[.agg #[.int .i64 a0_0, .slice A0_1 l0_1.length c0_1], .slice A1 l1.length c1, .slice A2 l2.length c2] w fun e w' => e = .returned (.bool r) ∧ Below w.heap.size w w' := by
  have hu24 := Try.underlying24
  have hu64 := Try.underlying64
  have HO0_1 := K0 (show Kd.V (Kd.slice 3 (Kd.int .i64)) 25 w w.heap.size (fun k_ => ((P0_1_ k_ ∨ P1_ k_) ∨ w.heap.size ≤ k_)) (.slice A0_1 l0_1.length c0_1) l0_1 from Kd.V_mono hs0_1 (fun k_ hk => .inl (.inl hk)))
  have HO1 := K0 (show Kd.V k64 64 w w.heap.size (fun k_ => ((P0_1_ k_ ∨ P1_ k_) ∨ w.heap.size ≤ k_)) (.slice A1 l1.length c1) l1 from Kd.V_mono hs1 (fun k_ hk => .inl (.inr hk)))
  have HR2 := K0 hr2; have HC2 := K0 hc2; clear hr2 hc2
  have HB := K0 (zqw w.heap.size w)
  have H : ((some (([] : List (List Int)) : List (List Int))).bind fun y245 => (if y245.length + l0_1.length < 5864062014805 then (sequiturref22_Log.l0 k l1 l2 (y245 ++ l0_1) false 0 a0_0 l0_1) else (none))) = some r := h
  clear h
  obtain ⟨y245, hy245⟩ : ∃ y_ : List (List Int), y_ = (([] : List (List Int))) := ⟨_, rfl⟩
  replace H : (if y245.length + l0_1.length < 5864062014805 then (sequiturref22_Log.l0 k l1 l2 (y245 ++ l0_1) false 0 a0_0 l0_1) else (none)) = some r := by first | (rw [hy245]; with_reducible exact H) | (have H2_ := (Option.bind_some _ _).symm.trans H; rw [hy245]; with_reducible exact H2_) | (have H2_ := (Option.bind_some _ _).symm.trans H; with_reducible exact H2_) | with_reducible exact H | (rw [hy245]; exact H) | exact H
  have Ny245 := K0 hy245; clear hy245
  by_cases c4 : y245.length + l0_1.length < 5864062014805
  case neg =>
    rw [if_neg c4] at H
    exact absurd H (by simp)
  rw [if_pos c4] at H
  have LMc4 := K0 c4; clear c4
  obtain ⟨y248, hy248⟩ : ∃ y_ : List (List Int), y_ = (y245 ++ l0_1) := ⟨_, rfl⟩
  replace H : (sequiturref22_Log.l0 k l1 l2 y248 false 0 a0_0 l0_1) = some r := by first | (rw [hy248]; with_reducible exact H) | (have H2_ := (Option.bind_some _ _).symm.trans H; rw [hy248]; with_reducible exact H2_) | (have H2_ := (Option.bind_some _ _).symm.trans H; with_reducible exact H2_) | with_reducible exact H | (rw [hy248]; exact H) | exact H
  have Ny248 := K0 hy248; clear hy248
  have H' := K0 H
  clear H
  go_enter Try.func31, Try.ntmps31
  go_wp2_with (first | ((with_reducible refine gate_dst (N := 3) rfl ?_); refine box_event ?hg (N := 3) ?hd (cs := #[.int .i64 a0_0, .slice A0_1 l0_1.length c0_1]) (t := 24) ?hr ?_; (case hd => rfl); (case hg => rfl); (case hr => first | (go_simp; done) | (go_simp; rfl)); intro gb244 hg w5 hbox hb; have n0_ := K0 (Kd.V_below (Kd.V_elderB (by (with_reducible repeat (first | apply Kd.V_alloc | apply Kd.V_drewN | apply Kd.V_drew)); exact HO0_1.out) gb244 (Nat.le_of_eq hg.symm)) hb); have n1_ := K0 (Kd.V_below (Kd.V_elderB (by (with_reducible repeat (first | apply Kd.V_alloc | apply Kd.V_drewN | apply Kd.V_drew)); exact HO1.out) gb244 (Nat.le_of_eq hg.symm)) hb); have n2_ := K0 (zqo (by repeat (first | (with_reducible first | exact HB.out | apply zqb | apply zqa | apply zqc) | exact HB.out)) hb); have n3_ := K0 (hbox); have n4_ := K0 ((by rw [hg]; exact (zqp (by repeat (first | (with_reducible first | exact HB.out | apply zqb | apply zqa | apply zqc) | exact HB.out))) : w.heap.size ≤ gb244)); have n5_ := K0 ((by rw [hg]; exact (zqp (by repeat (first | (with_reducible first | exact HB.out | apply zqb | apply zqa | apply zqc) | exact HB.out))) : w.heap.size ≤ gb244)); clear HO0_1; clear HO1; clear HB; have HO0_1 := n0_; have HO1 := n1_; have HB := n2_; have BK244 := n3_; have GW244 := n4_; have GE244 := n5_; clear n0_ n1_ n2_ n3_ n4_ n5_; clear hb hbox hg) | ((with_reducible refine gate_dst (N := 13) rfl ?_); refine Kd.N_lit (Kd.slice 3 (Kd.int .i64)) _ 25 ?hg (N' := 13) ?hd (xs := ([] : List (List Int))) (inner := []) (ok := (fun k_ => ((P0_1_ k_ ∨ P1_ k_) ∨ w.heap.size ≤ k_) ∧ k_ ≠ gb244)) (okp := (fun k_ => ((P0_1_ k_ ∨ P1_ k_) ∨ w.heap.size ≤ k_) ∧ k_ ≠ gb244)) ?hr ?hp (fun _ hk => hk) ((show ∀ k_, w5.heap.size ≤ k_ → (fun k_ => ((P0_1_ k_ ∨ P1_ k_) ∨ w.heap.size ≤ k_) ∧ k_ ≠ gb244) k_ from fun k_ hk => ⟨(.inr (Nat.le_trans (zqp (by repeat (first | (with_reducible first | exact HB.out | apply zqb | apply zqa | apply zqc | refine zqd ?_ GE244.out) | exact HB.out))) hk)), Kd.freshB (g := gb244) (o := .cells #[.int .i64 a0_0, .slice A0_1 l0_1.length c0_1] 24 (0, 0)) (by (with_reducible repeat (first | refine zqj ?_ _ | refine zqk ?_ | refine zqi ?_ _)); exact BK244.out) k_ hk⟩) _ (zqx _)) (zqw _ _) (zqx _) (by simp) ?_; (case hd => rfl); (case hg => rfl); (case hr => first | (go_simp; done) | (go_simp; rfl)); (case hp => exact (Reps.none _ _)); intro v246 w6 ho7 hb hg_ hnew_; clear hg_ hnew_; (first | rw [← Ny245.out] at ho7 | (simp only [Int.reduceToNat] at ho7; rw [← Ny245.out] at ho7)); have n0_ := K0 (Kd.V_elder' (by (with_reducible repeat (first | apply Kd.V_alloc | apply Kd.V_drewN | apply Kd.V_drew)); exact HO0_1.out) (Kd.N_base ho7) hb); have n1_ := K0 (Kd.V_elder' (by (with_reducible repeat (first | apply Kd.V_alloc | apply Kd.V_drewN | apply Kd.V_drew)); exact HO1.out) (Kd.N_base ho7) hb); have n2_ := K0 (Kd.N_lower ho7 (zqp (by repeat (first | (with_reducible first | exact HB.out | apply zqb | apply zqa | apply zqc | refine zqd ?_ GE244.out) | exact HB.out)))); have n3_ := K0 (zqn (g := gb244) (o := .cells #[.int .i64 a0_0, .slice A0_1 l0_1.length c0_1] 24 (0, 0)) (by (with_reducible repeat (first | refine zqj ?_ _ | refine zqk ?_ | refine zqi ?_ _)); exact BK244.out) hb); have n4_ := K0 (zqo (by repeat (first | (with_reducible first | exact HB.out | apply zqb | apply zqa | apply zqc | refine zqd ?_ GE244.out) | exact HB.out)) hb); clear HO0_1; clear HO1; clear BK244; clear HB; have HO0_1 := n0_; have HO1 := n1_; have HO247 := n2_; have BK244 := n3_; have HB := n4_; clear n0_ n1_ n2_ n3_ n4_; clear hb ho7; have hcz8_0 : w6.cell? ⟨gb244, 0, none⟩ = some (.int .i64 a0_0) := (zql BK244.out 0).trans rfl; have hcz8_1 : w6.cell? ⟨gb244, 1, none⟩ = some (.slice A0_1 l0_1.length c0_1) := (zql BK244.out 1).trans rfl; have hfz8_0 := zqm BK244.out 0; have hfz8_1 := zqm BK244.out 1) | ((with_reducible refine gate_builtin (b := .append) (xs := #[.tmp 13, .tmp 15]) rfl ?_); at_builtin; refine Kd.N_append_rows (Kd.slice 3 (Kd.int .i64)) (w0 := w) w.heap.size rfl (.tmp 13) (.tmp 15) 22 25 (.slice none 0 0) 24 rfl Try.underlying22 info25 rfl (by decide) (by omega) v246 y245 l0_1 _ _ _ (fun k_ => ((P0_1_ k_ ∨ P1_ k_) ∨ w.heap.size ≤ k_) ∧ k_ ≠ gb244) (fun k_ => ((fun k_ => ((P0_1_ k_ ∨ P1_ k_) ∨ w.heap.size ≤ k_) ∧ k_ ≠ gb244)) k_ ∧ some k_ ≠ (v246 : Value).ownBlock) rfl rfl ?aO ?aR (fun _ hk => hk) ?aF ?aB ?aS ?aL ?_; (case aR => exact (by skip; exact Kd.V_F (Kd.V_mono (ok' := (fun k_ => ((fun k_ => ((P0_1_ k_ ∨ P1_ k_) ∨ w.heap.size ≤ k_) ∧ k_ ≠ gb244)) k_ ∧ some k_ ≠ (v246 : Value).ownBlock)) (HO0_1.out) (fun k_ hk => ⟨⟨hk.1.1, hk.1.2⟩, hk.2⟩)))); (case aB => exact (by repeat (first | (with_reducible first | exact HB.out | apply zqb | apply zqa | apply zqc | refine zqd ?_ GE244.out) | exact HB.out))); (case aF => exact (fun k_ hk => ⟨(.inr (Nat.le_trans (zqp (by repeat (first | (with_reducible first | exact HB.out | apply zqb | apply zqa | apply zqc | refine zqd ?_ GE244.out) | exact HB.out))) hk)), Kd.freshB (g := gb244) (o := .cells #[.int .i64 a0_0, .slice A0_1 l0_1.length c0_1] 24 (0, 0)) (by (with_reducible repeat (first | refine zqj ?_ _ | refine zqk ?_ | refine zqi ?_ _)); exact BK244.out) k_ hk⟩)); (case aO => exact (by (with_reducible repeat (first | apply Kd.N_alloc | apply Kd.N_drewN | apply Kd.N_drew)); exact HO247.out)); (case aS => exact (zqp (by repeat (first | (with_reducible first | exact HB.out | apply zqb | apply zqa | apply zqc | refine zqd ?_ GE244.out) | exact HB.out)))); (case aL => have := LMc4.out; omega); intro v249 w9 ho hb hg hat; rw [← Ny248.out] at ho; have n0_ := K0 (Kd.V_afterv (ok := (fun k_ => ((P0_1_ k_ ∨ P1_ k_) ∨ w.heap.size ≤ k_) ∧ k_ ≠ gb244)) (by (with_reducible repeat (first | apply Kd.V_alloc | apply Kd.V_drewN | apply Kd.V_drew)); exact HO0_1.out) hg hat); have n1_ := K0 (Kd.V_afterv (ok := (fun k_ => ((P0_1_ k_ ∨ P1_ k_) ∨ w.heap.size ≤ k_) ∧ k_ ≠ gb244)) (by (with_reducible repeat (first | apply Kd.V_alloc | apply Kd.V_drewN | apply Kd.V_drew)); exact HO1.out) hg hat); have n2_ := K0 (blk_grown (g := gb244) (o := .cells #[.int .i64 a0_0, .slice A0_1 l0_1.length c0_1] 24 (0, 0)) (by (with_reducible repeat (first | refine zqj ?_ _ | refine zqk ?_ | refine zqi ?_ _)); exact BK244.out) hg (Kd.N_ne HO247.out BK244.out (by decide))); have n3_ := K0 (hb); have n4_ := K0 (ho); clear HO0_1; clear HO1; clear BK244; clear HB; clear HO247; have HO0_1 := n0_; have HO1 := n1_; have BK244 := n2_; have HB := n3_; have HO250 := n4_; clear n0_ n1_ n2_ n3_ n4_; clear ho hb hg hat))
  go_loopg [7, 8, 9] k (fun kq v7 v8 v9 w' => ∃ (x7_1 : List (List Int)) (x8_1 : Bool) (x9_1 : Int), v8 = .bool x8_1 ∧ v9 = .int .i64 x9_1 ∧ Aside0 (sequiturref22_Log.l0 kq l1 l2 x7_1 x8_1 x9_1 a0_0 l0_1 = some r) ∧ Aside0 (kq ≤ k) ∧ Aside0 (Kd.V k64 64 w' w.heap.size (fun k_ => ((P0_1_ k_ ∨ P1_ k_) ∨ w.heap.size ≤ k_) ∧ some k_ ≠ (v7 : Value).ownBlock ∧ k_ ≠ gb244) (.slice A1 l1.length c1) l1) ∧ Aside0 (Kd.N (Kd.slice 3 (Kd.int .i64)) 25 w' w.heap.size (fun k_ => ((P0_1_ k_ ∨ P1_ k_) ∨ w.heap.size ≤ k_) ∧ k_ ≠ gb244) v7 x7_1) ∧ Aside0 (Kd.V (Kd.slice 3 (Kd.int .i64)) 25 w' w.heap.size (fun k_ => ((P0_1_ k_ ∨ P1_ k_) ∨ w.heap.size ≤ k_) ∧ some k_ ≠ (v7 : Value).ownBlock ∧ k_ ≠ gb244) (.slice A0_1 l0_1.length c0_1) l0_1) ∧ Aside0 (w'.heap[gb244]? = some (.cells #[.int .i64 a0_0, (.slice A0_1 l0_1.length c0_1)] 24 (0, 0))) ∧ Aside0 (Below w.heap.size w w'))
  case atStart => exact ⟨(y248), (false), (0), (by first | rfl | (simp; done) | (simp [*]; done)), (by first | rfl | (simp; done) | (simp [*]; done)), H', ⟨zqx _⟩, ⟨by (with_reducible repeat (first | apply Kd.V_alloc | apply Kd.V_drewN | apply Kd.V_drew)); exact Kd.V_mono HO1.out (fun _ hk => ⟨hk.1.1, ⟨hk.2, hk.1.2⟩⟩)⟩, ⟨by (with_reducible repeat (first | apply Kd.N_alloc | apply Kd.N_drewN | apply Kd.N_drew)); exact HO250.out⟩, ⟨by (with_reducible repeat (first | apply Kd.V_alloc | apply Kd.V_drewN | apply Kd.V_drew)); exact Kd.V_mono HO0_1.out (fun _ hk => ⟨hk.1.1, ⟨hk.2, hk.1.2⟩⟩)⟩, ⟨by (with_reducible repeat (first | refine zqj ?_ _ | refine zqk ?_ | refine zqi ?_ _)); exact BK244.out⟩, ⟨by repeat (first | (with_reducible first | exact HB.out | apply zqb | apply zqa | apply zqc | refine zqd ?_ GE244.out) | exact HB.out)⟩⟩
  case round =>
    clear H'; try clear c1; try clear c2; try clear p2; try clear c3; try clear c4; try clear hcz8_0; try clear hcz8_1; try clear hfz8_0; try clear hfz8_1
    obtain ⟨x7_1, x8_1, x9_1, rfl, rfl, HA, HK1, HO_1, HO_7, HO_245001, BK244, HB⟩ := hrel
    cases gk with
    | zero => exact absurd HA.out (by simp [sequiturref22_Log.l0])
    | succ k1 =>
      have H := HA.out
      clear HA
      simp only [sequiturref22_Log.l0] at H
      by_cases c10 : x9_1 < (l1.length : Int)
      case neg =>
        rw [if_neg c10] at H
        have c10b0 : decide (x9_1 < (l1.length : Int)) = false := zqu c10
        clear c10
        as_aux_lemma =>
          obtain rfl := zqv H
          go_wp2
          go_ret
          exact ⟨by first | rfl | (simp [errW_none, errW_some] <;> rfl) | (simp [*, errW_none, errW_some] <;> rfl), by repeat (first | (with_reducible first | exact HB.out | apply zqb | apply zqa | apply zqc | refine zqd ?_ GE244.out) | exact HB.out)⟩
      rw [if_pos c10] at H
      have c10b0 : decide (x9_1 < (l1.length : Int)) = true := zqt c10
      clear c10
      by_cases c11 : 0 ≤ x9_1
      case neg =>
        rw [if_neg c11] at H
        exact absurd H (by simp)
      rw [if_pos c11] at H
      have c11b0 : decide (0 ≤ x9_1) = true := zqt c11
      clear c11
      obtain ⟨bq12, hbq12⟩ : ∃ b_ : Bool, b_ = ((rd_T64 l1 x9_1).f0) := ⟨_, rfl⟩
      replace H : (if (bq12 = true) then none else ((sequiturref19_Clause.f k1 ((rd_T64 l1 x9_1).f1) a0_0).bind fun t253 => (if t253 = 0 then ((sequiturref22_Follows.f k1 x7_1 a0_0 ((rd_T64 l1 x9_1).f1)).bind fun t254 => (if t254 = true then (if x7_1.length < 5864062014805 then ((sequiturref22_Same.f k1 ((rd_T64 l1 x9_1).f1) l2).bind fun t258 => (sequiturref22_Log.l0 k1 l1 l2 (x7_1 ++ [(rd_T64 l1 x9_1).f1]) t258 (wrap64 (x9_1 + 1)) a0_0 l0_1)) else (none)) else (some false))) else (some false)))) = some r := by rw [← hbq12] at H; exact H
      have Nbq12 := K0 hbq12; clear hbq12
      by_cases c13 : (bq12 = true)
      case pos =>
        rw [if_pos c13] at H; cases H
      replace c13 := Bool.eq_false_iff.mpr c13
      subst c13
      have H1 : ((sequiturref19_Clause.f k1 ((rd_T64 l1 x9_1).f1) a0_0).bind fun t253 => (if t253 = 0 then ((sequiturref22_Follows.f k1 x7_1 a0_0 ((rd_T64 l1 x9_1).f1)).bind fun t254 => (if t254 = true then (if x7_1.length < 5864062014805 then ((sequiturref22_Same.f k1 ((rd_T64 l1 x9_1).f1) l2).bind fun t258 => (sequiturref22_Log.l0 k1 l1 l2 (x7_1 ++ [(rd_T64 l1 x9_1).f1]) t258 (wrap64 (x9_1 + 1)) a0_0 l0_1)) else (none)) else (some false))) else (some false))) = some r := by rw [if_neg (show ¬ (false = true) by decide)] at H; exact H
      clear H
      have H := H1
      clear H1
      replace H := Option.bind_eq_some_iff.mp H
      obtain ⟨t253, A400, H⟩ := H
      replace H : (if t253 = 0 then ((sequiturref22_Follows.f k1 x7_1 a0_0 ((rd_T64 l1 x9_1).f1)).bind fun t254 => (if t254 = true then (if x7_1.length < 5864062014805 then ((sequiturref22_Same.f k1 ((rd_T64 l1 x9_1).f1) l2).bind fun t258 => (sequiturref22_Log.l0 k1 l1 l2 (x7_1 ++ [(rd_T64 l1 x9_1).f1]) t258 (wrap64 (x9_1 + 1)) a0_0 l0_1)) else (none)) else (some false))) else (some false)) = some r := H
      have A40 := K0 A400; clear A400
      by_cases c41 : t253 = 0
      case neg =>
        rw [if_neg c41] at H
        have c41b0 : (t253 == 0) = false := beq_eq_false_iff_ne.mpr c41
        have c41b1 : (t253 != 0) = true := bne_iff_ne.mpr c41
        as_aux_lemma =>
          obtain rfl := zqv H
          have p251 : 0 ≤ (x9_1 : Int) := zqe (by first | (with_reducible assumption) | assumption)
          have q251 : x9_1 < (l1.length : Int) := zqe (by first | (with_reducible assumption) | assumption)
          obtain ⟨ad251, A251_1, c251_1, e251, hx251_0, hx251_1, hl251_1, hi251_1⟩ := at_T64 (Kd.V_reads' HO_1.out).2.2 x9_1 p251 q251
          (try rw [← Nbq12.out] at hx251_0)
          cases e251
          obtain ⟨ce251, hce251, hMe251, hcc251⟩ := Kd.V_get HO_1.out z64 x9_1 p251 (by first | exact q251 | exact zqe (by first | (with_reducible assumption) | assumption) | (have e_ := (Kd.V_reads' HO_1.out).1; omega))
          obtain ⟨ua251_1, uc251_1, rfl, ul251_1, ge251_1⟩ := k64_openF hMe251
          have hv251_1 := hcc251 1 _ rfl
          rw [add_field _ _ 1 (by omega)] at hv251_1
          replace hv251_1 := zqv (hv251_1.symm.trans hx251_1)
          injection hv251_1 with hva_ hvn_ hvc_
          rw [hva_] at ge251_1
          rw [hvc_] at ul251_1
          have HL251_1 := K0 (show Kd.V (Kd.int .i64) 3 _ w.heap.size _ _ ((rd_T64 l1 x9_1).f1) from Kd.V_mk ul251_1 ge251_1)
          clear hva_ hvn_ hvc_ ge251_1 ul251_1 hcc251 hce251; have HR251_1 := K0 hi251_1; have HC251_1 := K0 hl251_1; clear hi251_1 hl251_1; replace p251 := eq_true p251; replace q251 := eq_true q251
          go_wp2_with (first | ((with_reducible refine gate_dst (N := 10) rfl ?_); refine box_event ?hg (N := 10) ?hd (cs := #[.bool false, .slice none 0 0]) (t := 64) ?hr ?_; (case hd => rfl); (case hg => rfl); (case hr => first | (go_simp; done) | (go_simp; rfl)); intro gb252 hg w61 hbox hb; have n0_ := K0 (Kd.V_below (Kd.V_elderB (by (with_reducible repeat (first | apply Kd.V_alloc | apply Kd.V_drewN | apply Kd.V_drew)); exact HO_1.out) gb252 (Nat.le_of_eq hg.symm)) hb); have n1_ := K0 (Kd.N_below (Kd.N_elderB (by (with_reducible repeat (first | apply Kd.N_alloc | apply Kd.N_drewN | apply Kd.N_drew)); exact HO_7.out) gb252 (Nat.le_of_eq hg.symm)) hb); have n2_ := K0 (Kd.V_below (Kd.V_elderB (by (with_reducible repeat (first | apply Kd.V_alloc | apply Kd.V_drewN | apply Kd.V_drew)); exact HO_245001.out) gb252 (Nat.le_of_eq hg.symm)) hb); have n3_ := K0 (Kd.V_below (Kd.V_elderB (by (with_reducible repeat (first | apply Kd.V_alloc | apply Kd.V_drewN | apply Kd.V_drew)); exact HL251_1.out) gb252 (Nat.le_of_eq hg.symm)) hb); have n4_ := K0 (zqn (g := gb244) (o := .cells #[.int .i64 a0_0, .slice A0_1 l0_1.length c0_1] 24 (0, 0)) (by (with_reducible repeat (first | refine zqj ?_ _ | refine zqk ?_ | refine zqi ?_ _)); exact BK244.out) hb); have n5_ := K0 (Kd.C_below (by repeat (first | (with_reducible exact HR251_1.out) | (with_reducible refine Kd.C_alloc ?_ _) | (with_reducible refine Kd.C_drewN ?_ _) | (with_reducible refine Kd.C_drew ?_) | exact HR251_1.out)) hb); have n6_ := K0 (zqo (by repeat (first | (with_reducible first | exact HB.out | apply zqb | apply zqa | apply zqc | refine zqd ?_ GE244.out) | exact HB.out)) hb); have n7_ := K0 (hbox); have n8_ := K0 ((by rw [hg]; exact (zqp (by repeat (first | (with_reducible first | exact HB.out | apply zqb | apply zqa | apply zqc | refine zqd ?_ GE244.out) | exact HB.out))) : w.heap.size ≤ gb252)); have n9_ := K0 ((by rw [hg]; exact (zqp (by repeat (first | (with_reducible first | exact HB.out | apply zqb | apply zqa | apply zqc | refine zqd ?_ GE244.out) | exact HB.out))) : w.heap.size ≤ gb252)); have n10_ := K0 ((by rw [hg]; exact Nat.ne_of_lt (blk_lt (g := gb244) (o := .cells #[.int .i64 a0_0, .slice A0_1 l0_1.length c0_1] 24 (0, 0)) (by (with_reducible repeat (first | refine zqj ?_ _ | refine zqk ?_ | refine zqi ?_ _)); exact BK244.out)) : gb244 ≠ gb252)); have n11_ := K0 ((by rw [hg]; exact Nat.ne_of_gt (blk_lt (g := gb244) (o := .cells #[.int .i64 a0_0, .slice A0_1 l0_1.length c0_1] 24 (0, 0)) (by (with_reducible repeat (first | refine zqj ?_ _ | refine zqk ?_ | refine zqi ?_ _)); exact BK244.out)) : gb252 ≠ gb244)); clear HO_1; clear HO_7; clear HO_245001; clear HL251_1; clear BK244; clear HR251_1; clear HB; have HO_1 := n0_; have HO_7 := n1_; have HO_245001 := n2_; have HL251_1 := n3_; have BK244 := n4_; have HR251_1 := n5_; have HB := n6_; have BK252 := n7_; have GW252 := n8_; have GE252 := n9_; have NB244_252 := n10_; have NB252_244 := n11_; clear n0_ n1_ n2_ n3_ n4_ n5_ n6_ n7_ n8_ n9_ n10_ n11_; clear hb hbox hg; have hnb62 := NB252_244.out; have hnc62 := NB244_252.out; have hcz63_0 : w61.cell? ⟨gb252, 0, none⟩ = some (.bool false) := (zql BK252.out 0).trans rfl; have hcz63_1 : w61.cell? ⟨gb252, 1, none⟩ = some (.slice none 0 0) := (zql BK252.out 1).trans rfl; have hfz63_0 := zqm BK252.out 0; have hfz63_1 := zqm BK252.out 1; have hcz64_0 : w61.cell? ⟨gb244, 0, none⟩ = some (.int .i64 a0_0) := (zql BK244.out 0).trans rfl; have hcz64_1 : w61.cell? ⟨gb244, 1, none⟩ = some (.slice A0_1 l0_1.length c0_1) := (zql BK244.out 1).trans rfl; have hfz64_0 := zqm BK244.out 0; have hfz64_1 := zqm BK244.out 1) | ((with_reducible refine gate_callee (f := 10) rfl ?_); refine goesL_ (some 34) rfl rfl Try.func10 (by kernel_rfl) rfl #[.slice A251_1 ((rd_T64 l1 x9_1).f1).length c251_1, .int .i64 a0_0] rfl (by (try simp only [List.map_toArray, List.map_cons, List.map_nil]); first | done | rfl | (simp only [zqq, zqr]; rfl)) ?_; (with_reducible refine (sequiturref19_Clause.calls k1 _ _ ((rd_T64 l1 x9_1).f1) a0_0 t253 _ ?side1 ?side2 A40.out).mono ?_); (case side1 => repeat (first | exact ((Kd.V_reads' (by (with_reducible repeat (first | apply Kd.V_alloc | apply Kd.V_drewN | apply Kd.V_drew)); exact (Kd.V_mono (Kd.V_far (p := ⟨gb252, 1, none⟩) (Kd.V_far (p := ⟨gb252, 0, none⟩) (Kd.V_mono HL251_1.out (fun k_ hk => (⟨hk, hk.2⟩ : _ ∧ k_ ≠ gb252))) (fun _ hk => hk.2) (.bool false)) (fun _ hk => hk.2) (.slice A251_1 ((rd_T64 l1 x9_1).f1).length c251_1)) (fun _ h_ => h_.1)))).2.2) | (with_reducible refine Kd.C_alloc ?_ _) | (with_reducible refine Kd.C_drewN ?_ _) | (with_reducible refine Kd.C_drew ?_))); (case side2 => exact HC251_1.out); rintro e w' ⟨rfl, ⟨nd, rfl⟩⟩; refine ⟨_, rfl, ?_⟩))
          go_ret
          exact ⟨by first | rfl | (simp [errW_none, errW_some] <;> rfl) | (simp [*, errW_none, errW_some] <;> rfl), by repeat (first | (with_reducible first | exact HB.out | apply zqb | apply zqa | apply zqc | refine zqd ?_ GE244.out | refine zqd ?_ GE252.out) | exact HB.out)⟩
      rw [if_pos c41] at H
      have c41b0 : (t253 == 0) = true := beq_iff_eq.mpr c41
      have c41b1 : (t253 != 0) = false := bne_eq_false_iff_eq.mpr c41
      clear c41
      replace H := Option.bind_eq_some_iff.mp H
      obtain ⟨t254, A420, H⟩ := H
      replace H : (if t254 = true then (if x7_1.length < 5864062014805 then ((sequiturref22_Same.f k1 ((rd_T64 l1 x9_1).f1) l2).bind fun t258 => (sequiturref22_Log.l0 k1 l1 l2 (x7_1 ++ [(rd_T64 l1 x9_1).f1]) t258 (wrap64 (x9_1 + 1)) a0_0 l0_1)) else (none)) else (some false)) = some r := H
      have A42 := K0 A420; clear A420
      by_cases c43 : t254 = true
      case neg =>
        replace c43 := Bool.eq_false_iff.mpr c43
        subst c43
        have H1 : (some false) = some r := by rw [if_neg (show ¬ (false = true) by decide)] at H; exact H
        clear H
        have H := H1
        clear H1
        as_aux_lemma =>
          obtain rfl := zqv H
          have p251 : 0 ≤ (x9_1 : Int) := zqe (by first | (with_reducible assumption) | assumption)
          have q251 : x9_1 < (l1.length : Int) := zqe (by first | (with_reducible assumption) | assumption)
          obtain ⟨ad251, A251_1, c251_1, e251, hx251_0, hx251_1, hl251_1, hi251_1⟩ := at_T64 (Kd.V_reads' HO_1.out).2.2 x9_1 p251 q251
          (try rw [← Nbq12.out] at hx251_0)
          cases e251
          obtain ⟨ce251, hce251, hMe251, hcc251⟩ := Kd.V_get HO_1.out z64 x9_1 p251 (by first | exact q251 | exact zqe (by first | (with_reducible assumption) | assumption) | (have e_ := (Kd.V_reads' HO_1.out).1; omega))
          obtain ⟨ua251_1, uc251_1, rfl, ul251_1, ge251_1⟩ := k64_openF hMe251
          have hv251_1 := hcc251 1 _ rfl
          rw [add_field _ _ 1 (by omega)] at hv251_1
          replace hv251_1 := zqv (hv251_1.symm.trans hx251_1)
          injection hv251_1 with hva_ hvn_ hvc_
          rw [hva_] at ge251_1
          rw [hvc_] at ul251_1
          have HL251_1 := K0 (show Kd.V (Kd.int .i64) 3 _ w.heap.size _ _ ((rd_T64 l1 x9_1).f1) from Kd.V_mk ul251_1 ge251_1)
          clear hva_ hvn_ hvc_ ge251_1 ul251_1 hcc251 hce251; have HR251_1 := K0 hi251_1; have HC251_1 := K0 hl251_1; clear hi251_1 hl251_1; replace p251 := eq_true p251; replace q251 := eq_true q251
          go_wp2_with (first | ((with_reducible refine gate_dst (N := 10) rfl ?_); refine box_event ?hg (N := 10) ?hd (cs := #[.bool false, .slice none 0 0]) (t := 64) ?hr ?_; (case hd => rfl); (case hg => rfl); (case hr => first | (go_simp; done) | (go_simp; rfl)); intro gb252 hg w55 hbox hb; have n0_ := K0 (Kd.V_below (Kd.V_elderB (by (with_reducible repeat (first | apply Kd.V_alloc | apply Kd.V_drewN | apply Kd.V_drew)); exact HO_1.out) gb252 (Nat.le_of_eq hg.symm)) hb); have n1_ := K0 (Kd.N_below (Kd.N_elderB (by (with_reducible repeat (first | apply Kd.N_alloc | apply Kd.N_drewN | apply Kd.N_drew)); exact HO_7.out) gb252 (Nat.le_of_eq hg.symm)) hb); have n2_ := K0 (Kd.V_below (Kd.V_elderB (by (with_reducible repeat (first | apply Kd.V_alloc | apply Kd.V_drewN | apply Kd.V_drew)); exact HO_245001.out) gb252 (Nat.le_of_eq hg.symm)) hb); have n3_ := K0 (Kd.V_below (Kd.V_elderB (by (with_reducible repeat (first | apply Kd.V_alloc | apply Kd.V_drewN | apply Kd.V_drew)); exact HL251_1.out) gb252 (Nat.le_of_eq hg.symm)) hb); have n4_ := K0 (zqn (g := gb244) (o := .cells #[.int .i64 a0_0, .slice A0_1 l0_1.length c0_1] 24 (0, 0)) (by (with_reducible repeat (first | refine zqj ?_ _ | refine zqk ?_ | refine zqi ?_ _)); exact BK244.out) hb); have n5_ := K0 (Kd.C_below (by repeat (first | (with_reducible exact HR251_1.out) | (with_reducible refine Kd.C_alloc ?_ _) | (with_reducible refine Kd.C_drewN ?_ _) | (with_reducible refine Kd.C_drew ?_) | exact HR251_1.out)) hb); have n6_ := K0 (zqo (by repeat (first | (with_reducible first | exact HB.out | apply zqb | apply zqa | apply zqc | refine zqd ?_ GE244.out) | exact HB.out)) hb); have n7_ := K0 (hbox); have n8_ := K0 ((by rw [hg]; exact (zqp (by repeat (first | (with_reducible first | exact HB.out | apply zqb | apply zqa | apply zqc | refine zqd ?_ GE244.out) | exact HB.out))) : w.heap.size ≤ gb252)); have n9_ := K0 ((by rw [hg]; exact (zqp (by repeat (first | (with_reducible first | exact HB.out | apply zqb | apply zqa | apply zqc | refine zqd ?_ GE244.out) | exact HB.out))) : w.heap.size ≤ gb252)); have n10_ := K0 ((by rw [hg]; exact Nat.ne_of_lt (blk_lt (g := gb244) (o := .cells #[.int .i64 a0_0, .slice A0_1 l0_1.length c0_1] 24 (0, 0)) (by (with_reducible repeat (first | refine zqj ?_ _ | refine zqk ?_ | refine zqi ?_ _)); exact BK244.out)) : gb244 ≠ gb252)); have n11_ := K0 ((by rw [hg]; exact Nat.ne_of_gt (blk_lt (g := gb244) (o := .cells #[.int .i64 a0_0, .slice A0_1 l0_1.length c0_1] 24 (0, 0)) (by (with_reducible repeat (first | refine zqj ?_ _ | refine zqk ?_ | refine zqi ?_ _)); exact BK244.out)) : gb252 ≠ gb244)); clear HO_1; clear HO_7; clear HO_245001; clear HL251_1; clear BK244; clear HR251_1; clear HB; have HO_1 := n0_; have HO_7 := n1_; have HO_245001 := n2_; have HL251_1 := n3_; have BK244 := n4_; have HR251_1 := n5_; have HB := n6_; have BK252 := n7_; have GW252 := n8_; have GE252 := n9_; have NB244_252 := n10_; have NB252_244 := n11_; clear n0_ n1_ n2_ n3_ n4_ n5_ n6_ n7_ n8_ n9_ n10_ n11_; clear hb hbox hg; have hnb56 := NB252_244.out; have hnc56 := NB244_252.out; have hcz57_0 : w55.cell? ⟨gb252, 0, none⟩ = some (.bool false) := (zql BK252.out 0).trans rfl; have hcz57_1 : w55.cell? ⟨gb252, 1, none⟩ = some (.slice none 0 0) := (zql BK252.out 1).trans rfl; have hfz57_0 := zqm BK252.out 0; have hfz57_1 := zqm BK252.out 1; have hcz58_0 : w55.cell? ⟨gb244, 0, none⟩ = some (.int .i64 a0_0) := (zql BK244.out 0).trans rfl; have hcz58_1 : w55.cell? ⟨gb244, 1, none⟩ = some (.slice A0_1 l0_1.length c0_1) := (zql BK244.out 1).trans rfl; have hfz58_0 := zqm BK244.out 0; have hfz58_1 := zqm BK244.out 1) | ((with_reducible refine gate_callee (f := 10) rfl ?_); refine goesL_ (some 34) rfl rfl Try.func10 (by kernel_rfl) rfl #[.slice A251_1 ((rd_T64 l1 x9_1).f1).length c251_1, .int .i64 a0_0] rfl (by (try simp only [List.map_toArray, List.map_cons, List.map_nil]); first | done | rfl | (simp only [zqq, zqr]; rfl)) ?_; (with_reducible refine (sequiturref19_Clause.calls k1 _ _ ((rd_T64 l1 x9_1).f1) a0_0 t253 _ ?side1 ?side2 A40.out).mono ?_); (case side1 => repeat (first | exact ((Kd.V_reads' (by (with_reducible repeat (first | apply Kd.V_alloc | apply Kd.V_drewN | apply Kd.V_drew)); exact (Kd.V_mono (Kd.V_far (p := ⟨gb252, 1, none⟩) (Kd.V_far (p := ⟨gb252, 0, none⟩) (Kd.V_mono HL251_1.out (fun k_ hk => (⟨hk, hk.2⟩ : _ ∧ k_ ≠ gb252))) (fun _ hk => hk.2) (.bool false)) (fun _ hk => hk.2) (.slice A251_1 ((rd_T64 l1 x9_1).f1).length c251_1)) (fun _ h_ => h_.1)))).2.2) | (with_reducible refine Kd.C_alloc ?_ _) | (with_reducible refine Kd.C_drewN ?_ _) | (with_reducible refine Kd.C_drew ?_))); (case side2 => exact HC251_1.out); rintro e w' ⟨rfl, ⟨nd, rfl⟩⟩; refine ⟨_, rfl, ?_⟩; obtain ⟨Ao59, co59, eo59⟩ := Kd.N_slice HO_7.out; subst eo59) | (go_at_call 49; (with_reducible refine (sequiturref22_Follows.calls k1 _ _ x7_1 a0_0 _ _ ((rd_T64 l1 x9_1).f1) false _ ?side1 ?side2 ?side3 ?side4 A42.out).mono ?_); (case side1 => refine (Kd.N_reads' (e := 25) (base := w.heap.size) (ok := fun k_ => ((((P0_1_ k_ ∨ P1_ k_) ∨ w.heap.size ≤ k_) ∧ k_ ≠ gb244) ∧ k_ ≠ gb252)) (n := x7_1.length) (c := co59) ?_).2.2; exact (by (with_reducible repeat (first | apply Kd.N_alloc | apply Kd.N_drewN | apply Kd.N_drew)); exact (Kd.N_mono (Kd.N_far (p := ⟨gb252, 1, none⟩) (Kd.N_far (p := ⟨gb252, 0, none⟩) (Kd.N_mono HO_7.out (fun k_ hk => (⟨hk, hk.2⟩ : _ ∧ k_ ≠ gb252))) (fun _ hk => hk.2) (.bool false)) (fun _ hk => hk.2) (.slice A251_1 ((rd_T64 l1 x9_1).f1).length c251_1)) (fun _ h_ => h_.1)))); (case side2 => exact (Kd.N_reads' HO_7.out).2.1); (case side3 => repeat (first | exact ((Kd.V_reads' (by (with_reducible repeat (first | apply Kd.V_alloc | apply Kd.V_drewN | apply Kd.V_drew)); exact (Kd.V_mono (Kd.V_far (p := ⟨gb252, 1, none⟩) (Kd.V_far (p := ⟨gb252, 0, none⟩) (Kd.V_mono HL251_1.out (fun k_ hk => (⟨hk, hk.2⟩ : _ ∧ k_ ≠ gb252))) (fun _ hk => hk.2) (.bool false)) (fun _ hk => hk.2) (.slice A251_1 ((rd_T64 l1 x9_1).f1).length c251_1)) (fun _ h_ => h_.1)))).2.2) | (with_reducible refine Kd.C_alloc ?_ _) | (with_reducible refine Kd.C_drewN ?_ _) | (with_reducible refine Kd.C_drew ?_))); (case side4 => exact HC251_1.out); rintro e w60 ⟨rfl, hb⟩; have n0_ := K0 (Kd.V_below (by (with_reducible repeat (first | apply Kd.V_alloc | apply Kd.V_drewN | apply Kd.V_drew)); exact (Kd.V_mono (Kd.V_far (p := ⟨gb252, 1, none⟩) (Kd.V_far (p := ⟨gb252, 0, none⟩) (Kd.V_mono HO_1.out (fun k_ hk => (⟨hk, hk.2⟩ : _ ∧ k_ ≠ gb252))) (fun _ hk => hk.2) (.bool false)) (fun _ hk => hk.2) (.slice A251_1 ((rd_T64 l1 x9_1).f1).length c251_1)) (fun _ h_ => h_.1))) hb); have n1_ := K0 (Kd.N_below (by (with_reducible repeat (first | apply Kd.N_alloc | apply Kd.N_drewN | apply Kd.N_drew)); exact (Kd.N_mono (Kd.N_far (p := ⟨gb252, 1, none⟩) (Kd.N_far (p := ⟨gb252, 0, none⟩) (Kd.N_mono HO_7.out (fun k_ hk => (⟨hk, hk.2⟩ : _ ∧ k_ ≠ gb252))) (fun _ hk => hk.2) (.bool false)) (fun _ hk => hk.2) (.slice A251_1 ((rd_T64 l1 x9_1).f1).length c251_1)) (fun _ h_ => h_.1))) hb); have n2_ := K0 (Kd.V_below (by (with_reducible repeat (first | apply Kd.V_alloc | apply Kd.V_drewN | apply Kd.V_drew)); exact (Kd.V_mono (Kd.V_far (p := ⟨gb252, 1, none⟩) (Kd.V_far (p := ⟨gb252, 0, none⟩) (Kd.V_mono HO_245001.out (fun k_ hk => (⟨hk, hk.2⟩ : _ ∧ k_ ≠ gb252))) (fun _ hk => hk.2) (.bool false)) (fun _ hk => hk.2) (.slice A251_1 ((rd_T64 l1 x9_1).f1).length c251_1)) (fun _ h_ => h_.1))) hb); have n3_ := K0 (Kd.V_below (by (with_reducible repeat (first | apply Kd.V_alloc | apply Kd.V_drewN | apply Kd.V_drew)); exact (Kd.V_mono (Kd.V_far (p := ⟨gb252, 1, none⟩) (Kd.V_far (p := ⟨gb252, 0, none⟩) (Kd.V_mono HL251_1.out (fun k_ hk => (⟨hk, hk.2⟩ : _ ∧ k_ ≠ gb252))) (fun _ hk => hk.2) (.bool false)) (fun _ hk => hk.2) (.slice A251_1 ((rd_T64 l1 x9_1).f1).length c251_1)) (fun _ h_ => h_.1))) hb); have n4_ := K0 (zqn (g := gb244) (o := .cells #[.int .i64 a0_0, .slice A0_1 l0_1.length c0_1] 24 (0, 0)) (by (with_reducible repeat (first | refine zqj ?_ _ | refine zqk ?_ | refine zqi ?_ _)); refine blk_far ?_ NB244_252.out _; (with_reducible repeat (first | refine zqj ?_ _ | refine zqk ?_ | refine zqi ?_ _)); refine blk_far ?_ NB244_252.out _; (with_reducible repeat (first | refine zqj ?_ _ | refine zqk ?_ | refine zqi ?_ _)); exact BK244.out) hb); have n5_ := K0 (Kd.C_below ((Kd.V_reads' (by (with_reducible repeat (first | apply Kd.V_alloc | apply Kd.V_drewN | apply Kd.V_drew)); exact (Kd.V_mono (Kd.V_far (p := ⟨gb252, 1, none⟩) (Kd.V_far (p := ⟨gb252, 0, none⟩) (Kd.V_mono HL251_1.out (fun k_ hk => (⟨hk, hk.2⟩ : _ ∧ k_ ≠ gb252))) (fun _ hk => hk.2) (.bool false)) (fun _ hk => hk.2) (.slice A251_1 ((rd_T64 l1 x9_1).f1).length c251_1)) (fun _ h_ => h_.1)))).2.2) hb); have n6_ := K0 (zqn (g := gb252) (o := .cells #[.bool false, .slice A251_1 ((rd_T64 l1 x9_1).f1).length c251_1] 64 (0, 0)) (by (with_reducible repeat (first | refine zqj ?_ _ | refine zqk ?_ | refine zqi ?_ _)); refine blk_put (cs := #[.bool false, .slice none 0 0]) ?_ 1 _ rfl; (with_reducible repeat (first | refine zqj ?_ _ | refine zqk ?_ | refine zqi ?_ _)); refine blk_put (cs := #[.bool false, .slice none 0 0]) ?_ 0 _ rfl; (with_reducible repeat (first | refine zqj ?_ _ | refine zqk ?_ | refine zqi ?_ _)); exact BK252.out) hb); have n7_ := K0 (zqo (by repeat (first | (with_reducible first | exact HB.out | apply zqb | apply zqa | apply zqc | refine zqd ?_ GE244.out | refine zqd ?_ GE252.out) | exact HB.out)) hb); clear HO_1; clear HO_7; clear HO_245001; clear HL251_1; clear BK244; clear HR251_1; clear BK252; clear HB; have HO_1 := n0_; have HO_7 := n1_; have HO_245001 := n2_; have HL251_1 := n3_; have BK244 := n4_; have HR251_1 := n5_; have BK252 := n6_; have HB := n7_; clear n0_ n1_ n2_ n3_ n4_ n5_ n6_ n7_; (try clear hb); (try clear hb2); (try clear hk); (try clear hi)))
          go_ret
          exact ⟨by first | rfl | (simp [errW_none, errW_some] <;> rfl) | (simp [*, errW_none, errW_some] <;> rfl), by repeat (first | (with_reducible first | exact HB.out | apply zqb | apply zqa | apply zqc | refine zqd ?_ GE244.out | refine zqd ?_ GE252.out) | exact HB.out)⟩
      subst c43
      have H1 : (if x7_1.length < 5864062014805 then ((sequiturref22_Same.f k1 ((rd_T64 l1 x9_1).f1) l2).bind fun t258 => (sequiturref22_Log.l0 k1 l1 l2 (x7_1 ++ [(rd_T64 l1 x9_1).f1]) t258 (wrap64 (x9_1 + 1)) a0_0 l0_1)) else (none)) = some r := by rw [if_pos rfl] at H; exact H
      clear H
      have H := H1
      clear H1
      by_cases c44 : x7_1.length < 5864062014805
      case neg =>
        rw [if_neg c44] at H
        exact absurd H (by simp)
      rw [if_pos c44] at H
      have LMc44 := K0 c44; clear c44
      obtain ⟨y255, hy255⟩ : ∃ y_ : List (List Int), y_ = (x7_1 ++ [(rd_T64 l1 x9_1).f1]) := ⟨_, rfl⟩
      replace H : ((sequiturref22_Same.f k1 ((rd_T64 l1 x9_1).f1) l2).bind fun t258 => (sequiturref22_Log.l0 k1 l1 l2 y255 t258 (wrap64 (x9_1 + 1)) a0_0 l0_1)) = some r := by first | (rw [hy255]; with_reducible exact H) | (have H2_ := (Option.bind_some _ _).symm.trans H; rw [hy255]; with_reducible exact H2_) | (have H2_ := (Option.bind_some _ _).symm.trans H; with_reducible exact H2_) | with_reducible exact H | (rw [hy255]; exact H) | exact H
      have Ny255 := K0 hy255; clear hy255
      replace H := Option.bind_eq_some_iff.mp H
      obtain ⟨t258, A450, H⟩ := H
      replace H : (sequiturref22_Log.l0 k1 l1 l2 y255 t258 (wrap64 (x9_1 + 1)) a0_0 l0_1) = some r := H
      have A45 := K0 A450; clear A450
      as_aux_lemma =>
        have H' := K0 H
        clear H
        have p251 : 0 ≤ (x9_1 : Int) := zqe (by first | (with_reducible assumption) | assumption)
        have q251 : x9_1 < (l1.length : Int) := zqe (by first | (with_reducible assumption) | assumption)
        obtain ⟨ad251, A251_1, c251_1, e251, hx251_0, hx251_1, hl251_1, hi251_1⟩ := at_T64 (Kd.V_reads' HO_1.out).2.2 x9_1 p251 q251
        (try rw [← Nbq12.out] at hx251_0)
        cases e251
        obtain ⟨ce251, hce251, hMe251, hcc251⟩ := Kd.V_get HO_1.out z64 x9_1 p251 (by first | exact q251 | exact zqe (by first | (with_reducible assumption) | assumption) | (have e_ := (Kd.V_reads' HO_1.out).1; omega))
        obtain ⟨ua251_1, uc251_1, rfl, ul251_1, ge251_1⟩ := k64_openF hMe251
        have hv251_1 := hcc251 1 _ rfl
        rw [add_field _ _ 1 (by omega)] at hv251_1
        replace hv251_1 := zqv (hv251_1.symm.trans hx251_1)
        injection hv251_1 with hva_ hvn_ hvc_
        rw [hva_] at ge251_1
        rw [hvc_] at ul251_1
        have HL251_1 := K0 (show Kd.V (Kd.int .i64) 3 _ w.heap.size _ _ ((rd_T64 l1 x9_1).f1) from Kd.V_mk ul251_1 ge251_1)
        clear hva_ hvn_ hvc_ ge251_1 ul251_1 hcc251 hce251; have HR251_1 := K0 hi251_1; have HC251_1 := K0 hl251_1; clear hi251_1 hl251_1; replace p251 := eq_true p251; replace q251 := eq_true q251
        go_wp2_with (first | ((with_reducible refine gate_dst (N := 10) rfl ?_); refine box_event ?hg (N := 10) ?hd (cs := #[.bool false, .slice none 0 0]) (t := 64) ?hr ?_; (case hd => rfl); (case hg => rfl); (case hr => first | (go_simp; done) | (go_simp; rfl)); intro gb252 hg w46 hbox hb; have n0_ := K0 (Kd.V_below (Kd.V_elderB (by (with_reducible repeat (first | apply Kd.V_alloc | apply Kd.V_drewN | apply Kd.V_drew)); exact HO_1.out) gb252 (Nat.le_of_eq hg.symm)) hb); have n1_ := K0 (Kd.N_below (Kd.N_elderB (by (with_reducible repeat (first | apply Kd.N_alloc | apply Kd.N_drewN | apply Kd.N_drew)); exact HO_7.out) gb252 (Nat.le_of_eq hg.symm)) hb); have n2_ := K0 (Kd.V_below (Kd.V_elderB (by (with_reducible repeat (first | apply Kd.V_alloc | apply Kd.V_drewN | apply Kd.V_drew)); exact HO_245001.out) gb252 (Nat.le_of_eq hg.symm)) hb); have n3_ := K0 (Kd.V_below (Kd.V_elderB (by (with_reducible repeat (first | apply Kd.V_alloc | apply Kd.V_drewN | apply Kd.V_drew)); exact HL251_1.out) gb252 (Nat.le_of_eq hg.symm)) hb); have n4_ := K0 (zqn (g := gb244) (o := .cells #[.int .i64 a0_0, .slice A0_1 l0_1.length c0_1] 24 (0, 0)) (by (with_reducible repeat (first | refine zqj ?_ _ | refine zqk ?_ | refine zqi ?_ _)); exact BK244.out) hb); have n5_ := K0 (Kd.C_below (by repeat (first | (with_reducible exact HR251_1.out) | (with_reducible refine Kd.C_alloc ?_ _) | (with_reducible refine Kd.C_drewN ?_ _) | (with_reducible refine Kd.C_drew ?_) | exact HR251_1.out)) hb); have n6_ := K0 (zqo (by repeat (first | (with_reducible first | exact HB.out | apply zqb | apply zqa | apply zqc | refine zqd ?_ GE244.out) | exact HB.out)) hb); have n7_ := K0 (hbox); have n8_ := K0 ((by rw [hg]; exact (zqp (by repeat (first | (with_reducible first | exact HB.out | apply zqb | apply zqa | apply zqc | refine zqd ?_ GE244.out) | exact HB.out))) : w.heap.size ≤ gb252)); have n9_ := K0 ((by rw [hg]; exact (zqp (by repeat (first | (with_reducible first | exact HB.out | apply zqb | apply zqa | apply zqc | refine zqd ?_ GE244.out) | exact HB.out))) : w.heap.size ≤ gb252)); have n10_ := K0 ((by rw [hg]; exact Nat.ne_of_lt (blk_lt (g := gb244) (o := .cells #[.int .i64 a0_0, .slice A0_1 l0_1.length c0_1] 24 (0, 0)) (by (with_reducible repeat (first | refine zqj ?_ _ | refine zqk ?_ | refine zqi ?_ _)); exact BK244.out)) : gb244 ≠ gb252)); have n11_ := K0 ((by rw [hg]; exact Nat.ne_of_gt (blk_lt (g := gb244) (o := .cells #[.int .i64 a0_0, .slice A0_1 l0_1.length c0_1] 24 (0, 0)) (by (with_reducible repeat (first | refine zqj ?_ _ | refine zqk ?_ | refine zqi ?_ _)); exact BK244.out)) : gb252 ≠ gb244)); clear HO_1; clear HO_7; clear HO_245001; clear HL251_1; clear BK244; clear HR251_1; clear HB; have HO_1 := n0_; have HO_7 := n1_; have HO_245001 := n2_; have HL251_1 := n3_; have BK244 := n4_; have HR251_1 := n5_; have HB := n6_; have BK252 := n7_; have GW252 := n8_; have GE252 := n9_; have NB244_252 := n10_; have NB252_244 := n11_; clear n0_ n1_ n2_ n3_ n4_ n5_ n6_ n7_ n8_ n9_ n10_ n11_; clear hb hbox hg; have hnb47 := NB252_244.out; have hnc47 := NB244_252.out; have hcz48_0 : w46.cell? ⟨gb252, 0, none⟩ = some (.bool false) := (zql BK252.out 0).trans rfl; have hcz48_1 : w46.cell? ⟨gb252, 1, none⟩ = some (.slice none 0 0) := (zql BK252.out 1).trans rfl; have hfz48_0 := zqm BK252.out 0; have hfz48_1 := zqm BK252.out 1; have hcz49_0 : w46.cell? ⟨gb244, 0, none⟩ = some (.int .i64 a0_0) := (zql BK244.out 0).trans rfl; have hcz49_1 : w46.cell? ⟨gb244, 1, none⟩ = some (.slice A0_1 l0_1.length c0_1) := (zql BK244.out 1).trans rfl; have hfz49_0 := zqm BK244.out 0; have hfz49_1 := zqm BK244.out 1) | ((with_reducible refine gate_callee (f := 10) rfl ?_); refine goesL_ (some 34) rfl rfl Try.func10 (by kernel_rfl) rfl #[.slice A251_1 ((rd_T64 l1 x9_1).f1).length c251_1, .int .i64 a0_0] rfl (by (try simp only [List.map_toArray, List.map_cons, List.map_nil]); first | done | rfl | (simp only [zqq, zqr]; rfl)) ?_; (with_reducible refine (sequiturref19_Clause.calls k1 _ _ ((rd_T64 l1 x9_1).f1) a0_0 t253 _ ?side1 ?side2 A40.out).mono ?_); (case side1 => repeat (first | exact ((Kd.V_reads' (by (with_reducible repeat (first | apply Kd.V_alloc | apply Kd.V_drewN | apply Kd.V_drew)); exact (Kd.V_mono (Kd.V_far (p := ⟨gb252, 1, none⟩) (Kd.V_far (p := ⟨gb252, 0, none⟩) (Kd.V_mono HL251_1.out (fun k_ hk => (⟨hk, hk.2⟩ : _ ∧ k_ ≠ gb252))) (fun _ hk => hk.2) (.bool false)) (fun _ hk => hk.2) (.slice A251_1 ((rd_T64 l1 x9_1).f1).length c251_1)) (fun _ h_ => h_.1)))).2.2) | (with_reducible refine Kd.C_alloc ?_ _) | (with_reducible refine Kd.C_drewN ?_ _) | (with_reducible refine Kd.C_drew ?_))); (case side2 => exact HC251_1.out); rintro e w' ⟨rfl, ⟨nd, rfl⟩⟩; refine ⟨_, rfl, ?_⟩; obtain ⟨Ao50, co50, eo50⟩ := Kd.N_slice HO_7.out; subst eo50) | (go_at_call 49; (with_reducible refine (sequiturref22_Follows.calls k1 _ _ x7_1 a0_0 _ _ ((rd_T64 l1 x9_1).f1) true _ ?side1 ?side2 ?side3 ?side4 A42.out).mono ?_); (case side1 => refine (Kd.N_reads' (e := 25) (base := w.heap.size) (ok := fun k_ => ((((P0_1_ k_ ∨ P1_ k_) ∨ w.heap.size ≤ k_) ∧ k_ ≠ gb244) ∧ k_ ≠ gb252)) (n := x7_1.length) (c := co50) ?_).2.2; exact (by (with_reducible repeat (first | apply Kd.N_alloc | apply Kd.N_drewN | apply Kd.N_drew)); exact (Kd.N_mono (Kd.N_far (p := ⟨gb252, 1, none⟩) (Kd.N_far (p := ⟨gb252, 0, none⟩) (Kd.N_mono HO_7.out (fun k_ hk => (⟨hk, hk.2⟩ : _ ∧ k_ ≠ gb252))) (fun _ hk => hk.2) (.bool false)) (fun _ hk => hk.2) (.slice A251_1 ((rd_T64 l1 x9_1).f1).length c251_1)) (fun _ h_ => h_.1)))); (case side2 => exact (Kd.N_reads' HO_7.out).2.1); (case side3 => repeat (first | exact ((Kd.V_reads' (by (with_reducible repeat (first | apply Kd.V_alloc | apply Kd.V_drewN | apply Kd.V_drew)); exact (Kd.V_mono (Kd.V_far (p := ⟨gb252, 1, none⟩) (Kd.V_far (p := ⟨gb252, 0, none⟩) (Kd.V_mono HL251_1.out (fun k_ hk => (⟨hk, hk.2⟩ : _ ∧ k_ ≠ gb252))) (fun _ hk => hk.2) (.bool false)) (fun _ hk => hk.2) (.slice A251_1 ((rd_T64 l1 x9_1).f1).length c251_1)) (fun _ h_ => h_.1)))).2.2) | (with_reducible refine Kd.C_alloc ?_ _) | (with_reducible refine Kd.C_drewN ?_ _) | (with_reducible refine Kd.C_drew ?_))); (case side4 => exact HC251_1.out); rintro e w51 ⟨rfl, hb⟩; have n0_ := K0 (Kd.V_below (by (with_reducible repeat (first | apply Kd.V_alloc | apply Kd.V_drewN | apply Kd.V_drew)); exact (Kd.V_mono (Kd.V_far (p := ⟨gb252, 1, none⟩) (Kd.V_far (p := ⟨gb252, 0, none⟩) (Kd.V_mono HO_1.out (fun k_ hk => (⟨hk, hk.2⟩ : _ ∧ k_ ≠ gb252))) (fun _ hk => hk.2) (.bool false)) (fun _ hk => hk.2) (.slice A251_1 ((rd_T64 l1 x9_1).f1).length c251_1)) (fun _ h_ => h_.1))) hb); have n1_ := K0 (Kd.N_below (by (with_reducible repeat (first | apply Kd.N_alloc | apply Kd.N_drewN | apply Kd.N_drew)); exact (Kd.N_mono (Kd.N_far (p := ⟨gb252, 1, none⟩) (Kd.N_far (p := ⟨gb252, 0, none⟩) (Kd.N_mono HO_7.out (fun k_ hk => (⟨hk, hk.2⟩ : _ ∧ k_ ≠ gb252))) (fun _ hk => hk.2) (.bool false)) (fun _ hk => hk.2) (.slice A251_1 ((rd_T64 l1 x9_1).f1).length c251_1)) (fun _ h_ => h_.1))) hb); have n2_ := K0 (Kd.V_below (by (with_reducible repeat (first | apply Kd.V_alloc | apply Kd.V_drewN | apply Kd.V_drew)); exact (Kd.V_mono (Kd.V_far (p := ⟨gb252, 1, none⟩) (Kd.V_far (p := ⟨gb252, 0, none⟩) (Kd.V_mono HO_245001.out (fun k_ hk => (⟨hk, hk.2⟩ : _ ∧ k_ ≠ gb252))) (fun _ hk => hk.2) (.bool false)) (fun _ hk => hk.2) (.slice A251_1 ((rd_T64 l1 x9_1).f1).length c251_1)) (fun _ h_ => h_.1))) hb); have n3_ := K0 (Kd.V_below (by (with_reducible repeat (first | apply Kd.V_alloc | apply Kd.V_drewN | apply Kd.V_drew)); exact (Kd.V_mono (Kd.V_far (p := ⟨gb252, 1, none⟩) (Kd.V_far (p := ⟨gb252, 0, none⟩) (Kd.V_mono HL251_1.out (fun k_ hk => (⟨hk, hk.2⟩ : _ ∧ k_ ≠ gb252))) (fun _ hk => hk.2) (.bool false)) (fun _ hk => hk.2) (.slice A251_1 ((rd_T64 l1 x9_1).f1).length c251_1)) (fun _ h_ => h_.1))) hb); have n4_ := K0 (zqn (g := gb244) (o := .cells #[.int .i64 a0_0, .slice A0_1 l0_1.length c0_1] 24 (0, 0)) (by (with_reducible repeat (first | refine zqj ?_ _ | refine zqk ?_ | refine zqi ?_ _)); refine blk_far ?_ NB244_252.out _; (with_reducible repeat (first | refine zqj ?_ _ | refine zqk ?_ | refine zqi ?_ _)); refine blk_far ?_ NB244_252.out _; (with_reducible repeat (first | refine zqj ?_ _ | refine zqk ?_ | refine zqi ?_ _)); exact BK244.out) hb); have n5_ := K0 (Kd.C_below ((Kd.V_reads' (by (with_reducible repeat (first | apply Kd.V_alloc | apply Kd.V_drewN | apply Kd.V_drew)); exact (Kd.V_mono (Kd.V_far (p := ⟨gb252, 1, none⟩) (Kd.V_far (p := ⟨gb252, 0, none⟩) (Kd.V_mono HL251_1.out (fun k_ hk => (⟨hk, hk.2⟩ : _ ∧ k_ ≠ gb252))) (fun _ hk => hk.2) (.bool false)) (fun _ hk => hk.2) (.slice A251_1 ((rd_T64 l1 x9_1).f1).length c251_1)) (fun _ h_ => h_.1)))).2.2) hb); have n6_ := K0 (zqn (g := gb252) (o := .cells #[.bool false, .slice A251_1 ((rd_T64 l1 x9_1).f1).length c251_1] 64 (0, 0)) (by (with_reducible repeat (first | refine zqj ?_ _ | refine zqk ?_ | refine zqi ?_ _)); refine blk_put (cs := #[.bool false, .slice none 0 0]) ?_ 1 _ rfl; (with_reducible repeat (first | refine zqj ?_ _ | refine zqk ?_ | refine zqi ?_ _)); refine blk_put (cs := #[.bool false, .slice none 0 0]) ?_ 0 _ rfl; (with_reducible repeat (first | refine zqj ?_ _ | refine zqk ?_ | refine zqi ?_ _)); exact BK252.out) hb); have n7_ := K0 (zqo (by repeat (first | (with_reducible first | exact HB.out | apply zqb | apply zqa | apply zqc | refine zqd ?_ GE244.out | refine zqd ?_ GE252.out) | exact HB.out)) hb); clear HO_1; clear HO_7; clear HO_245001; clear HL251_1; clear BK244; clear HR251_1; clear BK252; clear HB; have HO_1 := n0_; have HO_7 := n1_; have HO_245001 := n2_; have HL251_1 := n3_; have BK244 := n4_; have HR251_1 := n5_; have BK252 := n6_; have HB := n7_; clear n0_ n1_ n2_ n3_ n4_ n5_ n6_ n7_; (try clear hb); (try clear hb2); (try clear hk); (try clear hi); have hcz52_0 : w51.cell? ⟨gb252, 0, none⟩ = some (.bool false) := (zql BK252.out 0).trans rfl; have hcz52_1 : w51.cell? ⟨gb252, 1, none⟩ = some (.slice A251_1 ((rd_T64 l1 x9_1).f1).length c251_1) := (zql BK252.out 1).trans rfl; have hfz52_0 := zqm BK252.out 0; have hfz52_1 := zqm BK252.out 1) | ((with_reducible refine gate_builtin (b := .append) (xs := #[.tmp 45, .tmp 48]) rfl ?_); at_builtin; refine Kd.N_append (Kd.slice 3 (Kd.int .i64)) (w0 := w) w.heap.size rfl (.tmp 45) (.tmp 48) 22 25 (.slice none 0 0) 24 rfl Try.underlying22 info25 rfl (by decide) (by omega) (.slice Ao50 x7_1.length co50) x7_1 ((rd_T64 l1 x9_1).f1) [.slice A251_1 ((rd_T64 l1 x9_1).f1).length c251_1] (fun k_ => ((P0_1_ k_ ∨ P1_ k_) ∨ w.heap.size ≤ k_) ∧ k_ ≠ gb244 ∧ k_ ≠ gb252) (fun k_ => ((fun k_ => ((P0_1_ k_ ∨ P1_ k_) ∨ w.heap.size ≤ k_) ∧ k_ ≠ gb244 ∧ k_ ≠ gb252)) k_ ∧ some k_ ≠ (.slice Ao50 x7_1.length co50 : Value).ownBlock) rfl rfl ?aP (fun _ hk => hk) ?aF ?aO ?aB ?aS ?aL ?_; (case aP => exact (Kd.FK_slice_mk (Kd.V_reads' (Kd.V_mono (ok' := (fun k_ => ((fun k_ => ((P0_1_ k_ ∨ P1_ k_) ∨ w.heap.size ≤ k_) ∧ k_ ≠ gb244 ∧ k_ ≠ gb252)) k_ ∧ some k_ ≠ (.slice Ao50 x7_1.length co50 : Value).ownBlock)) (HL251_1.out) (fun k_ hk => ⟨⟨hk.1.1, ⟨hk.1.2.2, hk.2⟩⟩, hk.1.2.1⟩))).2.1 (Kd.V_F (Kd.V_mono (ok' := (fun k_ => ((fun k_ => ((P0_1_ k_ ∨ P1_ k_) ∨ w.heap.size ≤ k_) ∧ k_ ≠ gb244 ∧ k_ ≠ gb252)) k_ ∧ some k_ ≠ (.slice Ao50 x7_1.length co50 : Value).ownBlock)) (HL251_1.out) (fun k_ hk => ⟨⟨hk.1.1, ⟨hk.1.2.2, hk.2⟩⟩, hk.1.2.1⟩))))); (case aB => exact (by repeat (first | (with_reducible first | exact HB.out | apply zqb | apply zqa | apply zqc | refine zqd ?_ GE244.out | refine zqd ?_ GE252.out) | exact HB.out))); (case aF => exact (fun k_ hk => ⟨(.inr (Nat.le_trans (zqp (by repeat (first | (with_reducible first | exact HB.out | apply zqb | apply zqa | apply zqc | refine zqd ?_ GE244.out | refine zqd ?_ GE252.out) | exact HB.out))) hk)), Kd.freshB (g := gb244) (o := .cells #[.int .i64 a0_0, .slice A0_1 l0_1.length c0_1] 24 (0, 0)) (by (with_reducible repeat (first | refine zqj ?_ _ | refine zqk ?_ | refine zqi ?_ _)); exact BK244.out) k_ hk, Kd.freshB (g := gb252) (o := .cells #[.bool false, .slice A251_1 ((rd_T64 l1 x9_1).f1).length c251_1] 64 (0, 0)) (by (with_reducible repeat (first | refine zqj ?_ _ | refine zqk ?_ | refine zqi ?_ _)); exact BK252.out) k_ hk⟩)); (case aO => exact (by (with_reducible repeat (first | apply Kd.N_alloc | apply Kd.N_drewN | apply Kd.N_drew)); exact Kd.N_mono HO_7.out (fun _ hk => ⟨hk.1.1, ⟨hk.1.2, hk.2⟩⟩))); (case aS => exact (zqp (by repeat (first | (with_reducible first | exact HB.out | apply zqb | apply zqa | apply zqc | refine zqd ?_ GE244.out | refine zqd ?_ GE252.out) | exact HB.out)))); (case aL => have := LMc44.out; omega); intro v256 w53 ho hb hg hat; rw [← Ny255.out] at ho; have n0_ := K0 (Kd.V_afterv (ok := (fun k_ => ((P0_1_ k_ ∨ P1_ k_) ∨ w.heap.size ≤ k_) ∧ k_ ≠ gb244 ∧ k_ ≠ gb252)) (by (with_reducible repeat (first | apply Kd.V_alloc | apply Kd.V_drewN | apply Kd.V_drew)); exact Kd.V_mono HO_1.out (fun _ hk => ⟨⟨hk.1.1, ⟨hk.1.2.2, hk.2⟩⟩, hk.1.2.1⟩)) hg hat); have n1_ := K0 (Kd.V_afterv (ok := (fun k_ => ((P0_1_ k_ ∨ P1_ k_) ∨ w.heap.size ≤ k_) ∧ k_ ≠ gb244 ∧ k_ ≠ gb252)) (by (with_reducible repeat (first | apply Kd.V_alloc | apply Kd.V_drewN | apply Kd.V_drew)); exact Kd.V_mono HO_245001.out (fun _ hk => ⟨⟨hk.1.1, ⟨hk.1.2.2, hk.2⟩⟩, hk.1.2.1⟩)) hg hat); have n2_ := K0 (blk_grown (g := gb244) (o := .cells #[.int .i64 a0_0, .slice A0_1 l0_1.length c0_1] 24 (0, 0)) (by (with_reducible repeat (first | refine zqj ?_ _ | refine zqk ?_ | refine zqi ?_ _)); exact BK244.out) hg (Kd.N_ne HO_7.out BK244.out (by decide))); have n3_ := K0 (Kd.V_afterv (ok := (fun k_ => ((P0_1_ k_ ∨ P1_ k_) ∨ w.heap.size ≤ k_) ∧ k_ ≠ gb244 ∧ k_ ≠ gb252)) (by (with_reducible repeat (first | apply Kd.V_alloc | apply Kd.V_drewN | apply Kd.V_drew)); exact Kd.V_mono HL251_1.out (fun _ hk => ⟨⟨hk.1.1, ⟨hk.1.2.2, hk.2⟩⟩, hk.1.2.1⟩)) hg hat); have n4_ := K0 (blk_grown (g := gb252) (o := .cells #[.bool false, .slice A251_1 ((rd_T64 l1 x9_1).f1).length c251_1] 64 (0, 0)) (by (with_reducible repeat (first | refine zqj ?_ _ | refine zqk ?_ | refine zqi ?_ _)); exact BK252.out) hg (Kd.N_ne HO_7.out BK252.out (by decide))); have n5_ := K0 (hb); have n6_ := K0 (ho); clear HO_1; clear HO_245001; clear BK244; clear HL251_1; clear BK252; clear HB; clear HO_7; have HO_1 := n0_; have HO_245001 := n1_; have BK244 := n2_; have HL251_1 := n3_; have BK252 := n4_; have HB := n5_; have HO257 := n6_; clear n0_ n1_ n2_ n3_ n4_ n5_ n6_; clear ho hb hg hat; have hcz54_0 : w53.cell? ⟨gb252, 0, none⟩ = some (.bool false) := (zql BK252.out 0).trans rfl; have hcz54_1 : w53.cell? ⟨gb252, 1, none⟩ = some (.slice A251_1 ((rd_T64 l1 x9_1).f1).length c251_1) := (zql BK252.out 1).trans rfl; have hfz54_0 := zqm BK252.out 0; have hfz54_1 := zqm BK252.out 1) | ((with_reducible refine gate_callee (f := 50) rfl ?_); refine goesL_ (some 53) rfl rfl Try.func50 (by kernel_rfl) rfl #[.slice A251_1 ((rd_T64 l1 x9_1).f1).length c251_1, .slice A2 l2.length c2] rfl (by (try simp only [List.map_toArray, List.map_cons, List.map_nil]); first | done | rfl | (simp only [zqq, zqr]; rfl)) ?_; (with_reducible refine (sequiturref22_Same.calls k1 _ _ ((rd_T64 l1 x9_1).f1) _ _ l2 t258 _ ?side1 ?side2 ?side3 ?side4 A45.out).mono ?_); (case side1 => repeat (first | exact ((Kd.V_reads' (by (with_reducible repeat (first | apply Kd.V_alloc | apply Kd.V_drewN | apply Kd.V_drew)); exact HL251_1.out)).2.2) | (with_reducible refine Kd.C_alloc ?_ _) | (with_reducible refine Kd.C_drewN ?_ _) | (with_reducible refine Kd.C_drew ?_))); (case side2 => exact HC251_1.out); (case side3 => repeat (first | exact (Kd.C_below HR2.out HB.out) | (with_reducible refine Kd.C_alloc ?_ _) | (with_reducible refine Kd.C_drewN ?_ _) | (with_reducible refine Kd.C_drew ?_))); (case side4 => exact HC2.out); rintro e w' ⟨rfl, ⟨nd, rfl⟩⟩; refine ⟨_, rfl, ?_⟩))
        go_roundg k1
        case measure => have := HK1.out; omega
        case rel => exact ⟨(y255), (t258), (wrap64 (x9_1 + 1)), (by first | rfl | (simp; done) | (simp [*]; done)), (by first | rfl | (simp; done) | (simp [*]; done)), H', ⟨by have := HK1.out; omega⟩, ⟨by (with_reducible repeat (first | apply Kd.V_alloc | apply Kd.V_drewN | apply Kd.V_drew)); exact Kd.V_mono HO_1.out (fun _ hk => ⟨hk.1.1, ⟨hk.2, hk.1.2.1⟩⟩)⟩, ⟨by (with_reducible repeat (first | apply Kd.N_alloc | apply Kd.N_drewN | apply Kd.N_drew)); exact Kd.N_mono HO257.out (fun _ hk => ⟨hk.1, hk.2.1⟩)⟩, ⟨by (with_reducible repeat (first | apply Kd.V_alloc | apply Kd.V_drewN | apply Kd.V_drew)); exact Kd.V_mono HO_245001.out (fun _ hk => ⟨hk.1.1, ⟨hk.2, hk.1.2.1⟩⟩)⟩, ⟨by (with_reducible repeat (first | refine zqj ?_ _ | refine zqk ?_ | refine zqi ?_ _)); exact BK244.out⟩, ⟨by repeat (first | (with_reducible first | exact HB.out | apply zqb | apply zqa | apply zqc | refine zqd ?_ GE244.out | refine zqd ?_ GE252.out) | exact HB.out)⟩⟩
end Go.Proofs.Ytaibnbhgjnddnaa.P
