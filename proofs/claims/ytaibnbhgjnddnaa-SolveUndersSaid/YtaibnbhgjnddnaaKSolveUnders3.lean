import Derived.StillTailTactics
import Derived.Shelf.Abstract
import Derived.Laws.EntriesVeiled
import Derived.Test.YtaibnbhgjnddnaaKSolveUnders1
import Derived.Test.YtaibnbhgjnddnaaKSolveUnders2
namespace Go.Proofs.Ytaibnbhgjnddnaa.P
open Go.RowKit Go.Proofs.YtaibnbhgjnddnaaW.PrintWords Go.Proofs.YtaibnbhgjnddnaaW.PrintLast Go.Proofs.YtaibnbhgjnddnaaW.PrintMore
attribute [local go_sem] max2_int min2_int max_two min_two max_three min_three max_four min_four
set_option linter.unusedVariables false
set_option linter.unusedSimpArgs false
def foldO {σ : Type} (f : σ → Int → Option σ) : List Int → σ → Option σ
  | [], s => some s
  | x :: t, s => (f s x).bind (foldO f t)
def vbl (l : Int) : Int := mx l (wrap64 (-l))
def lookP (E : Eng) (all : List (List Int)) : Nat → List Int × List Int → Int → Option (List Int × List Int)
  | 0, _, _ => none
  | m + 1, s, l => if vbl l ∈ s.1 ∨ E.level (vbl l) < 0 then some s else if s.1.length < 2199023255552 ∧ s.2.length < 2199023255552 then (if E.why (vbl l) < 0 then some (vbl l :: s.1, s.2 ++ [wrap64 (-l)]) else if (E.why (vbl l)).toNat < all.length then foldO (fun s x => lookP E all m s x) (all.getD (E.why (vbl l)).toNat []) (vbl l :: s.1, s.2) else none) else none
theorem vbl_wf {l : Int} (h : (Lit.int .i64 l).wf = true) : (Lit.int .i64 (vbl l)).wf = true := by
  unfold vbl mx
  split
  · exact wf_wrap l
  exact h
def seenF (s : List Int) (x : Int) : Option Value := if x ∈ s then some (.bool true) else none
structure LookIn (wl w : World) (S gM gS gO gL bM : Nat) (s : List Int × List Int) (vO : Value) : Prop where
  cM : w.heap[gM]? = some (.cells #[.map (some bM)] 98 (0, 0))
  cS : w.heap[gS]? = some (.cells #[.pointer (some ⟨S, 0, none⟩)] 54 (0, 0))
  cO : w.heap[gO]? = some (.cells #[vO] 25 (0, 0))
  cL : w.heap[gL]? = some (.cells #[.func (.func 76) #[] #[.pointer (some ⟨gM, 0, none⟩), .pointer (some ⟨gS, 0, none⟩), .pointer (some ⟨gO, 0, none⟩), .pointer (some ⟨gL, 0, none⟩)]] 85 (0, 0))
  mp : MapI Try.prog 3 w bM (seenF s.1)
  out : Kd.R (Kd.int .i64) 3 w wl.heap.size (fun k => k ≠ gM ∧ k ≠ gS ∧ k ≠ gO ∧ k ≠ gL ∧ k ≠ bM) vO s.2
  bel : Below wl.heap.size wl w
  hi : wl.heap.size ≤ gM ∧ wl.heap.size ≤ gS ∧ wl.heap.size ≤ gO ∧ wl.heap.size ≤ gL ∧ wl.heap.size ≤ bM
  ne : gM ≠ gO ∧ gS ≠ gO ∧ gL ≠ gO ∧ bM ≠ gO ∧ gM ≠ bM ∧ gS ≠ bM ∧ gL ≠ bM
section
variable {wl w w1 : World} {S gM gS gO gL bM : Nat} {s : List Int × List Int} {vO : Value}
theorem LookIn.below (h : LookIn wl w S gM gS gO gL bM s vO) (hb : Below w.heap.size w w1) : LookIn wl w1 S gM gS gO gL bM s vO :=
  ⟨zqn h.cM hb, zqn h.cS hb, zqn h.cO hb, zqn h.cL hb, h.mp.block (hb.block _ h.mp.lt), Kd.R_below h.out hb, zqo h.bel hb, h.hi, h.ne⟩
theorem LookIn.look (h : LookIn wl w S gM gS gO gL bM s vO) {x : Int} (hx : (Lit.int .i64 x).wf = true) : (Instr.lookup 98 (.map (some bM)) (.int .i64 x) false).run Try.prog w = .ok (.bool (decide (x ∈ s.1))) w := by
  have := h.mp.look Try.underlying3 Try.underlying98 (z := .bool false) (by kernel_rfl) hx
  rw [this]
  unfold seenF
  by_cases hm : x ∈ s.1
  case pos =>
    rw [if_pos hm, zqt hm]; rfl
  rw [if_neg hm, zqu hm]; rfl
theorem LookIn.see (h : LookIn wl w S gM gS gO gL bM s vO) {x : Int} (hm : MapI Try.prog 3 w1 bM (setI (seenF s.1) x (some (.bool true)))) (hg : w.grownBy w1 (some bM)) : LookIn wl w1 S gM gS gO gL bM (x :: s.1, s.2) vO := by
  obtain ⟨n1, n2, n3, n4, n5, n6, n7⟩ := h.ne
  refine ⟨blk_grown h.cM hg (by simpa using n5), blk_grown h.cS hg (by simpa using n6), blk_grown h.cO hg (by simpa using n4.symm), blk_grown h.cL hg (by simpa using n7), hm.congr (fun y => ?_), Kd.R_grown h.out hg (fun k hk e => hk.2.2.2.2 (by injection e)), h.bel.grown hg h.bel.size (fun k e => by cases e; exact h.hi.2.2.2.2), h.hi, h.ne⟩
  unfold setI seenF
  by_cases e : y = x
  case pos =>
    rw [if_pos e, if_pos (by rw [e]; simp)]
  rw [if_neg e]
  by_cases hs : y ∈ s.1
  case pos =>
    rw [if_pos hs, if_pos (List.mem_cons_of_mem _ hs)]
  rw [if_neg hs, if_neg (fun h => (List.mem_cons.1 h).elim e hs)]
theorem LookIn.tell (h : LookIn wl w S gM gS gO gL bM s vO) {v1 : Value} {ys : List Int} (hR : Kd.R (Kd.int .i64) 3 w1 wl.heap.size (fun k => (k ≠ gM ∧ k ≠ gS ∧ k ≠ gO ∧ k ≠ gL ∧ k ≠ bM) ∨ w.heap.size ≤ k) v1 ys) (hg : w.grownBy w1 vO.ownBlock) : LookIn wl (w1.setCell ⟨gO, 0, none⟩ v1) S gM gS gO gL bM (s.1, ys) v1 := by
  obtain ⟨n1, n2, n3, n4, n5, n6, n7⟩ := h.ne
  obtain ⟨i1, i2, i3, i4, i5⟩ := h.hi
  have hv := h.out.1
  have far : ∀ {g : Nat}, ¬ (g ≠ gM ∧ g ≠ gS ∧ g ≠ gO ∧ g ≠ gL ∧ g ≠ bM) → some g ≠ vO.ownBlock := fun hn e => hn (hv _ e.symm)
  have l1 := blk_lt h.cM
  have l2 := blk_lt h.cS
  have l3 := blk_lt h.cO
  have l4 := blk_lt h.cL
  have l5 := h.mp.lt
  have hR1 : Kd.R (Kd.int .i64) 3 w1 wl.heap.size (fun k => k ≠ gM ∧ k ≠ gS ∧ k ≠ gO ∧ k ≠ gL ∧ k ≠ bM) v1 ys := Kd.R_mono hR (fun k hk => hk.elim id (fun hle => ⟨by omega, by omega, by omega, by omega, by omega⟩))
  refine ⟨blk_far (blk_grown h.cM hg (far (fun h => h.1 rfl))) n1 _, blk_far (blk_grown h.cS hg (far (fun h => h.2.1 rfl))) n2 _, blk_put (blk_grown h.cO hg (far (fun h => h.2.2.1 rfl))) 0 v1 rfl, blk_far (blk_grown h.cL hg (far (fun h => h.2.2.2.1 rfl))) n3 _, h.mp.block ((Below.heap_setCell w1 _ _ bM n4).trans (hg.block bM l5 (far (fun h => h.2.2.2.2 rfl)))), Kd.R_far hR1 (fun k hk => hk.2.2.1) v1, (h.bel.grown hg h.bel.size (fun k e => Kd.R_base h.out k e)).setCell i3 _, h.hi, h.ne⟩
end
set_option maxRecDepth 100000 in
set_option maxHeartbeats 4000000 in
theorem sol_look.calls {w0 wl : World} {S B : Nat} {T : Tag} {U : Col} {Z : Sol} {p : EngP} {q : SolP} (h0 : SolIn w0 wl S B T U Z p q) (hlit : ∀ c ∈ Z.all, ∀ x ∈ c, (Lit.int .i64 x).wf = true) (gM gS gO gL bM : Nat) :
    ∀ (m : Nat) (w : World) (s s' : List Int × List Int) (vO : Value) (l : Int), LookIn wl w S gM gS gO gL bM s vO → (Lit.int .i64 l).wf = true → lookP Z.E Z.all m s l = some s' →
    Calls Try.prog 76 #[.int .i64 l, .pointer (some ⟨gM, 0, none⟩), .pointer (some ⟨gS, 0, none⟩), .pointer (some ⟨gO, 0, none⟩), .pointer (some ⟨gL, 0, none⟩)] w fun e w' => e = .returned (.tuple #[]) ∧ ∃ vO', LookIn wl w' S gM gS gO gL bM s' vO' := by
  have HS := K0 h0; have HLIT := K0 hlit
  have eg := enters_of Try.func76 (by kernel_rfl) rfl
  clear h0 hlit
  intro m
  induction m with
  | zero => intro w s s' vO l _ _ h; cases h
  | succ m ih =>
    intro w s s' vO l hL hl hp
    unfold lookP at hp
    obtain ⟨v, hv⟩ : ∃ v, vbl l = v := ⟨_, rfl⟩
    have hvw := vbl_wf hl
    rw [hv] at hp hvw
    have HVB := K0 (solve_variable.calls l v w (by rw [← hv]; rfl))
    have HL := K0 hL; have HW := K0 hvw; have HLW := K0 hl; have IH := K0 ih; clear hL hv hvw hl ih
    by_cases hseen : v ∈ s.1
    case pos =>
      rw [if_pos (.inl hseen)] at hp
      injection hp with hp
      subst hp
      go_enter Try.func76, Try.ntmps76
      go_wp2_with fail
      refine HVB.out.mono ?_
      rintro e' w1 ⟨rfl, hb⟩
      have HL1 := K0 (HL.out.below hb)
      have q1 := HL1.out.look HW.out
      rw [zqt hseen] at q1
      have c1 : w1.cell? ⟨gM, 0, none⟩ = some (.map (some bM)) := (zql HL1.out.cM 0).trans rfl
      clear hb HL HVB hseen
      go_wp2
      ((try simp only [Exit.inBlock, Exit.then]); refine bodyPost_ret (results_none rfl _ _ _) rfl ?_)
      exact ⟨rfl, vO, HL1.out⟩
    have hq1 : decide (v ∈ s.1) = false := zqu hseen
    by_cases hlev : Z.E.level v < 0
    case pos =>
      rw [if_pos (.inr hlev)] at hp
      injection hp with hp
      subst hp
      have d : decide (Z.E.level v < 0) = true := zqt hlev
      clear hseen hlev
      go_enter Try.func76, Try.ntmps76
      go_wp2_with fail
      refine HVB.out.mono ?_
      rintro e' w1 ⟨rfl, hb⟩
      have HL1 := K0 (HL.out.below hb)
      have q1 := HL1.out.look HW.out
      rw [hq1] at q1
      have c1 : w1.cell? ⟨gM, 0, none⟩ = some (.map (some bM)) := (zql HL1.out.cM 0).trans rfl
      have c2 : w1.cell? ⟨gS, 0, none⟩ = some (.pointer (some ⟨S, 0, none⟩)) := (zql HL1.out.cS 0).trans rfl
      have HS1 := K0 (HS.out.below HL1.out.bel)
      have c3 := HS1.out.cells.1
      clear hb HL HVB
      go_wp2_with fail
      refine (eng_Level.calls Z.E B T p v _ HS1.out.e HW.out).mono ?_
      rintro e' w2 ⟨rfl, hb⟩
      have HL2 := K0 (HL1.out.below hb)
      clear hb HL1 q1 c1 c2 c3
      go_wp2
      ((try simp only [Exit.inBlock, Exit.then]); refine bodyPost_ret (results_none rfl _ _ _) rfl ?_)
      exact ⟨rfl, vO, HL2.out⟩
    rw [if_neg (fun h => h.elim hseen hlev)] at hp
    have d : decide (Z.E.level v < 0) = false := zqu hlev
    split at hp
    · rename_i hsz
      have HSZ := K0 hsz; have HP := K0 hp; clear hseen hlev hsz hp
      go_enter Try.func76, Try.ntmps76
      go_wp2_with fail
      refine HVB.out.mono ?_
      rintro e' w1 ⟨rfl, hb⟩
      have HL1 := K0 (HL.out.below hb)
      have q1 := HL1.out.look HW.out
      rw [hq1] at q1
      have c1 : w1.cell? ⟨gM, 0, none⟩ = some (.map (some bM)) := (zql HL1.out.cM 0).trans rfl
      have c2 : w1.cell? ⟨gS, 0, none⟩ = some (.pointer (some ⟨S, 0, none⟩)) := (zql HL1.out.cS 0).trans rfl
      have HS1 := K0 (HS.out.below HL1.out.bel)
      have c3 := HS1.out.cells.1
      clear hb HL HVB
      go_wp2_with fail
      refine (eng_Level.calls Z.E B T p v _ HS1.out.e HW.out).mono ?_
      rintro e' w2 ⟨rfl, hb⟩
      have HL2 := K0 (HL1.out.below hb)
      have c1 : w2.cell? ⟨gM, 0, none⟩ = some (.map (some bM)) := (zql HL2.out.cM 0).trans rfl
      clear hb HL1 q1 c2 c3 HS1
      go_wp2_with (refine wpList_store_I rfl (.tmp 24) (.tmp 25) (.const (.bool true)) 98 rfl 3 4 Try.underlying3 Try.underlying98 bM (seenF s.1) rfl HL2.out.mp v (.bool true) rfl rfl HW.out s.1 (fun x hx => by unfold seenF at hx; split at hx; assumption; cases hx) (by have := HSZ.out; omega) ?_; intro w3 hM3 hg3; have HL3 := K0 (HL2.out.see hM3 hg3); clear hM3 hg3 HL2 c1; have c2 : w3.cell? ⟨gS, 0, none⟩ = some (.pointer (some ⟨S, 0, none⟩)) := (zql HL3.out.cS 0).trans rfl; have HS3 := K0 (HS.out.below HL3.out.bel); have c3 := HS3.out.cells.1)
      refine (eng_Why.calls Z.E B T p v _ HS3.out.e HW.out).mono ?_
      rintro e' w4 ⟨rfl, hb⟩
      have HL4 := K0 (HL3.out.below hb)
      have HS4 := K0 (HS3.out.below hb)
      clear hb HL3 HS3 c2 c3
      have hp := HP.out
      by_cases hwhy : Z.E.why v < 0
      case pos =>
        rw [if_pos hwhy] at hp
        injection hp with hp
        have dw : decide (Z.E.why v < 0) = true := zqt hwhy
        have HPE := K0 hp
        have c4 : w4.cell? ⟨gO, 0, none⟩ = some vO := (zql HL4.out.cO 0).trans rfl
        have f4 : w4.frozen? ⟨gO, 0, none⟩ = false := zqm HL4.out.cO 0
        have HLN := K0 (show (s.2.length + 1) * 8 ≤ 140737488355328 by have := HSZ.out; omega)
        clear hp HP hwhy HS4
        go_wp2_with (at_builtin; refine Kd.R_append (Kd.int .i64) (w0 := wl) (W := w4) wl.heap.size rfl (.tmp 34) (.tmp 37) 25 3 (.int .i64 0) 8 rfl Try.underlying25 (by kernel_rfl) rfl (by decide) (by decide) vO s.2 (wrap64 (-l)) [.int .i64 (wrap64 (-l))] (fun k => (k ≠ gM ∧ k ≠ gS ∧ k ≠ gO ∧ k ≠ gL ∧ k ≠ bM) ∨ w4.heap.size ≤ k) (fun _ => False) rfl rfl rfl (fun _ h => h.elim) (fun k hk => .inr hk) (Kd.R_mono HL4.out.out (fun _ hk => .inl hk)) HL4.out.bel (zqp HL4.out.bel) HLN.out ?_; intro v5 w5 r5 hb5 hg5 hat5; obtain ⟨A5, k5, e5⟩ := Kd.R_slice r5; subst e5; have HL5 := K0 (HL4.out.tell r5 hg5); have c5 : w5.cell? ⟨gO, 0, none⟩ = some vO := cell_grown hg5 c4 (fun e => (HL4.out.out.1 gO e.symm).2.2.1 rfl); have f5 : w5.frozen? ⟨gO, 0, none⟩ = false := zqm (blk_grown HL4.out.cO hg5 (fun e => (HL4.out.out.1 gO e.symm).2.2.1 rfl)) 0; clear r5 hb5 hg5 hat5)
        ((try simp only [Exit.inBlock, Exit.then]); refine bodyPost_ret (results_none rfl _ _ _) rfl ?_)
        exact ⟨rfl, _, by rw [← HPE.out]; have := HL5.out; simp only [List.length_append, List.length_singleton] at this; exact this⟩
      rw [if_neg hwhy] at hp
      have dw : decide (Z.E.why v < 0) = false := zqu hwhy
      split at hp
      · rename_i hlt
        obtain ⟨n, hn⟩ : ∃ n : Nat, Z.E.why v = (n : Int) := ⟨(Z.E.why v).toNat, by omega⟩
        rw [hn] at hlt hp dw
        rw [Int.toNat_natCast] at hlt hp
        obtain ⟨ad, kA, A, cA, e1, x1, r2, r3⟩ := HS.out.row n hlt
        obtain ⟨c, hc⟩ : ∃ c, Z.all[n] = c := ⟨_, rfl⟩
        have hgd : Z.all.getD n [] = c := by rw [List.getD_eq_getElem?_getD, List.getElem?_eq_getElem hlt, hc]; rfl
        have hcm : ∀ x ∈ c, (Lit.int .i64 x).wf = true := HLIT.out c (by rw [← hc]; exact List.getElem_mem hlt)
        rw [hc] at x1 r2 r3
        rw [hgd] at hp
        have x4 := (HL4.out.bel.cell (World.block_lt_of_cell? wl _ x1)).trans x1
        have c2 : w4.cell? ⟨gS, 0, none⟩ = some (.pointer (some ⟨S, 0, none⟩)) := (zql HL4.out.cS 0).trans rfl
        have c3 := HS4.out.cells.2.2.1
        rw [e1] at c3
        have HR := K0 r3; have HCM := K0 hcm; have HPE := K0 hp
        have P0 : ((0 : Int) ≤ (n : Int)) = True := eq_true (by omega)
        have P1 : ((n : Int) < (Z.all.length : Int)) = True := eq_true (by omega)
        have P2 : (n < Z.all.length) = True := eq_true hlt
        have hbig : c.length ≤ 9223372036854775807 := (Kd.F_now r3).2.1
        clear hp HP hwhy HS4 hc hgd hcm x1 r2 r3 e1
        rw [hn]
        clear hn
        go_wp2
        clear c2 c3 x4
        go_loopg [47] c.length (fun gg v47 wr => ∃ (j : Nat) (s1 : List Int × List Int) (vO1 : Value), v47 = .int .i64 (j : Int) ∧ Aside0 (j + gg = c.length) ∧ Aside0 (LookIn wl wr S gM gS gO gL bM s1 vO1) ∧ Aside0 (foldO (fun s x => lookP Z.E Z.all m s x) (c.drop j) s1 = some s'))
        case atStart => exact ⟨0, _, _, rfl, ⟨by simp⟩, HL4, HPE⟩
        case round =>
          clear HL4 HPE
          obtain ⟨j, s1, vO1, rfl, hg, HLr, HPE⟩ := hrel
          by_cases hlt2 : j < c.length
          case neg =>
            have hd2 : decide ((j : Int) < (c.length : Int)) = false := zqu (by omega)
            have Q2 : (j < c.length) = False := eq_false hlt2
            have hp := HPE.out
            rw [List.drop_of_length_le (by omega), foldO] at hp
            injection hp with hp
            subst hp; clear HPE
            go_wp2
            go_end0
            exact ⟨rfl, vO1, HLr.out⟩
          obtain ⟨ad2, e2, x2⟩ := Kd.at_int (Kd.F_now (Kd.F_step HR.out (fun k _ hk => HLr.out.bel.block k hk))) (j : Int) (by omega) (by omega)
          cases e2
          obtain ⟨y, hy⟩ : ∃ y, c[j] = y := ⟨_, rfl⟩
          have hrd : rd c (j : Int) = y := by simp [rd, hlt2, hy]
          rw [hrd] at x2
          simp only [Int.toNat_natCast] at x2
          have hp := HPE.out
          rw [List.drop_eq_getElem_cons hlt2, hy, foldO] at hp
          obtain ⟨s2, hs2, hp2⟩ := Option.bind_eq_some_iff.mp hp
          have HP2 := K0 hp2
          have Q0 : ((0 : Int) ≤ (j : Int)) = True := eq_true (by omega)
          have Q1 : ((j : Int) < (c.length : Int)) = True := eq_true (by omega)
          have Q2 : (j < c.length) = True := eq_true hlt2
          have hd2 : decide ((j : Int) < (c.length : Int)) = true := zqt (by omega)
          have c4 : wr.cell? ⟨gL, 0, none⟩ = some (.func (.func 76) #[] #[.pointer (some ⟨gM, 0, none⟩), .pointer (some ⟨gS, 0, none⟩), .pointer (some ⟨gO, 0, none⟩), .pointer (some ⟨gL, 0, none⟩)]) := (zql HLr.out.cL 0).trans rfl
          have HC := K0 (IH.out wr s1 s2 vO1 y HLr.out (HCM.out y (by rw [← hy]; exact List.getElem_mem hlt2)) hs2)
          clear hy hrd hp hs2 hp2 HPE HLr
          go_wp2_with fail
          refine HC.out.mono ?_
          rintro e' w5 ⟨rfl, vO2, h5⟩
          have HL5 := K0 h5; clear h5 HC c4 x2
          go_wp2
          go_roundg (c.length - (j + 1))
          case measure => have := hg.out; omega
          case rel => exact ⟨j + 1, s2, vO2, by simp, ⟨by have := hg.out; omega⟩, HL5, HP2⟩
      cases hp
    cases hp
def pushedP (E : Eng) (all : List (List Int)) (m : Nat) (l : List Int) : Option (List Int) := (foldO (fun s x => lookP E all m s x) l ([], [])).map fun s => s.2
set_option maxRecDepth 100000 in
set_option maxHeartbeats 4000000 in
theorem sol_pushed.calls {w0 w : World} {S B : Nat} {T : Tag} {U : Col} {Z : Sol} {p : EngP} {q : SolP} (h0 : SolIn w0 w S B T U Z p q) (hlit : ∀ c ∈ Z.all, ∀ x ∈ c, (Lit.int .i64 x).wf = true) (m : Nat) (A : Option Addr) (cc : Nat) (l out : List Int)
    (hr : Kd.C (Kd.int .i64) w A l.length l) (hc : l.length ≤ cc) (hl : ∀ x ∈ l, (Lit.int .i64 x).wf = true) (hp : pushedP Z.E Z.all m l = some out) :
    Calls Try.prog 55 #[.pointer (some ⟨S, 0, none⟩), .slice A l.length cc] w fun e w' => ∃ v, e = .returned v ∧ Kd.R (Kd.int .i64) 3 w' w.heap.size (fun _ => True) v out ∧ Below w.heap.size w w' := by
  obtain ⟨s', hs', rfl⟩ := Option.map_eq_some_iff.1 hp
  have HS := K0 h0; have HLIT := K0 hlit; have HR := K0 hr; have HWF := K0 hl
  have HP := K0 hs'
  have eg := enters_of Try.func76 (by kernel_rfl) rfl
  have hbig := hr.2.1
  clear h0 hlit hr hl hp hs'
  have hmm := @run_makeMap Try.prog
  go_enter Try.func55, Try.ntmps55
  go_upto_region 5 with fail
  obtain ⟨W1, hW1⟩ : ∃ W1, w.alloc (.cells #[.pointer (some ⟨S, 0, none⟩)] 54) = W1 := ⟨_, rfl⟩
  obtain ⟨W2, hW2⟩ : ∃ W2, W1.alloc (.cells #[.slice none 0 0] 25) = W2 := ⟨_, rfl⟩
  obtain ⟨W3, hW3⟩ : ∃ W3, W2.alloc (.map #[] 0) = W3 := ⟨_, rfl⟩
  obtain ⟨W4, hW4⟩ : ∃ W4, W3.alloc (.cells #[.map (some (w.heap.size + 1 + 1))] 98) = W4 := ⟨_, rfl⟩
  obtain ⟨W5, hW5⟩ : ∃ W5, W4.alloc (.cells #[.func (.func 76) #[] #[.pointer (some ⟨w.heap.size + 1 + 1 + 1, 0, none⟩), .pointer (some ⟨w.heap.size, 0, none⟩), .pointer (some ⟨w.heap.size + 1, 0, none⟩), .pointer (some ⟨w.heap.size + 1 + 1 + 1 + 1, 0, none⟩)]] 85) = W5 := ⟨_, rfl⟩
  rw [hW1, hW2, hW3, hW4, hW5]
  have z1 : W1.heap.size = w.heap.size + 1 := by rw [← hW1]; simp
  have z2 : W2.heap.size = w.heap.size + 1 + 1 := by rw [← hW2]; simp [z1]
  have z3 : W3.heap.size = w.heap.size + 1 + 1 + 1 := by rw [← hW3]; simp [z2]
  have z4 : W4.heap.size = w.heap.size + 1 + 1 + 1 + 1 := by rw [← hW4]; simp [z3]
  have b1 : Below w.heap.size w W1 := by rw [← hW1]; exact zqb (zqw _ _) _
  have b2 : Below W1.heap.size W1 W2 := by rw [← hW2]; exact zqb (zqw _ _) _
  have b3 : Below W2.heap.size W2 W3 := by rw [← hW3]; exact zqb (zqw _ _) _
  have b4 : Below W3.heap.size W3 W4 := by rw [← hW4]; exact zqb (zqw _ _) _
  have b5 : Below W4.heap.size W4 W5 := by rw [← hW5]; exact zqb (zqw _ _) _
  have n1 := blk_new w (.cells #[.pointer (some ⟨S, 0, none⟩)] 54)
  rw [hW1] at n1
  have n2 := blk_new W1 (.cells #[.slice none 0 0] 25)
  rw [hW2, z1] at n2
  have n3 := MapI.made W2 Try.prog 3
  rw [hW3, z2] at n3
  have n4 := blk_new W3 (.cells #[.map (some (w.heap.size + 1 + 1))] 98)
  rw [hW4, z3] at n4
  have n5 := blk_new W4 (.cells #[.func (.func 76) #[] #[.pointer (some ⟨w.heap.size + 1 + 1 + 1, 0, none⟩), .pointer (some ⟨w.heap.size, 0, none⟩), .pointer (some ⟨w.heap.size + 1, 0, none⟩), .pointer (some ⟨w.heap.size + 1 + 1 + 1 + 1, 0, none⟩)]] 85)
  rw [hW5, z4] at n5
  have hL0 : LookIn w W5 S (w.heap.size + 1 + 1 + 1) w.heap.size (w.heap.size + 1) (w.heap.size + 1 + 1 + 1 + 1) (w.heap.size + 1 + 1) ([], []) (.slice none 0 0) :=
    ⟨zqn n4 b5, zqn (zqn (zqn (zqn n1 b2) b3) b4) b5, zqn (zqn (zqn n2 b3) b4) b5, n5, (((n3.block (b4.block _ n3.lt)).block (b5.block _ (by rw [z4]; omega))).congr (fun x => rfl)), Kd.R_nil _ _ _ _ _,
      zqo (zqo (zqo (zqo b1 b2) b3) b4) b5, ⟨by omega, by omega, by omega, by omega, by omega⟩, ⟨by omega, by omega, by omega, by omega, by omega, by omega, by omega⟩⟩
  have HL0 := K0 hL0
  obtain ⟨gM, hgM⟩ : ∃ g, w.heap.size + 1 + 1 + 1 = g := ⟨_, rfl⟩
  obtain ⟨gL, hgL⟩ : ∃ g, w.heap.size + 1 + 1 + 1 + 1 = g := ⟨_, rfl⟩
  obtain ⟨bM, hbM⟩ : ∃ g, w.heap.size + 1 + 1 = g := ⟨_, rfl⟩
  obtain ⟨gO, hgO⟩ : ∃ g, w.heap.size + 1 = g := ⟨_, rfl⟩
  rw [hgL] at HL0 ⊢
  rw [hgM] at HL0 ⊢
  rw [hbM] at HL0 ⊢
  rw [hgO] at HL0 ⊢
  clear hW1 hW2 hW3 hW4 hW5 z1 z2 z3 z4 b1 b2 b3 b4 b5 n1 n2 n3 n4 n5 hL0 hmm hgM hgL hbM hgO
  go_wp2
  go_loopg [14] l.length (fun gg v14 wr => ∃ (j : Nat) (s1 : List Int × List Int) (vO1 : Value), v14 = .int .i64 (j : Int) ∧ Aside0 (j + gg = l.length) ∧ Aside0 (LookIn w wr S gM w.heap.size gO gL bM s1 vO1) ∧ Aside0 (foldO (fun s x => lookP Z.E Z.all m s x) (l.drop j) s1 = some s'))
  case atStart => exact ⟨0, _, _, rfl, ⟨by simp⟩, HL0, HP⟩
  case round =>
    clear HL0 HP
    obtain ⟨j, s1, vO1, rfl, hg, HLr, HPE⟩ := hrel
    by_cases hlt2 : j < l.length
    case neg =>
      have hd2 : decide ((j : Int) < (l.length : Int)) = false := zqu (by omega)
      have Q2 : (j < l.length) = False := eq_false hlt2
      have hp := HPE.out
      rw [List.drop_of_length_le (by omega), foldO] at hp
      injection hp with hp
      subst hp
      obtain ⟨A5, k5, e5⟩ := Kd.R_slice HLr.out.out
      subst e5
      have c5 : wr.cell? ⟨gO, 0, none⟩ = some (.slice A5 s1.2.length k5) := (zql HLr.out.cO 0).trans rfl
      clear HPE
      go_wp2
      go_ret
      exact ⟨_, rfl, Kd.R_mono HLr.out.out (fun _ _ => trivial), HLr.out.bel⟩
    obtain ⟨ad2, e2, x2⟩ := Kd.at_int (Kd.C_below HR.out HLr.out.bel) (j : Int) (by omega) (by omega)
    cases e2
    obtain ⟨y, hy⟩ : ∃ y, l[j] = y := ⟨_, rfl⟩
    have hrd : rd l (j : Int) = y := by simp [rd, hlt2, hy]
    rw [hrd] at x2
    simp only [Int.toNat_natCast] at x2
    have hp := HPE.out
    rw [List.drop_eq_getElem_cons hlt2, hy, foldO] at hp
    obtain ⟨s2, hs2, hp2⟩ := Option.bind_eq_some_iff.mp hp
    have HP2 := K0 hp2
    have Q0 : ((0 : Int) ≤ (j : Int)) = True := eq_true (by omega)
    have Q1 : ((j : Int) < (l.length : Int)) = True := eq_true (by omega)
    have Q2 : (j < l.length) = True := eq_true hlt2
    have hd2 : decide ((j : Int) < (l.length : Int)) = true := zqt (by omega)
    have c4 : wr.cell? ⟨gL, 0, none⟩ = some (.func (.func 76) #[] #[.pointer (some ⟨gM, 0, none⟩), .pointer (some ⟨w.heap.size, 0, none⟩), .pointer (some ⟨gO, 0, none⟩), .pointer (some ⟨gL, 0, none⟩)]) := (zql HLr.out.cL 0).trans rfl
    have HC := K0 (sol_look.calls HS.out HLIT.out gM w.heap.size gO gL bM m wr s1 s2 vO1 y HLr.out (HWF.out y (by rw [← hy]; exact List.getElem_mem hlt2)) hs2)
    clear hy hrd hp hs2 hp2 HPE HLr
    go_wp2_with fail
    refine HC.out.mono ?_
    rintro e' w5 ⟨rfl, vO2, h5⟩
    have HL5 := K0 h5; clear h5 HC c4 x2
    go_wp2
    go_roundg (l.length - (j + 1))
    case measure => have := hg.out; omega
    case rel => exact ⟨j + 1, s2, vO2, by simp, ⟨by have := hg.out; omega⟩, HL5, HP2⟩
end Go.Proofs.Ytaibnbhgjnddnaa.P
