/- The proof of ToneIntervals (see the last theorem): for every input that can be read the law returns true; the listed package-level variables are as the program's text lays them. -/
import Derived.Test.YtkphoimochkndaaGreatDoorK6
section
/- The law of the depths. -/
set_option maxRecDepth 100000
set_option linter.unusedVariables false
set_option linter.unusedSimpArgs false
namespace Go.Proofs.Ab.Tone2
open Go Go.RowKit Go.Proofs.Ab Go.Proofs.Ab.Tone
theorem eq_ratio_self (a b : Int) : EqAgg Tone.C 28 [I a, I b] [I a, I b] true := by
  have h := eq_ratio a b a b
  have e : decide (a = a ∧ b = b) = true := by simp
  rw [e] at h
  exact h
section
attribute [local irreducible] APure
set_option maxHeartbeats 4000000 in
theorem ToneDepths_pure {m : Int} (s : Sg) : APure (C m) 3 [.agg (sc s)] (Bo true) := by
  have c18 : APure (C m) 18 [.agg (sc s)] (I (checkE s)) := by
    have h := refCheckSignal_pure s
    rw [refCheckE_eq] at h
    exact up h
  have c15 := up (m := m) (Depths_pure s)
  have c16 := up (m := m) (Needle_pure s)
  have c17 := up (m := m) (Sum_pure s)
  have c25 := up (m := m) (CheckSignal_pure s)
  by_cases h0 : checkE s = 0
  · have h := h0
    have hv : Ok s := checkE_zero.1 h
    have hf := hv.fit.mono (n := 1000000) (by decide)
    have b1 := dif_bound hv.fit; have b2 := sq_le hv.fit.c; have b3 := hv.sq_pos
    have b4 := tot_bound hv.fit
    have b5 := aga_bound hv.fit.c hv.fit.l
    have b6 := aga_bound hv.fit.c hv.fit.h
    have c19 := up (m := m) (refSquareS_pure s hf.c)
    have c21 := up (m := m) (refLow_pure s hf)
    have c22 := up (m := m) (refHigh_pure s hf)
    have c23 := up (m := m) (refNeedle_pure s hv)
    have c24 := up (m := m) (refTotal_pure s hv.fit)
    have cl1 := up (m := m) (refLowest_pure (aga s s.l) (sq s.c) (by omega) b3 (by omega))
    have cl2 := up (m := m) (refLowest_pure (aga s s.h) (sq s.c) (by omega) b3 (by omega))
    have cl3 := up (m := m) (refLowest_pure (tot s) (sq s.c) (by omega) b3 (by omega))
    unfold depthL depthH at c15
    unfold needleR at c16
    unfold sumR at c17
    rw [if_pos h, if_pos h, h] at c15
    rw [if_pos h, h] at c16
    rw [if_pos h, h] at c17
    rw [h] at c18 c25
    refine APure.of_body good [] (fn := Tryz.f3) (by kernel_rfl) (by kernel_rfl) rfl rfl (by kernel_rfl) rfl (by kernel_rfl) ?_
    conv => whnf
    repeat' (first
      | (refine codeK_sound good (mu := []) ?_; conv => whnf)
      | ((first | rw [wl0] | rw [wl1] | rw [wl2] | rw [wl3] | rw [wl4] | rw [wl5]); conv => whnf)
      | (refine SBool.mk (fun _ => ?_) (fun h => absurd (of_decide_eq_true rfl) h); conv => whnf)
      | (refine SBool.mk (fun h => absurd h (of_decide_eq_false rfl)) (fun _ => ?_); conv => whnf)
      | (refine SBool.mk (fun h => ?_) (fun h => ?_) <;> conv => whnf)
      | (refine SEx.mk _ (by first | exact awake_pure | exact c15 | exact c16 | exact c17 | exact c18 | exact c25 | exact c19 | exact c21 | exact c22 | exact c23 | exact c24 | exact cl1 | exact cl2 | exact cl3 | exact eq_ratio_self _ _) ?_; conv => whnf)
      | (refine SEx.mk _ (by first | exact rfl | exact ⟨of_decide_eq_true rfl, rfl⟩) ?_; conv => whnf)
      | (refine SAll.mk (fun _ => ?_); conv => whnf)
      | (refine SAnd.mk ⟨by intro c hc; simp at hc; first | (subst hc; rfl) | ((repeat' (rcases hc with rfl | hc)) <;> first | rfl | (subst hc; rfl)), by (simp; first | done | omega), by (simp; first | done | omega)⟩ ?_; conv => whnf)
      | (refine SAnd.mk (by first | exact rfl | kernel_rfl | omega | decide | exact awake_pure | exact c15 | exact c16 | exact c17 | exact c18 | exact c25 | exact c19 | exact c21 | exact c22 | exact c23 | exact c24 | exact cl1 | exact cl2 | exact cl3 | exact eq_ratio_self _ _) ?_; conv => whnf)
      | fail)
    exact ⟨PLe.refl _⟩
  · unfold depthL depthH at c15
    unfold needleR at c16
    unfold sumR at c17
    rw [if_neg h0, if_neg h0] at c15
    rw [if_neg h0] at c16
    rw [if_neg h0] at c17
    refine APure.of_body good [] (fn := Tryz.f3) (by kernel_rfl) (by kernel_rfl) rfl rfl (by kernel_rfl) rfl (by kernel_rfl) ?_
    conv => whnf
    repeat' (first
      | (refine codeK_sound good (mu := []) ?_; conv => whnf)
      | ((first | rw [wl0] | rw [wl1] | rw [wl2] | rw [wl3] | rw [wl4] | rw [wl5]); conv => whnf)
      | (refine SBool.mk (fun _ => ?_) (fun h => absurd (of_decide_eq_true rfl) h); conv => whnf)
      | (refine SBool.mk (fun h => absurd h (of_decide_eq_false rfl)) (fun _ => ?_); conv => whnf)
      | (refine SBool.mk (fun h => ?_) (fun h => ?_) <;> conv => whnf)
      | (refine SEx.mk _ (by first | exact awake_pure | exact c15 | exact c16 | exact c17 | exact c18 | exact c25 | exact eq_ratio_self _ _) ?_; conv => whnf)
      | (refine SEx.mk _ (by first | exact rfl | exact ⟨of_decide_eq_true rfl, rfl⟩) ?_; conv => whnf)
      | (refine SAll.mk (fun _ => ?_); conv => whnf)
      | (refine SAnd.mk ⟨by intro c hc; simp at hc; first | (subst hc; rfl) | ((repeat' (rcases hc with rfl | hc)) <;> first | rfl | (subst hc; rfl)), by (simp; first | done | omega), by (simp; first | done | omega)⟩ ?_; conv => whnf)
      | (refine SAnd.mk (by first | exact rfl | kernel_rfl | omega | decide | exact awake_pure | exact c15 | exact c16 | exact c17 | exact c18 | exact c25 | exact eq_ratio_self _ _) ?_; conv => whnf)
      | fail)
    all_goals first | exact absurd (by assumption) h0 | exact ⟨PLe.refl _⟩ | simp_all
end
end Go.Proofs.Ab.Tone2
end
section
/- The reference's signals and its follower; the law's lists. -/
set_option maxRecDepth 100000
set_option linter.unusedVariables false
set_option linter.unusedSimpArgs false
namespace Go.Proofs.Ab.Tone2
open Go Go.RowKit Go.Proofs.Ab Go.Proofs.Ab.Tone
theorem checks_drop {xs : List Sg} {k : Nat} (h : k < xs.length) : firstOf ((xs.drop k).map checkE) = if checkE xs[k] = 0 then firstOf ((xs.drop (k + 1)).map checkE) else checkE xs[k] := by
  rw [List.drop_eq_getElem_cons h]
  rfl
theorem refCheckSignal_pure' (s : Sg) : APure Tone.C 18 [.agg (sc s)] (I (checkE s)) := refCheckE_eq s ▸ refCheckSignal_pure s
theorem checkL_small {xs : List Sg} (h0 : ¬ ((xs.map sc).length : Int) = 0) (h1 : ¬ 256 < ((xs.map sc).length : Int)) : checkL xs = firstOf (xs.map checkE) := by
  have e0 : (xs.map sc).length = xs.length := by simp
  rw [e0] at h0 h1
  have hz : sizedE xs.length 256 = 0 := by
    unfold sizedE
    rw [if_neg (by omega), if_neg (by omega)]
  unfold checkL
  rw [hz]
  simp only [firstOf]
  by_cases h : firstOf (xs.map checkE) = 0 <;> simp [h]
theorem checkL_big {xs : List Sg} (h1 : 256 < ((xs.map sc).length : Int)) : checkL xs = 5 := by
  have e0 : (xs.map sc).length = xs.length := by simp
  rw [e0] at h1
  have hz : sizedE xs.length 256 = 5 := by
    unfold sizedE
    rw [if_neg (by omega), if_pos (by omega)]
  unfold checkL
  rw [hz]
  simp [firstOf]
theorem checkL_none {xs : List Sg} (h1 : ((xs.map sc).length : Int) = 0) : checkL xs = 12 := by
  have e0 : (xs.map sc).length = xs.length := by simp
  rw [e0] at h1
  have hz : sizedE xs.length 256 = 12 := by
    unfold sizedE
    rw [if_pos (by omega)]
  unfold checkL
  rw [hz]
  simp [firstOf]
theorem refSignals_pure {m : Int} (xs : List Sg) (hl : xs.length ≤ 1000000) : APure (C m) 44 [.seq 6 (xs.map sc)] (I (checkL xs)) := by
  have e0 : (xs.map sc).length = xs.length := by simp
  refine APure.of_body good [] (fn := Tryz.f44) (by kernel_rfl) (by kernel_rfl) rfl rfl (by kernel_rfl) rfl (by kernel_rfl) ?_
  conv => whnf
  repeat' (first
    | (refine codeK_sound good (mu := []) ?_; conv => whnf)
    | ((first | rw [wl0] | rw [wl1] | rw [wl2] | rw [wl3] | rw [wl4] | rw [wl5]); conv => whnf)
    | (refine SBool.mk (fun _ => ?_) (fun h => absurd (of_decide_eq_true rfl) h); conv => whnf)
    | (refine SBool.mk (fun h => absurd h (of_decide_eq_false rfl)) (fun _ => ?_); conv => whnf)
    | (refine SBool.mk (fun h => ?_) (fun h => ?_) <;> conv => whnf)
    | (refine SEx.mk _ (by first | exact up (refWhen_pure _ _) | exact up (refFirst2_pure _ _)) ?_; conv => whnf)
    | (refine SEx.mk _ (by first | exact rfl | exact ⟨of_decide_eq_true rfl, rfl⟩) ?_; conv => whnf)
    | (refine SAll.mk (fun _ => ?_); conv => whnf)
    | (refine SAnd.mk ⟨by intro c hc; simp at hc; first | (subst hc; rfl) | ((repeat' (rcases hc with rfl | hc)) <;> first | rfl | (subst hc; rfl)), by (simp; first | done | omega), by (simp; first | done | omega)⟩ ?_; conv => whnf)
    | (refine SAnd.mk (by first | exact rfl | kernel_rfl | omega | decide | exact up (refWhen_pure _ _) | exact up (refFirst2_pure _ _)) ?_; conv => whnf)
    | fail)
  · rename_i h0 h1
    exact absurd h1 (by omega)
  · rename_i h0 h1
    exact ⟨PLe.of_eq (by rw [checkL_none h0]; rfl)⟩
  · rename_i h0 h1
    exact ⟨PLe.of_eq (by rw [checkL_big h]; rfl)⟩
  · rename_i h0 h1
    have hc := checkL_small h0 h
    refine ⟨AWp.loop (ι := { k : Nat // k ≤ xs.length ∧ firstOf (xs.map checkE) = firstOf ((xs.drop k).map checkE) }) (fun k => ⟨[(4, .p (I k.1)), (0, .p (.seq 6 (xs.map sc)))], [], [], 0, [], [], []⟩) (fun k => xs.length - k.1) ⟨0, by simp⟩ ?_ ?_⟩
    · skip
      · refine SLe.of [] [] rfl rfl ?_
        conv => whnf
        repeat' (first
        | exact True.intro
        | (refine SAnd.mk (PLe.of_eq (by simp only [wrapK]; rw [wrap_id (by first | omega | (simp only; done) | (simp only; omega) | simp) (by first | omega | (simp only; done) | (simp only; omega) | simp)]; simp)) ?_; conv => whnf)
        | (refine SAnd.mk (PLe.refl _) ?_; conv => whnf)
        | (refine SAnd.mk (PLeL.refl _) ?_; conv => whnf)
        | (refine SAnd.mk (PLe.of_eq (by simp)) ?_; conv => whnf)
        | (refine SAnd.mk rfl ?_; conv => whnf)
        | (refine SAnd.mk ⟨rfl, rfl⟩ ?_; conv => whnf)
        | (refine SAnd.mk ⟨rfl, rfl, rfl⟩ ?_; conv => whnf))
    · rintro ⟨k, hk, he⟩
      refine codeK_sound good (mu := []) ?_
      conv => whnf
      refine SBool.mk (fun hq => ?_) (fun hq => ?_)
      · conv => whnf
        have hkl : k < xs.length := by simpa using hq
        refine SEx.mk (sc xs[k]) (by simp [hkl]) ?_
        conv => whnf
        conv => whnf
        repeat' (first
          | (refine codeK_sound good (mu := []) ?_; conv => whnf)
          | ((first | rw [wl0] | rw [wl1] | rw [wl2] | rw [wl3] | rw [wl4] | rw [wl5]); conv => whnf)
          | (refine SBool.mk (fun _ => ?_) (fun h => absurd (of_decide_eq_true rfl) h); conv => whnf)
          | (refine SBool.mk (fun h => absurd h (of_decide_eq_false rfl)) (fun _ => ?_); conv => whnf)
          | (refine SBool.mk (fun h => ?_) (fun h => ?_) <;> conv => whnf)
          | (refine SEx.mk _ (by first | exact up (refCheckSignal_pure' xs[k])) ?_; conv => whnf)
          | (refine SEx.mk _ (by first | exact rfl | exact ⟨of_decide_eq_true rfl, rfl⟩) ?_; conv => whnf)
          | (refine SAll.mk (fun _ => ?_); conv => whnf)
          | (refine SAnd.mk ⟨by intro c hc; simp at hc; first | (subst hc; rfl) | ((repeat' (rcases hc with rfl | hc)) <;> first | rfl | (subst hc; rfl)), by (simp; first | done | omega), by (simp; first | done | omega)⟩ ?_; conv => whnf)
          | (refine SAnd.mk (by first | exact rfl | kernel_rfl | omega | decide | exact up (refCheckSignal_pure' xs[k])) ?_; conv => whnf)
          | fail)
        · refine ⟨⟨k + 1, by omega, by rw [he, checks_drop hkl, if_pos h]⟩, by simp only; omega, ?_⟩
          skip
          · refine SLe.of [] [] rfl rfl ?_
            conv => whnf
            repeat' (first
            | exact True.intro
            | (refine SAnd.mk (PLe.of_eq (by simp only [wrapK]; rw [wrap_id (by first | omega | (simp only; done) | (simp only; omega) | simp) (by first | omega | (simp only; done) | (simp only; omega) | simp)]; simp)) ?_; conv => whnf)
            | (refine SAnd.mk (PLe.refl _) ?_; conv => whnf)
            | (refine SAnd.mk (PLeL.refl _) ?_; conv => whnf)
            | (refine SAnd.mk (PLe.of_eq (by simp)) ?_; conv => whnf)
            | (refine SAnd.mk rfl ?_; conv => whnf)
            | (refine SAnd.mk ⟨rfl, rfl⟩ ?_; conv => whnf)
            | (refine SAnd.mk ⟨rfl, rfl, rfl⟩ ?_; conv => whnf))
        · exact ⟨PLe.of_eq (by rw [hc, he, checks_drop hkl, if_neg h])⟩
      · conv => whnf
        have : k = xs.length := by simp at hq; omega
        exact ⟨PLe.of_eq (by rw [hc, he, this]; simp [firstOf])⟩
theorem refFollowed_pure {m : Int} (r : Rx) (hr : RxOk r) (lag start : Int) (hlag : 1 ≤ lag) (hs : -1000 ≤ start ∧ start ≤ 1000) (xs : List Sg) (hl : xs.length ≤ 1000000) (hx : ∀ s ∈ xs, Ok s) :
    APure (C m) 45 [.agg (xc r), I lag, I start, .seq 6 (xs.map sc)] (.seq 1 (cells1 (followL r lag start xs xs.length))) := by
  refine APure.of_body good [] (fn := Tryz.f45) (by kernel_rfl) (by kernel_rfl) rfl rfl (by kernel_rfl) rfl (by kernel_rfl) ?_
  conv => whnf
  repeat' (first
    | (refine codeK_sound good (mu := []) ?_; conv => whnf)
    | ((first | rw [wl0] | rw [wl1] | rw [wl2] | rw [wl3] | rw [wl4] | rw [wl5]); conv => whnf)
    | (refine SBool.mk (fun _ => ?_) (fun h => absurd (of_decide_eq_true rfl) h); conv => whnf)
    | (refine SBool.mk (fun h => absurd h (of_decide_eq_false rfl)) (fun _ => ?_); conv => whnf)
    | (refine SBool.mk (fun h => ?_) (fun h => ?_) <;> conv => whnf)
    | (refine SEx.mk _ (by first | exact rfl | exact ⟨of_decide_eq_true rfl, rfl⟩) ?_; conv => whnf)
    | (refine SAll.mk (fun _ => ?_); conv => whnf)
    | (refine SAnd.mk ⟨by intro c hc; simp at hc; first | (subst hc; rfl) | ((repeat' (rcases hc with rfl | hc)) <;> first | rfl | (subst hc; rfl)), by (simp; first | done | omega), by (simp; first | done | omega)⟩ ?_; conv => whnf)
    | (refine SAnd.mk (by first | exact rfl | kernel_rfl | omega | decide) ?_; conv => whnf)
    | fail)
  refine ⟨AWp.loop (ι := { k : Nat // k ≤ xs.length }) (fun k => ⟨[(11, .p (I k.1)), (10, .p (I (needleAt r lag start xs k.1))), (9, .own 0), (4, .p (.ref (xc r))), (1, .p (I lag)), (3, .p (.seq 6 (xs.map sc)))], [], [(0, (3, 1, cells1 (followL r lag start xs k.1)))], 1, [], [], []⟩) (fun k => xs.length - k.1) ⟨0, by simp⟩ ?_ ?_⟩
  · refine SLe.row 9 3 1 ?_
    conv => whnf
    skip
    · refine SLe.of [] [(0, 0)] rfl rfl ?_
      conv => whnf
      repeat' (first
      | exact True.intro
      | (refine SAnd.mk (PLe.of_eq (by simp only [wrapK]; rw [wrap_id (by first | omega | (simp only; done) | (simp only; omega) | simp) (by first | omega | (simp only; done) | (simp only; omega) | simp)]; simp)) ?_; conv => whnf)
      | (refine SAnd.mk (PLe.refl _) ?_; conv => whnf)
      | (refine SAnd.mk (PLeL.refl _) ?_; conv => whnf)
      | (refine SAnd.mk (PLe.of_eq (by simp)) ?_; conv => whnf)
      | (refine SAnd.mk rfl ?_; conv => whnf)
      | (refine SAnd.mk ⟨rfl, rfl⟩ ?_; conv => whnf)
      | (refine SAnd.mk ⟨rfl, rfl, rfl⟩ ?_; conv => whnf))
  · rintro ⟨k, hk⟩
    refine codeK_sound good (mu := []) ?_
    conv => whnf
    refine SBool.mk (fun hc => ?_) (fun hc => ?_)
    · conv => whnf
      have hkl : k < xs.length := by simpa using hc
      have hnb := needle_bound hr hlag hs (xs := xs) k hk
      have htb := toldI_bound hr xs[k]
      have hsb := step_bound hlag htb hnb
      have w1 : wrapK IntKind.i64 (toldI r xs[k] - needleAt r lag start xs k) = toldI r xs[k] - needleAt r lag start xs k := w64 (by omega)
      have w2 : wrapK IntKind.i64 (needleAt r lag start xs k + (toldI r xs[k] - needleAt r lag start xs k) / lag) = needleAt r lag start xs k + (toldI r xs[k] - needleAt r lag start xs k) / lag := w64 (by omega)
      have hsome : 0 ≤ (k : Int) ∧ (xs.map sc)[((k : Int)).toNat]? = some (sc xs[k]) := ⟨by omega, by show (xs.map sc)[k]? = _; simp [hkl]⟩
      conv => whnf
      repeat' (first
        | (refine codeK_sound good (mu := []) ?_; conv => whnf)
        | ((first | rw [wl0] | rw [wl1] | rw [wl2] | rw [wl3] | rw [wl4] | rw [wl5]); conv => whnf)
        | (rw [w2]; conv => whnf)
        | (rw [w1]; conv => whnf)
        | (refine SBool.mk (fun _ => ?_) (fun h => absurd (of_decide_eq_true rfl) h); conv => whnf)
        | (refine SBool.mk (fun h => absurd h (of_decide_eq_false rfl)) (fun _ => ?_); conv => whnf)
        | (refine SBool.mk (fun h => ?_) (fun h => ?_) <;> conv => whnf)
        | (refine SEx.mk _ (by first | exact hsome | exact up (refTold_pure r xs[k] hr (hx _ (List.getElem_mem hkl))) | exact eql_string _ _ _ | exact up (refFloor_pure _ _ (by omega) (by omega))) ?_; conv => whnf)
        | (refine SEx.mk _ (by first | exact rfl | exact ⟨of_decide_eq_true rfl, rfl⟩) ?_; conv => whnf)
        | (refine SAll.mk (fun _ => ?_); conv => whnf)
        | (refine SAnd.mk (by first | exact hsome) ?_; conv => whnf)
        | (refine SAnd.mk ⟨by intro c hc; simp at hc; first | (subst hc; rfl) | ((repeat' (rcases hc with rfl | hc)) <;> first | rfl | (subst hc; rfl)), by (simp; first | done | omega), by (simp; first | done | omega)⟩ ?_; conv => whnf)
        | (refine SAnd.mk (by first | exact rfl | kernel_rfl | omega | decide | exact hsome | exact up (refTold_pure r xs[k] hr (hx _ (List.getElem_mem hkl))) | exact eql_string _ _ _ | exact up (refFloor_pure _ _ (by omega) (by omega))) ?_; conv => whnf)
        | fail)
      · have hz : flagB r xs[k] = bNone := of_decide_eq_true h
        have hstep : stepN r lag (needleAt r lag start xs k) xs[k] = needleAt r lag start xs k + (toldI r xs[k] - needleAt r lag start xs k) / lag := by unfold stepN; rw [if_pos hz]
        refine SAnd.mk ⟨by intro c hc; simp at hc; subst hc; rfl, by simp [cells1, followL]; omega, by simp [cells1, followL]; omega⟩ ?_
        conv => whnf
        refine ⟨⟨k + 1, by omega⟩, by simp only; omega, ?_⟩
        skip
        · refine SLe.of [] [(0, 11)] rfl rfl ?_
          conv => whnf
          repeat' (first
          | exact True.intro
          | (refine SAnd.mk (PLe.of_eq (by simp only; rw [needleAt_succ hkl, hstep])) ?_; conv => whnf)
          | (refine SAnd.mk ((by simp only; rw [followL_succ, needleAt_succ hkl, hstep])) ?_; conv => whnf)
          | (refine SAnd.mk (PLe.of_eq (by simp only [wrapK]; rw [wrap_id (by first | omega | (simp only; done) | (simp only; omega) | simp) (by first | omega | (simp only; done) | (simp only; omega) | simp)]; simp)) ?_; conv => whnf)
          | (refine SAnd.mk (PLe.refl _) ?_; conv => whnf)
          | (refine SAnd.mk (PLeL.refl _) ?_; conv => whnf)
          | (refine SAnd.mk (PLe.of_eq (by simp)) ?_; conv => whnf)
          | (refine SAnd.mk rfl ?_; conv => whnf)
          | (refine SAnd.mk ⟨rfl, rfl⟩ ?_; conv => whnf)
          | (refine SAnd.mk ⟨rfl, rfl, rfl⟩ ?_; conv => whnf))
      · have hz : ¬ flagB r xs[k] = bNone := of_decide_eq_false (by simpa using h)
        have hstep : stepN r lag (needleAt r lag start xs k) xs[k] = needleAt r lag start xs k := by unfold stepN; rw [if_neg hz]
        refine SAnd.mk ⟨by intro c hc; simp at hc; subst hc; rfl, by simp [cells1, followL]; omega, by simp [cells1, followL]; omega⟩ ?_
        conv => whnf
        refine ⟨⟨k + 1, by omega⟩, by simp only; omega, ?_⟩
        skip
        · refine SLe.of [] [(0, 11)] rfl rfl ?_
          conv => whnf
          repeat' (first
          | exact True.intro
          | (refine SAnd.mk (PLe.of_eq (by simp only; rw [needleAt_succ hkl, hstep])) ?_; conv => whnf)
          | (refine SAnd.mk ((by simp only; rw [followL_succ, needleAt_succ hkl, hstep])) ?_; conv => whnf)
          | (refine SAnd.mk (PLe.of_eq (by simp only [wrapK]; rw [wrap_id (by first | omega | (simp only; done) | (simp only; omega) | simp) (by first | omega | (simp only; done) | (simp only; omega) | simp)]; simp)) ?_; conv => whnf)
          | (refine SAnd.mk (PLe.refl _) ?_; conv => whnf)
          | (refine SAnd.mk (PLeL.refl _) ?_; conv => whnf)
          | (refine SAnd.mk (PLe.of_eq (by simp)) ?_; conv => whnf)
          | (refine SAnd.mk rfl ?_; conv => whnf)
          | (refine SAnd.mk ⟨rfl, rfl⟩ ?_; conv => whnf)
          | (refine SAnd.mk ⟨rfl, rfl, rfl⟩ ?_; conv => whnf))
    · conv => whnf
      have : k = xs.length := by simp at hc; omega
      subst this
      exact ⟨PLe.refl _⟩
/-- The law's list of signals as the program's. -/
theorem signals_pure {m : Int} (xs : List Sg) (hl : xs.length ≤ 1000000) : APure (C m) 42 [.seq 6 (xs.map sc)] (.seq 6 (xs.map sc)) := by
  refine APure.of_body good [] (fn := Tryz.f42) (by kernel_rfl) (by kernel_rfl) rfl rfl (by kernel_rfl) rfl (by kernel_rfl) ?_
  conv => whnf
  repeat' (first
    | (refine codeK_sound good (mu := []) ?_; conv => whnf)
    | ((first | rw [wl0] | rw [wl1] | rw [wl2] | rw [wl3] | rw [wl4] | rw [wl5]); conv => whnf)
    | (refine SBool.mk (fun _ => ?_) (fun h => absurd (of_decide_eq_true rfl) h); conv => whnf)
    | (refine SBool.mk (fun h => absurd h (of_decide_eq_false rfl)) (fun _ => ?_); conv => whnf)
    | (refine SBool.mk (fun h => ?_) (fun h => ?_) <;> conv => whnf)
    | (refine SEx.mk _ (by first | exact rfl | exact ⟨of_decide_eq_true rfl, rfl⟩) ?_; conv => whnf)
    | (refine SAll.mk (fun _ => ?_); conv => whnf)
    | (refine SAnd.mk ⟨by intro c hc; simp at hc; first | (subst hc; rfl) | ((repeat' (rcases hc with rfl | hc)) <;> first | rfl | (subst hc; rfl)), by (simp; first | done | omega), by (simp; first | done | omega)⟩ ?_; conv => whnf)
    | (refine SAnd.mk (by first | exact rfl | kernel_rfl | omega | decide) ?_; conv => whnf)
    | fail)
  refine ⟨AWp.loop (ι := { k : Nat // k ≤ xs.length }) (fun k => ⟨[(8, .p (I k.1)), (7, .p (I xs.length)), (6, .p (.seq 6 (xs.map sc))), (3, .own 0)], [], [(0, (32, 6, (xs.take k.1).map sc))], 1, [], [], []⟩) (fun k => xs.length - k.1) ⟨0, by simp⟩ ?_ ?_⟩
  · refine SLe.row 3 32 6 ?_
    conv => whnf
    skip
    · refine SLe.of [] [(0, 0)] rfl rfl ?_
      conv => whnf
      repeat' (first
      | exact True.intro
      | (refine SAnd.mk (PLe.of_eq (by simp only [wrapK]; rw [wrap_id (by first | omega | (simp only; done) | (simp only; omega) | simp) (by first | omega | (simp only; done) | (simp only; omega) | simp)]; simp)) ?_; conv => whnf)
      | (refine SAnd.mk (PLe.refl _) ?_; conv => whnf)
      | (refine SAnd.mk (PLeL.refl _) ?_; conv => whnf)
      | (refine SAnd.mk (PLe.of_eq (by simp)) ?_; conv => whnf)
      | (refine SAnd.mk rfl ?_; conv => whnf)
      | (refine SAnd.mk ⟨rfl, rfl⟩ ?_; conv => whnf)
      | (refine SAnd.mk ⟨rfl, rfl, rfl⟩ ?_; conv => whnf))
  · rintro ⟨k, hk⟩
    refine codeK_sound good (mu := []) ?_
    conv => whnf
    refine SBool.mk (fun hc => ?_) (fun hc => ?_)
    · conv => whnf
      have hkl : k < xs.length := by simpa using hc
      have hsome : 0 ≤ (k : Int) ∧ (xs.map sc)[((k : Int)).toNat]? = some (sc xs[k]) := ⟨by omega, by show (xs.map sc)[k]? = _; simp [hkl]⟩
      conv => whnf
      repeat' (first
        | (refine codeK_sound good (mu := []) ?_; conv => whnf)
        | ((first | rw [wl0] | rw [wl1] | rw [wl2] | rw [wl3] | rw [wl4] | rw [wl5]); conv => whnf)
        | (refine SBool.mk (fun _ => ?_) (fun h => absurd (of_decide_eq_true rfl) h); conv => whnf)
        | (refine SBool.mk (fun h => absurd h (of_decide_eq_false rfl)) (fun _ => ?_); conv => whnf)
        | (refine SBool.mk (fun h => ?_) (fun h => ?_) <;> conv => whnf)
        | (refine SEx.mk _ (by first | exact hsome) ?_; conv => whnf)
        | (refine SEx.mk _ (by first | exact rfl | exact ⟨of_decide_eq_true rfl, rfl⟩) ?_; conv => whnf)
        | (refine SAll.mk (fun _ => ?_); conv => whnf)
        | (refine SAnd.mk (by first | exact hsome) ?_; conv => whnf)
        | (refine SAnd.mk ⟨by intro c hc; simp at hc; first | (subst hc; rfl) | ((repeat' (rcases hc with rfl | hc)) <;> first | rfl | (subst hc; rfl)), by (simp; first | done | omega), by (simp; first | done | omega)⟩ ?_; conv => whnf)
        | (refine SAnd.mk (by first | exact rfl | kernel_rfl | omega | decide | exact hsome) ?_; conv => whnf)
        | fail)
      refine ⟨⟨k + 1, by omega⟩, by simp only; omega, ?_⟩
      skip
      · refine SLe.of [] [(0, 2)] rfl rfl ?_
        conv => whnf
        repeat' (first
        | exact True.intro
        | (refine SAnd.mk ((take_map_succ hkl _).symm) ?_; conv => whnf)
        | (refine SAnd.mk (PLe.of_eq (by simp only [wrapK]; rw [wrap_id (by first | omega | (simp only; done) | (simp only; omega) | simp) (by first | omega | (simp only; done) | (simp only; omega) | simp)]; simp)) ?_; conv => whnf)
        | (refine SAnd.mk (PLe.refl _) ?_; conv => whnf)
        | (refine SAnd.mk (PLeL.refl _) ?_; conv => whnf)
        | (refine SAnd.mk (PLe.of_eq (by simp)) ?_; conv => whnf)
        | (refine SAnd.mk rfl ?_; conv => whnf)
        | (refine SAnd.mk ⟨rfl, rfl⟩ ?_; conv => whnf)
        | (refine SAnd.mk ⟨rfl, rfl, rfl⟩ ?_; conv => whnf))
    · conv => whnf
      have : k = xs.length := by simp at hc; omega
      subst this
      exact ⟨PLe.of_eq (by simp)⟩
end Go.Proofs.Ab.Tone2
end
section
/- The law of the changes. -/
set_option maxRecDepth 100000
set_option linter.unusedVariables false
set_option linter.unusedSimpArgs false
namespace Go.Proofs.Ab.Tone2
open Go Go.RowKit Go.Proofs.Ab Go.Proofs.Ab.Tone
theorem eq_rsig {s t : Sg} (h : s = t) : EqAgg Tone.C 25 (sc s) (sc t) true := by
  subst h
  have h := eq_rsignal s.c.re s.c.im s.l.re s.l.im s.h.re s.h.im s.c.re s.c.im s.l.re s.l.im s.h.re s.h.im
  rw [decide_eq_true (by simp)] at h
  exact h
theorem eq_rsig0 {s : Sg} (h : s = S0) : EqAgg Tone.C 25 (sc s) [I 0, I 0, I 0, I 0, I 0, I 0] true := eq_rsig h
theorem first2_zero {a b : Int} (h : firstOf [a, b] = 0) : a = 0 ∧ b = 0 := by
  simp only [firstOf] at h
  by_cases ha : a = 0
  · rw [if_pos ha] at h
    by_cases hb : b = 0
    · exact ⟨ha, hb⟩
    · rw [if_neg hb] at h; exact absurd h hb
  · rw [if_neg ha] at h; exact absurd h ha
section
attribute [local irreducible] APure
set_option maxHeartbeats 4000000 in
theorem ToneChanges_parts {m : Int} (a b : Sg) (k : Int) (c d : G) (A T U : Sg) (eA eT eU one two three : Int)
    (cA : APure (C m) 26 [.agg (sc a), .agg (sc b)] (.tup [.agg (sc A), I eA]))
    (cT : APure (C m) 27 [.agg (sc a), I k] (.tup [.agg (sc T), I eT]))
    (cU : APure (C m) 28 [.agg (sc a), .agg (gc c), .agg (gc d)] (.tup [.agg (sc U), I eU]))
    (ca : APure (C m) 18 [.agg (sc a)] (I (checkE a))) (cb : APure (C m) 18 [.agg (sc b)] (I (checkE b)))
    (ck : APure (C m) 30 [I k] (I (within k 0 3))) (cf : APure (C m) 31 [.agg (gc c), .agg (gc d)] (I (firstOf [partE c.re c.im 1000, zeroE c, partE d.re d.im 1000])))
    (c1 : APure (C m) 29 [.seq 1 [[I (checkE a)], [I (checkE b)]]] (I one))
    (c2 : APure (C m) 29 [.seq 1 [[I (checkE a)], [I (within k 0 3)]]] (I two))
    (c3 : APure (C m) 29 [.seq 1 [[I (checkE a)], [I (firstOf [partE c.re c.im 1000, zeroE c, partE d.re d.im 1000])]]] (I three))
    (kA : one = 0 → APure (C m) 32 [.agg (sc a), .agg (sc b)] (.agg (sc (a.add b)))) (kT : two = 0 → APure (C m) 34 [.agg (sc a), I k] (.agg (sc (a.turn k.toNat))))
    (kU : three = 0 → APure (C m) 35 [.agg (sc a), .agg (gc c), .agg (gc d)] (.agg (sc (a.by c d))))
    (cm : ∀ s : Sg, APure (C m) 33 [.agg (sc s)] (I (madeE s)))
    (hA0 : one ≠ 0 → A = S0 ∧ eA = one) (hA1 : one = 0 → madeE (a.add b) ≠ 0 → A = S0 ∧ eA = madeE (a.add b)) (hA2 : one = 0 → madeE (a.add b) = 0 → A = a.add b ∧ eA = madeE (a.add b))
    (hT0 : two ≠ 0 → T = S0 ∧ eT = two) (hT1 : two = 0 → T = a.turn k.toNat ∧ eT = two)
    (hU0 : three ≠ 0 → U = S0 ∧ eU = three) (hU1 : three = 0 → madeE (a.by c d) ≠ 0 → U = S0 ∧ eU = madeE (a.by c d)) (hU2 : three = 0 → madeE (a.by c d) = 0 → U = a.by c d ∧ eU = madeE (a.by c d)) :
    APure (C m) 4 [.agg (sc a), .agg (sc b), .agg [I k, I c.re, I c.im, I d.re, I d.im]] (Bo true) := by
  refine APure.of_body good [] (fn := Tryz.f4) (by kernel_rfl) (by kernel_rfl) rfl rfl (by kernel_rfl) rfl (by kernel_rfl) ?_
  conv => whnf
  repeat' (first
    | (refine codeK_sound good (mu := []) ?_; conv => whnf)
    | ((first | rw [wl0] | rw [wl1] | rw [wl2] | rw [wl3] | rw [wl4] | rw [wl5]); conv => whnf)
    | (refine SBool.mk (fun _ => ?_) (fun h => absurd (of_decide_eq_true rfl) h); conv => whnf)
    | (refine SBool.mk (fun h => absurd h (of_decide_eq_false rfl)) (fun _ => ?_); conv => whnf)
    | (refine SBool.mk (fun h => ?_) (fun h => ?_) <;> conv => whnf)
    | (refine SEx.mk _ (by first | exact awake_pure | exact cA | exact cT | exact cU | exact ca | exact cb | exact ck | exact cf | exact c1 | exact c2 | exact c3 | exact kA (by assumption) | exact kT (by assumption) | exact kU (by assumption) | exact cm _ | exact eq_rsig (hA2 (by assumption) (by assumption)).1 | exact eq_rsig0 (hA0 (by assumption)).1 | exact eq_rsig0 (hA1 (by assumption) (by assumption)).1 | exact eq_rsig (hT1 (by assumption)).1 | exact eq_rsig0 (hT0 (by assumption)).1 | exact eq_rsig (hU2 (by assumption) (by assumption)).1 | exact eq_rsig0 (hU0 (by assumption)).1 | exact eq_rsig0 (hU1 (by assumption) (by assumption)).1) ?_; conv => whnf)
    | (refine SEx.mk _ (by first | exact rfl | exact ⟨of_decide_eq_true rfl, rfl⟩) ?_; conv => whnf)
    | (refine SAll.mk (fun _ => ?_); conv => whnf)
    | (refine SAnd.mk ⟨by intro c hc; simp at hc; first | (subst hc; rfl) | ((repeat' (rcases hc with rfl | hc)) <;> first | rfl | (subst hc; rfl)), by (simp; first | done | omega), by (simp; first | done | omega)⟩ ?_; conv => whnf)
    | (refine SAnd.mk (by first | exact rfl | kernel_rfl | omega | decide | exact awake_pure | exact cA | exact cT | exact cU | exact ca | exact cb | exact ck | exact cf | exact c1 | exact c2 | exact c3 | exact kA (by assumption) | exact kT (by assumption) | exact kU (by assumption) | exact cm _ | exact eq_rsig (hA2 (by assumption) (by assumption)).1 | exact eq_rsig0 (hA0 (by assumption)).1 | exact eq_rsig0 (hA1 (by assumption) (by assumption)).1 | exact eq_rsig (hT1 (by assumption)).1 | exact eq_rsig0 (hT0 (by assumption)).1 | exact eq_rsig (hU2 (by assumption) (by assumption)).1 | exact eq_rsig0 (hU0 (by assumption)).1 | exact eq_rsig0 (hU1 (by assumption) (by assumption)).1) ?_; conv => whnf)
    | fail)
  all_goals first
    | exact ⟨PLe.refl _⟩
    | exact absurd (hA0 (by assumption)).2 (by assumption)
    | exact absurd (hA1 (by assumption) (by assumption)).2 (by assumption)
    | exact absurd (hA2 (by assumption) (by assumption)).2 (by assumption)
    | exact absurd (hT0 (by assumption)).2 (by assumption)
    | exact absurd (hT1 (by assumption)).2 (by assumption)
    | exact absurd (hU0 (by assumption)).2 (by assumption)
    | exact absurd (hU1 (by assumption) (by assumption)).2 (by assumption)
    | exact absurd (hU2 (by assumption) (by assumption)).2 (by assumption)
end
theorem factE_eq (s : Sg) (c d : G) : firstOf [checkE s, firstOf [partE c.re c.im 1000, zeroE c, partE d.re d.im 1000]] = factE s c d := by
  unfold factE
  simp only [firstOf]
  by_cases h1 : checkE s = 0 <;> by_cases h2 : partE c.re c.im 1000 = 0 <;> by_cases h3 : zeroE c = 0 <;> by_cases h4 : partE d.re d.im 1000 = 0 <;> simp [h1, h2, h3, h4]
theorem ToneChanges_pure {m : Int} (a b : Sg) (k : Int) (c d : G) : APure (C m) 4 [.agg (sc a), .agg (sc b), .agg [I k, I c.re, I c.im, I d.re, I d.im]] (Bo true) := by
  refine ToneChanges_parts a b k c d (addedS a b) (turnedS a k) (scaledS a c d) (addedE a b) (turnE a k) (scaledE a c d) (firstOf [checkE a, checkE b]) (turnE a k) (factE a c d)
    (up (Added_pure a b)) (up (Turned_pure a k)) (up (Scaled_pure a c d)) (up (refCheckSignal_pure' a)) (up (refCheckSignal_pure' b)) (up (refTurnE_pure k)) (up (refFactors_pure c d))
    (up (refFirst2_pure _ _)) (up (refFirst2_pure _ _)) (factE_eq a c d ▸ up (refFirst2_pure _ _)) ?_ ?_ ?_ (fun s => up (refCheckSum_pure s)) ?_ ?_ ?_ ?_ ?_ ?_ ?_ ?_
  · intro h
    obtain ⟨h1, h2⟩ := first2_zero h
    exact up (refAdded_pure a b ((checkE_zero.1 h1).fit.mono (by decide)) ((checkE_zero.1 h2).fit.mono (by decide)))
  · intro h
    obtain ⟨h1, h2⟩ := first2_zero h
    exact up (refTurned_pure a k ((checkE_zero.1 h1).fit.mono (by decide)) (within_zero.1 h2))
  · intro h
    unfold factE at h
    rw [firstOf_zero, firstOf_zero, firstOf_zero, firstOf_zero] at h
    have hc := (partE_zero (by decide) (by decide)).1 h.2.1
    have hd := (partE_zero (by decide) (by decide)).1 h.2.2.2.1
    exact up (refScaled_pure a c d ((checkE_zero.1 h.1).fit.mono (by decide)) ⟨Nat.le_trans hc.1 (by decide), Nat.le_trans hc.2 (by decide)⟩ ⟨Nat.le_trans hd.1 (by decide), Nat.le_trans hd.2 (by decide)⟩)
  · intro h; unfold addedS addedE; rw [if_neg h, if_neg h]; exact ⟨rfl, rfl⟩
  · intro h h'; unfold addedS addedE madeS; rw [if_pos h, if_pos h, if_neg h']; exact ⟨rfl, rfl⟩
  · intro h h'; unfold addedS addedE madeS; rw [if_pos h, if_pos h, if_pos h']; exact ⟨rfl, rfl⟩
  · intro h; unfold turnedS; rw [if_neg h]; exact ⟨rfl, rfl⟩
  · intro h; unfold turnedS; rw [if_pos h]; exact ⟨rfl, rfl⟩
  · intro h; unfold scaledS scaledE; rw [if_neg h, if_neg h]; exact ⟨rfl, rfl⟩
  · intro h h'; unfold scaledS scaledE madeS; rw [if_pos h, if_pos h, if_neg h']; exact ⟨rfl, rfl⟩
  · intro h h'; unfold scaledS scaledE madeS; rw [if_pos h, if_pos h, if_pos h']; exact ⟨rfl, rfl⟩
end Go.Proofs.Ab.Tone2
end
section
/- The law of the captures. -/
set_option maxRecDepth 100000
set_option linter.unusedVariables false
set_option linter.unusedSimpArgs false
namespace Go.Proofs.Ab.Tone2
open Go Go.RowKit Go.Proofs.Ab Go.Proofs.Ab.Tone

theorem eq_ratio_of {x y : R} (h : x = y) : EqAgg Tone.C 28 (rc x) (rc y) true := by
  subst h
  exact eq_ratio_self _ _
section
attribute [local irreducible] APure
set_option maxHeartbeats 4000000 in
theorem ToneCaptures_pure {m : Int} (a b : Sg) (band : Int) : APure (C m) 6 [.agg (sc a), .agg (sc b), I band] (Bo true) := by
  have c47 := up (m := m) (Captured_pure a b band)
  have c48 := up (m := m) (Mixed_pure a b band)
  have c49 := up (m := m) (refTwo_pure a b band)
  by_cases h0 : twoE a b band = 0
  · have hz := twoE_zero.1 h0
    have c50 := up (m := m) (refCaptured_pure a b band hz.1 hz.2.1 ⟨by have := hz.2.2.1; omega, hz.2.2.2⟩)
    have c51 := up (m := m) (refMixed_pure a b band hz.1 hz.2.1 ⟨by have := hz.2.2.1; omega, hz.2.2.2⟩)
    rw [if_pos h0, h0] at c47
    rw [if_pos h0, h0] at c48
    rw [h0] at c49
    refine APure.of_body good [] (fn := Tryz.f6) (by kernel_rfl) (by kernel_rfl) rfl rfl (by kernel_rfl) rfl (by kernel_rfl) ?_
    conv => whnf
    repeat' (first
      | (refine codeK_sound good (mu := []) ?_; conv => whnf)
      | ((first | rw [wl0] | rw [wl1] | rw [wl2] | rw [wl3] | rw [wl4] | rw [wl5]); conv => whnf)
      | (refine SBool.mk (fun _ => ?_) (fun h => absurd (of_decide_eq_true rfl) h); conv => whnf)
      | (refine SBool.mk (fun h => absurd h (of_decide_eq_false rfl)) (fun _ => ?_); conv => whnf)
      | (refine SBool.mk (fun h => ?_) (fun h => ?_) <;> conv => whnf)
      | (refine SEx.mk _ (by first | exact awake_pure | exact c47 | exact c48 | exact c49 | exact c50 | exact c51 | exact eq_ratio_self _ _) ?_; conv => whnf)
      | (refine SEx.mk _ (by first | exact rfl | exact ⟨of_decide_eq_true rfl, rfl⟩) ?_; conv => whnf)
      | (refine SAll.mk (fun _ => ?_); conv => whnf)
      | (refine SAnd.mk ⟨by intro c hc; simp at hc; first | (subst hc; rfl) | ((repeat' (rcases hc with rfl | hc)) <;> first | rfl | (subst hc; rfl)), by (simp; first | done | omega), by (simp; first | done | omega)⟩ ?_; conv => whnf)
      | (refine SAnd.mk (by first | exact rfl | kernel_rfl | omega | decide | exact awake_pure | exact c47 | exact c48 | exact c49 | exact c50 | exact c51 | exact eq_ratio_self _ _) ?_; conv => whnf)
      | fail)
    all_goals first | exact ⟨PLe.refl _⟩ | exact absurd rfl (by assumption)
  · rw [if_neg h0] at c47
    rw [if_neg h0] at c48
    refine APure.of_body good [] (fn := Tryz.f6) (by kernel_rfl) (by kernel_rfl) rfl rfl (by kernel_rfl) rfl (by kernel_rfl) ?_
    conv => whnf
    repeat' (first
      | (refine codeK_sound good (mu := []) ?_; conv => whnf)
      | ((first | rw [wl0] | rw [wl1] | rw [wl2] | rw [wl3] | rw [wl4] | rw [wl5]); conv => whnf)
      | (refine SBool.mk (fun _ => ?_) (fun h => absurd (of_decide_eq_true rfl) h); conv => whnf)
      | (refine SBool.mk (fun h => absurd h (of_decide_eq_false rfl)) (fun _ => ?_); conv => whnf)
      | (refine SBool.mk (fun h => ?_) (fun h => ?_) <;> conv => whnf)
      | (refine SEx.mk _ (by first | exact awake_pure | exact c47 | exact c48 | exact c49 | exact eq_ratio_self _ _) ?_; conv => whnf)
      | (refine SEx.mk _ (by first | exact rfl | exact ⟨of_decide_eq_true rfl, rfl⟩) ?_; conv => whnf)
      | (refine SAll.mk (fun _ => ?_); conv => whnf)
      | (refine SAnd.mk ⟨by intro c hc; simp at hc; first | (subst hc; rfl) | ((repeat' (rcases hc with rfl | hc)) <;> first | rfl | (subst hc; rfl)), by (simp; first | done | omega), by (simp; first | done | omega)⟩ ?_; conv => whnf)
      | (refine SAnd.mk (by first | exact rfl | kernel_rfl | omega | decide | exact awake_pure | exact c47 | exact c48 | exact c49 | exact eq_ratio_self _ _) ?_; conv => whnf)
      | fail)
    all_goals first | exact ⟨PLe.refl _⟩ | exact absurd (by assumption) h0 | exact absurd rfl (by assumption)
end
end Go.Proofs.Ab.Tone2
end
section
/- The law of the intervals. -/
set_option maxRecDepth 100000
set_option linter.unusedVariables false
set_option linter.unusedSimpArgs false
namespace Go.Proofs.Ab.Tone2
open Go Go.RowKit Go.Proofs.Ab Go.Proofs.Ab.Tone

theorem eq_iv {x y : Iv} (h : x = y) : EqAgg Tone.C 55 (ic x) (ic y) true := by
  subst h
  have h := eq_interval x.lo x.hi x.lo x.hi
  rw [decide_eq_true (by simp)] at h
  exact h
theorem eq_iv0 {x : Iv} (h : x = ⟨0, 0⟩) : EqAgg Tone.C 55 (ic x) [I 0, I 0] true := eq_iv h
section
attribute [local irreducible] APure
set_option maxHeartbeats 4000000 in
theorem ToneIntervals_parts {m : Int} (r : Rx) (s : Sg) (lo hi n : Int) (L N : Iv) (eL eN bad cl : Int)
    (cL : APure (C m) 52 [.agg (xc r), .agg (sc s), .agg [I lo, I hi]] (.tup [.agg (ic L), I eL]))
    (cN : APure (C m) 53 [.agg (xc r), .agg (sc s), I n] (.tup [.agg (ic N), I eN]))
    (cr : APure (C m) 37 [.agg (xc r)] (I (rxE r))) (cs : APure (C m) 18 [.agg (sc s)] (I (checkE s)))
    (c1 : APure (C m) 29 [.seq 1 [[I (rxE r)], [I (checkE s)]]] (I bad))
    (cl' : APure (C m) 54 [.agg [I lo, I hi]] (I cl)) (cn : APure (C m) 55 [I n, I 0, I 1000] (I (within n 0 1000)))
    (c2 : APure (C m) 29 [.seq 1 [[I bad], [I cl]]] (I eL)) (c3 : APure (C m) 29 [.seq 1 [[I bad], [I (within n 0 1000)]]] (I eN))
    (kL : eL = 0 → APure (C m) 56 [.agg (xc r), .agg (sc s), .agg [I lo, I hi]] (.agg (ic L)))
    (kN : eN = 0 → APure (C m) 57 [.agg (xc r), .agg (sc s), I n] (.agg (ic N)))
    (hL : eL ≠ 0 → L = ⟨0, 0⟩) (hN : eN ≠ 0 → N = ⟨0, 0⟩) :
    APure (C m) 7 [.agg (xc r), .agg (sc s), .agg [I lo, I hi, I n]] (Bo true) := by
  refine APure.of_body good [] (fn := Tryz.f7) (by kernel_rfl) (by kernel_rfl) rfl rfl (by kernel_rfl) rfl (by kernel_rfl) ?_
  conv => whnf
  repeat' (first
    | (refine codeK_sound good (mu := []) ?_; conv => whnf)
    | ((first | rw [wl0] | rw [wl1] | rw [wl2] | rw [wl3] | rw [wl4] | rw [wl5]); conv => whnf)
    | (refine SBool.mk (fun _ => ?_) (fun h => absurd (of_decide_eq_true rfl) h); conv => whnf)
    | (refine SBool.mk (fun h => absurd h (of_decide_eq_false rfl)) (fun _ => ?_); conv => whnf)
    | (refine SBool.mk (fun h => ?_) (fun h => ?_) <;> conv => whnf)
    | (refine SEx.mk _ (by first | exact awake_pure | exact cL | exact cN | exact cr | exact cs | exact c1 | exact cl' | exact cn | exact c2 | exact c3 | exact kL (by assumption) | exact kN (by assumption) | exact eq_iv0 (hL (by assumption)) | exact eq_iv0 (hN (by assumption)) | exact eq_iv rfl) ?_; conv => whnf)
    | (refine SEx.mk _ (by first | exact rfl | exact ⟨of_decide_eq_true rfl, rfl⟩) ?_; conv => whnf)
    | (refine SAll.mk (fun _ => ?_); conv => whnf)
    | (refine SAnd.mk ⟨by intro c hc; simp at hc; first | (subst hc; rfl) | ((repeat' (rcases hc with rfl | hc)) <;> first | rfl | (subst hc; rfl)), by (simp; first | done | omega), by (simp; first | done | omega)⟩ ?_; conv => whnf)
    | (refine SAnd.mk (by first | exact rfl | kernel_rfl | omega | decide | exact awake_pure | exact cL | exact cN | exact cr | exact cs | exact c1 | exact cl' | exact cn | exact c2 | exact c3 | exact kL (by assumption) | exact kN (by assumption) | exact eq_iv0 (hL (by assumption)) | exact eq_iv0 (hN (by assumption)) | exact eq_iv rfl) ?_; conv => whnf)
    | fail)
  all_goals first | exact ⟨PLe.refl _⟩ | exact absurd rfl (by assumption)
end
theorem lostE_eq (r : Rx) (s : Sg) (lo hi : Int) : firstOf [firstOf [rxE r, checkE s], firstOf [within lo 0 1000, within hi 0 1000, ordE lo hi]] = lostE r s lo hi := by
  unfold lostE
  generalize rxE r = a
  generalize checkE s = b
  generalize within lo 0 1000 = c
  generalize within hi 0 1000 = d
  generalize ordE lo hi = e
  simp only [firstOf]
  by_cases h1 : a = 0 <;> by_cases h2 : b = 0 <;> by_cases h3 : c = 0 <;> by_cases h4 : d = 0 <;> by_cases h5 : e = 0 <;> simp [h1, h2, h3, h4, h5]
theorem noisyE_eq (r : Rx) (s : Sg) (n : Int) : firstOf [firstOf [rxE r, checkE s], within n 0 1000] = noisyE r s n := by
  unfold noisyE
  generalize rxE r = a
  generalize checkE s = b
  generalize within n 0 1000 = c
  simp only [firstOf]
  by_cases h1 : a = 0 <;> by_cases h2 : b = 0 <;> by_cases h3 : c = 0 <;> simp [h1, h2, h3]
theorem shownI_mono {r : Rx} (hr : RxOk r) {x y d : Int} (hd : 0 < d) (h : x ≤ y) : shownI r x d ≤ shownI r y d := by
  have h1 := hr.s
  have e : (2 * x * r.scale + d) / (2 * d) ≤ (2 * y * r.scale + d) / (2 * d) := by
    refine Int.ediv_le_ediv (by omega) ?_
    have := Int.mul_le_mul_of_nonneg_right (c := r.scale) (show 2 * x ≤ 2 * y by omega) (by omega)
    omega
  unfold shownI
  omega
theorem ToneIntervals_pure {m : Int} (r : Rx) (s : Sg) (lo hi n : Int) : APure (C m) 7 [.agg (xc r), .agg (sc s), .agg [I lo, I hi, I n]] (Bo true) := by
  refine ToneIntervals_parts r s lo hi n (lostV r s lo hi) (noisyV r s n) (lostE r s lo hi) (noisyE r s n) (firstOf [rxE r, checkE s]) (firstOf [within lo 0 1000, within hi 0 1000, ordE lo hi])
    (up (Lost_pure r s lo hi)) (up (Noisy_pure r s n)) (up (refReceiver_pure' r)) (up (refCheckSignal_pure' s)) (up (refFirst2_pure _ _)) (up (refLoss_pure lo hi)) (up (refRange_pure n 0 1000))
    (lostE_eq r s lo hi ▸ up (refFirst2_pure _ _)) (noisyE_eq r s n ▸ up (refFirst2_pure _ _)) ?_ ?_ ?_ ?_
  · intro h
    have hz := lostE_zero.1 h
    unfold lostV
    rw [if_pos h]
    exact up (refLost_pure r s lo hi hz.1 hz.2.1 hz.2.2.1 hz.2.2.2.1)
  · intro h
    have hz := noisyE_zero.1 h
    have hb : 0 ≤ byI s n := by
      unfold byI absI
      have e1 : 0 ≤ max s.c.re (0 - s.c.re) + max s.c.im (0 - s.c.im) := by omega
      exact Int.mul_nonneg (by omega) e1
    have hm := shownI_mono hz.1 (x := dif s - byI s n) (y := dif s + byI s n) hz.2.1.sq_pos (by omega)
    unfold noisyV
    rw [if_pos h, Int.min_eq_left hm, Int.max_eq_right hm]
    exact up (refNoisy_pure r s n hz.1 hz.2.1 hz.2.2)
  · intro h; unfold lostV; rw [if_neg h]
  · intro h; unfold noisyV; rw [if_neg h]
end Go.Proofs.Ab.Tone2
end
section
/- ToneIntervals: for every receiver, signal, loss and noise the program's intervals, or their errors, are the reference's: the law returns true. (The listed variables are as the program's text lays them.) -/
set_option maxRecDepth 100000
set_option linter.unusedVariables false
set_option linter.unusedSimpArgs false
namespace Go.Proofs.YtkphoimochkndaaGreatDoor
open Go Go.RowKit Go.Proofs.Ab Go.Proofs.Ab.Tone Go.Proofs.Ab.Tone2
theorem toneIntervals_lifted (os : Os) (started : os.Started) (H : Type) (enc : TypeId × Value → H) :
    ReturnsInHanded {} Tryz.checked os 7 .any (fun w args => (Rows.toneIntervalsSpec.pre enc Tryz.prog Tryz.f7 [] false w args ∧ laidMetH Tryz.prog listed w) ∧ sizedMet enc Tryz.prog Tryz.f7 (OpenSpec.ofChange Rows.toneIntervalsSpec) false w args)
      (Rows.toneIntervalsSpec.post enc Tryz.prog Tryz.f7 false true false false) := by
  refine lifted_of started (by as_aux_lemma => kernel_rfl) Tryz.func7 (ss := [(true, fiveSh), (true, sigSh), (true, [.int .i64, .int .i64, .int .i64])])
    (witness #[.agg #[.int .i64 0, .int .i64 0, .int .i64 0, .int .i64 0, .int .i64 0], .agg #[.int .i64 0, .int .i64 0, .int .i64 0, .int .i64 0, .int .i64 0, .int .i64 0], .agg #[.int .i64 0, .int .i64 0, .int .i64 0]] (by as_aux_lemma => kernel_rfl) (by as_aux_lemma => kernel_rfl) (by as_aux_lemma => kernel_rfl) (World.shaped_of_ZipB (by as_aux_lemma => kernel_rfl) (by as_aux_lemma => kernel_rfl)) (laidMet_laidAll _ (by as_aux_lemma => kernel_rfl) (by as_aux_lemma => kernel_rfl)))
    ?_ (by as_aux_lemma => kernel_rfl) (by as_aux_lemma => kernel_rfl) rfl ?_ ?_
  · rw [Tryz.params7]
    intro t ht
    have hall : ([57, 25, 85].all fun u => Tryz.prog.readableRec u && decide (u < Tryz.prog.types.size)) = true := by as_aux_lemma => kernel_rfl
    have := List.all_eq_true.1 hall t (by simpa using ht)
    rw [Bool.and_eq_true, decide_eq_true_eq] at this
    exact this
  · rw [Tryz.params7]
    intro ds hd
    match ds, hd with
    | [d0, d1, d2], _ => exact ⟨rfl, rfl, rfl⟩
  · intro m xs h
    obtain ⟨x0, xs, rfl, h0, h⟩ := h.uncons
    obtain ⟨x1, xs, rfl, h1, h⟩ := h.uncons
    obtain ⟨x2, xs, rfl, h2, h⟩ := h.uncons
    obtain rfl := h.unnil
    obtain ⟨n1, n2, n3, n4, n5, rfl, _⟩ := fit_five h0
    obtain ⟨s, rfl⟩ := fit_sig h1
    obtain ⟨a, b, c, rfl⟩ := fit_three h2
    exact ToneIntervals_pure ⟨n1, n2, n3, n4, n5⟩ s a b c
set_option maxHeartbeats 40000000 in
theorem toneIntervals_facts : joinedFacts Tryz.pinned.checked.prog 7 Tryz.f7 Rows.toneIntervalsSpec Rows.toneIntervalsRow = true := by
  unfold joinedFacts
  simp only [Bool.and_eq_true]
  repeat' apply And.intro
  all_goals as_aux_lemma => kernel_rfl
theorem toneIntervals_row : Rows.ToneIntervalsSaid :=
  OpenClaim.holds_of_wide 7 Tryz.f7 rfl rfl rfl rfl rfl rfl rfl ⟨rfl, rfl, rfl, rfl, rfl⟩ rfl rfl rfl rfl rfl (by as_aux_lemma => kernel_rfl) Tryz.func7 toneIntervals_facts
    (of_decide_eq_true (by as_aux_lemma => kernel_rfl)) (by as_aux_lemma => unfold Func.isWrapper; first | (rw [if_pos (by decide +kernel)]; kernel_rfl) | (rw [if_neg (by decide +kernel)]; exact ⟨rfl, rfl⟩))
    (fun os started H enc _ => toneIntervals_lifted os started H enc)
theorem toneIntervals_named : Tryz.prog.funcNamed "glideslope/glideslopelaw02.ToneIntervals" = some 7 := by kernel_rfl
theorem toneIntervals_holds : Rows.ToneIntervalsCardSaid :=
  Claim7.holds_tied_plain_at .later [] [.data, .data, .data, .data, .data, .pinned] true (true, "6883a40308061e1e56e57a0a897ad96630f21489591d51bcd46258b6daf0fcd9") false toneIntervals_row (fun _ h => by cases h) (by as_aux_lemma => kernel_rfl) (fun _ h => by cases h) toneIntervals_row_tie rfl ⟨rfl, rfl⟩ (by as_aux_lemma => kernel_rfl) rfl
    (fun f fn hf hfn => by
      obtain rfl : f = 7 := Option.some.inj (toneIntervals_named.symm.trans hf) |>.symm
      obtain rfl : fn = Tryz.f7 := (Option.some.inj (Tryz.func7.symm.trans hfn)).symm
      exact ⟨by as_aux_lemma => kernel_rfl, fun j t ht => by
        rw [Tryz.params7] at ht
        have hm : t ∈ [57, 25, 85] := by simpa using Array.mem_of_getElem? ht
        have hall : ([57, 25, 85].all fun u => !Tryz.prog.wantsStandIn u) = true := by as_aux_lemma => kernel_rfl
        exact (show Tryz.prog.wantsStandIn t = false by simpa using List.all_eq_true.1 hall t hm)⟩)
    (by as_aux_lemma => kernel_rfl)
#print axioms toneIntervals_holds
end Go.Proofs.YtkphoimochkndaaGreatDoor
end
