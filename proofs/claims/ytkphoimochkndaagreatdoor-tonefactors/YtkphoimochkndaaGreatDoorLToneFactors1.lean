/- The proof of ToneFactors (see the last theorem): for every input that can be read the law returns true; the listed package-level variables are as the program's text lays them. -/
import Derived.Test.YtkphoimochkndaaGreatDoorK6
section
/- The reference's signals and its follower; the law's lists. -/
set_option maxRecDepth 100000
set_option linter.unusedVariables false
set_option linter.unusedSimpArgs false
namespace Go.Proofs.Ab.Tone2
open Go Go.RowKit Go.Proofs.Ab Go.Proofs.Ab.Tone
theorem checks_drop {xs : List Sg} {k : Nat} (h : k < xs.length) : firstOf ((xs.drop k).map checkE) = if checkE xs[k] = 0 then firstOf ((xs.drop (k + 1)).map checkE) else checkE xs[k] := by
  rw [List.drop_eq_getElem_cons h]
  rfl
theorem refCheckSignal_pure' (s : Sg) : APure Tone.C 18 [.agg (sc s)] (I (checkE s)) := refCheckE_eq s ▸ refCheckSignal_pure s
theorem checkL_small {xs : List Sg} (h0 : ¬ ((xs.map sc).length : Int) = 0) (h1 : ¬ 256 < ((xs.map sc).length : Int)) : checkL xs = firstOf (xs.map checkE) := by
  have e0 : (xs.map sc).length = xs.length := by simp
  rw [e0] at h0 h1
  have hz : sizedE xs.length 256 = 0 := by
    unfold sizedE
    rw [if_neg (by omega), if_neg (by omega)]
  unfold checkL
  rw [hz]
  simp only [firstOf]
  by_cases h : firstOf (xs.map checkE) = 0 <;> simp [h]
theorem checkL_big {xs : List Sg} (h1 : 256 < ((xs.map sc).length : Int)) : checkL xs = 5 := by
  have e0 : (xs.map sc).length = xs.length := by simp
  rw [e0] at h1
  have hz : sizedE xs.length 256 = 5 := by
    unfold sizedE
    rw [if_neg (by omega), if_pos (by omega)]
  unfold checkL
  rw [hz]
  simp [firstOf]
theorem checkL_none {xs : List Sg} (h1 : ((xs.map sc).length : Int) = 0) : checkL xs = 12 := by
  have e0 : (xs.map sc).length = xs.length := by simp
  rw [e0] at h1
  have hz : sizedE xs.length 256 = 12 := by
    unfold sizedE
    rw [if_pos (by omega)]
  unfold checkL
  rw [hz]
  simp [firstOf]
theorem refSignals_pure {m : Int} (xs : List Sg) (hl : xs.length ≤ 1000000) : APure (C m) 44 [.seq 6 (xs.map sc)] (I (checkL xs)) := by
  have e0 : (xs.map sc).length = xs.length := by simp
  refine APure.of_body good [] (fn := Tryz.f44) (by kernel_rfl) (by kernel_rfl) rfl rfl (by kernel_rfl) rfl (by kernel_rfl) ?_
  conv => whnf
  repeat' (first
    | (refine codeK_sound good (mu := []) ?_; conv => whnf)
    | ((first | rw [wl0] | rw [wl1] | rw [wl2] | rw [wl3] | rw [wl4] | rw [wl5]); conv => whnf)
    | (refine SBool.mk (fun _ => ?_) (fun h => absurd (of_decide_eq_true rfl) h); conv => whnf)
    | (refine SBool.mk (fun h => absurd h (of_decide_eq_false rfl)) (fun _ => ?_); conv => whnf)
    | (refine SBool.mk (fun h => ?_) (fun h => ?_) <;> conv => whnf)
    | (refine SEx.mk _ (by first | exact up (refWhen_pure _ _) | exact up (refFirst2_pure _ _)) ?_; conv => whnf)
    | (refine SEx.mk _ (by first | exact rfl | exact ⟨of_decide_eq_true rfl, rfl⟩) ?_; conv => whnf)
    | (refine SAll.mk (fun _ => ?_); conv => whnf)
    | (refine SAnd.mk ⟨by intro c hc; simp at hc; first | (subst hc; rfl) | ((repeat' (rcases hc with rfl | hc)) <;> first | rfl | (subst hc; rfl)), by (simp; first | done | omega), by (simp; first | done | omega)⟩ ?_; conv => whnf)
    | (refine SAnd.mk (by first | exact rfl | kernel_rfl | omega | decide | exact up (refWhen_pure _ _) | exact up (refFirst2_pure _ _)) ?_; conv => whnf)
    | fail)
  · rename_i h0 h1
    exact absurd h1 (by omega)
  · rename_i h0 h1
    exact ⟨PLe.of_eq (by rw [checkL_none h0]; rfl)⟩
  · rename_i h0 h1
    exact ⟨PLe.of_eq (by rw [checkL_big h]; rfl)⟩
  · rename_i h0 h1
    have hc := checkL_small h0 h
    refine ⟨AWp.loop (ι := { k : Nat // k ≤ xs.length ∧ firstOf (xs.map checkE) = firstOf ((xs.drop k).map checkE) }) (fun k => ⟨[(4, .p (I k.1)), (0, .p (.seq 6 (xs.map sc)))], [], [], 0, [], [], []⟩) (fun k => xs.length - k.1) ⟨0, by simp⟩ ?_ ?_⟩
    · skip
      · refine SLe.of [] [] rfl rfl ?_
        conv => whnf
        repeat' (first
        | exact True.intro
        | (refine SAnd.mk (PLe.of_eq (by simp only [wrapK]; rw [wrap_id (by first | omega | (simp only; done) | (simp only; omega) | simp) (by first | omega | (simp only; done) | (simp only; omega) | simp)]; simp)) ?_; conv => whnf)
        | (refine SAnd.mk (PLe.refl _) ?_; conv => whnf)
        | (refine SAnd.mk (PLeL.refl _) ?_; conv => whnf)
        | (refine SAnd.mk (PLe.of_eq (by simp)) ?_; conv => whnf)
        | (refine SAnd.mk rfl ?_; conv => whnf)
        | (refine SAnd.mk ⟨rfl, rfl⟩ ?_; conv => whnf)
        | (refine SAnd.mk ⟨rfl, rfl, rfl⟩ ?_; conv => whnf))
    · rintro ⟨k, hk, he⟩
      refine codeK_sound good (mu := []) ?_
      conv => whnf
      refine SBool.mk (fun hq => ?_) (fun hq => ?_)
      · conv => whnf
        have hkl : k < xs.length := by simpa using hq
        refine SEx.mk (sc xs[k]) (by simp [hkl]) ?_
        conv => whnf
        conv => whnf
        repeat' (first
          | (refine codeK_sound good (mu := []) ?_; conv => whnf)
          | ((first | rw [wl0] | rw [wl1] | rw [wl2] | rw [wl3] | rw [wl4] | rw [wl5]); conv => whnf)
          | (refine SBool.mk (fun _ => ?_) (fun h => absurd (of_decide_eq_true rfl) h); conv => whnf)
          | (refine SBool.mk (fun h => absurd h (of_decide_eq_false rfl)) (fun _ => ?_); conv => whnf)
          | (refine SBool.mk (fun h => ?_) (fun h => ?_) <;> conv => whnf)
          | (refine SEx.mk _ (by first | exact up (refCheckSignal_pure' xs[k])) ?_; conv => whnf)
          | (refine SEx.mk _ (by first | exact rfl | exact ⟨of_decide_eq_true rfl, rfl⟩) ?_; conv => whnf)
          | (refine SAll.mk (fun _ => ?_); conv => whnf)
          | (refine SAnd.mk ⟨by intro c hc; simp at hc; first | (subst hc; rfl) | ((repeat' (rcases hc with rfl | hc)) <;> first | rfl | (subst hc; rfl)), by (simp; first | done | omega), by (simp; first | done | omega)⟩ ?_; conv => whnf)
          | (refine SAnd.mk (by first | exact rfl | kernel_rfl | omega | decide | exact up (refCheckSignal_pure' xs[k])) ?_; conv => whnf)
          | fail)
        · refine ⟨⟨k + 1, by omega, by rw [he, checks_drop hkl, if_pos h]⟩, by simp only; omega, ?_⟩
          skip
          · refine SLe.of [] [] rfl rfl ?_
            conv => whnf
            repeat' (first
            | exact True.intro
            | (refine SAnd.mk (PLe.of_eq (by simp only [wrapK]; rw [wrap_id (by first | omega | (simp only; done) | (simp only; omega) | simp) (by first | omega | (simp only; done) | (simp only; omega) | simp)]; simp)) ?_; conv => whnf)
            | (refine SAnd.mk (PLe.refl _) ?_; conv => whnf)
            | (refine SAnd.mk (PLeL.refl _) ?_; conv => whnf)
            | (refine SAnd.mk (PLe.of_eq (by simp)) ?_; conv => whnf)
            | (refine SAnd.mk rfl ?_; conv => whnf)
            | (refine SAnd.mk ⟨rfl, rfl⟩ ?_; conv => whnf)
            | (refine SAnd.mk ⟨rfl, rfl, rfl⟩ ?_; conv => whnf))
        · exact ⟨PLe.of_eq (by rw [hc, he, checks_drop hkl, if_neg h])⟩
      · conv => whnf
        have : k = xs.length := by simp at hq; omega
        exact ⟨PLe.of_eq (by rw [hc, he, this]; simp [firstOf])⟩
theorem refFollowed_pure {m : Int} (r : Rx) (hr : RxOk r) (lag start : Int) (hlag : 1 ≤ lag) (hs : -1000 ≤ start ∧ start ≤ 1000) (xs : List Sg) (hl : xs.length ≤ 1000000) (hx : ∀ s ∈ xs, Ok s) :
    APure (C m) 45 [.agg (xc r), I lag, I start, .seq 6 (xs.map sc)] (.seq 1 (cells1 (followL r lag start xs xs.length))) := by
  refine APure.of_body good [] (fn := Tryz.f45) (by kernel_rfl) (by kernel_rfl) rfl rfl (by kernel_rfl) rfl (by kernel_rfl) ?_
  conv => whnf
  repeat' (first
    | (refine codeK_sound good (mu := []) ?_; conv => whnf)
    | ((first | rw [wl0] | rw [wl1] | rw [wl2] | rw [wl3] | rw [wl4] | rw [wl5]); conv => whnf)
    | (refine SBool.mk (fun _ => ?_) (fun h => absurd (of_decide_eq_true rfl) h); conv => whnf)
    | (refine SBool.mk (fun h => absurd h (of_decide_eq_false rfl)) (fun _ => ?_); conv => whnf)
    | (refine SBool.mk (fun h => ?_) (fun h => ?_) <;> conv => whnf)
    | (refine SEx.mk _ (by first | exact rfl | exact ⟨of_decide_eq_true rfl, rfl⟩) ?_; conv => whnf)
    | (refine SAll.mk (fun _ => ?_); conv => whnf)
    | (refine SAnd.mk ⟨by intro c hc; simp at hc; first | (subst hc; rfl) | ((repeat' (rcases hc with rfl | hc)) <;> first | rfl | (subst hc; rfl)), by (simp; first | done | omega), by (simp; first | done | omega)⟩ ?_; conv => whnf)
    | (refine SAnd.mk (by first | exact rfl | kernel_rfl | omega | decide) ?_; conv => whnf)
    | fail)
  refine ⟨AWp.loop (ι := { k : Nat // k ≤ xs.length }) (fun k => ⟨[(11, .p (I k.1)), (10, .p (I (needleAt r lag start xs k.1))), (9, .own 0), (4, .p (.ref (xc r))), (1, .p (I lag)), (3, .p (.seq 6 (xs.map sc)))], [], [(0, (3, 1, cells1 (followL r lag start xs k.1)))], 1, [], [], []⟩) (fun k => xs.length - k.1) ⟨0, by simp⟩ ?_ ?_⟩
  · refine SLe.row 9 3 1 ?_
    conv => whnf
    skip
    · refine SLe.of [] [(0, 0)] rfl rfl ?_
      conv => whnf
      repeat' (first
      | exact True.intro
      | (refine SAnd.mk (PLe.of_eq (by simp only [wrapK]; rw [wrap_id (by first | omega | (simp only; done) | (simp only; omega) | simp) (by first | omega | (simp only; done) | (simp only; omega) | simp)]; simp)) ?_; conv => whnf)
      | (refine SAnd.mk (PLe.refl _) ?_; conv => whnf)
      | (refine SAnd.mk (PLeL.refl _) ?_; conv => whnf)
      | (refine SAnd.mk (PLe.of_eq (by simp)) ?_; conv => whnf)
      | (refine SAnd.mk rfl ?_; conv => whnf)
      | (refine SAnd.mk ⟨rfl, rfl⟩ ?_; conv => whnf)
      | (refine SAnd.mk ⟨rfl, rfl, rfl⟩ ?_; conv => whnf))
  · rintro ⟨k, hk⟩
    refine codeK_sound good (mu := []) ?_
    conv => whnf
    refine SBool.mk (fun hc => ?_) (fun hc => ?_)
    · conv => whnf
      have hkl : k < xs.length := by simpa using hc
      have hnb := needle_bound hr hlag hs (xs := xs) k hk
      have htb := toldI_bound hr xs[k]
      have hsb := step_bound hlag htb hnb
      have w1 : wrapK IntKind.i64 (toldI r xs[k] - needleAt r lag start xs k) = toldI r xs[k] - needleAt r lag start xs k := w64 (by omega)
      have w2 : wrapK IntKind.i64 (needleAt r lag start xs k + (toldI r xs[k] - needleAt r lag start xs k) / lag) = needleAt r lag start xs k + (toldI r xs[k] - needleAt r lag start xs k) / lag := w64 (by omega)
      have hsome : 0 ≤ (k : Int) ∧ (xs.map sc)[((k : Int)).toNat]? = some (sc xs[k]) := ⟨by omega, by show (xs.map sc)[k]? = _; simp [hkl]⟩
      conv => whnf
      repeat' (first
        | (refine codeK_sound good (mu := []) ?_; conv => whnf)
        | ((first | rw [wl0] | rw [wl1] | rw [wl2] | rw [wl3] | rw [wl4] | rw [wl5]); conv => whnf)
        | (rw [w2]; conv => whnf)
        | (rw [w1]; conv => whnf)
        | (refine SBool.mk (fun _ => ?_) (fun h => absurd (of_decide_eq_true rfl) h); conv => whnf)
        | (refine SBool.mk (fun h => absurd h (of_decide_eq_false rfl)) (fun _ => ?_); conv => whnf)
        | (refine SBool.mk (fun h => ?_) (fun h => ?_) <;> conv => whnf)
        | (refine SEx.mk _ (by first | exact hsome | exact up (refTold_pure r xs[k] hr (hx _ (List.getElem_mem hkl))) | exact eql_string _ _ _ | exact up (refFloor_pure _ _ (by omega) (by omega))) ?_; conv => whnf)
        | (refine SEx.mk _ (by first | exact rfl | exact ⟨of_decide_eq_true rfl, rfl⟩) ?_; conv => whnf)
        | (refine SAll.mk (fun _ => ?_); conv => whnf)
        | (refine SAnd.mk (by first | exact hsome) ?_; conv => whnf)
        | (refine SAnd.mk ⟨by intro c hc; simp at hc; first | (subst hc; rfl) | ((repeat' (rcases hc with rfl | hc)) <;> first | rfl | (subst hc; rfl)), by (simp; first | done | omega), by (simp; first | done | omega)⟩ ?_; conv => whnf)
        | (refine SAnd.mk (by first | exact rfl | kernel_rfl | omega | decide | exact hsome | exact up (refTold_pure r xs[k] hr (hx _ (List.getElem_mem hkl))) | exact eql_string _ _ _ | exact up (refFloor_pure _ _ (by omega) (by omega))) ?_; conv => whnf)
        | fail)
      · have hz : flagB r xs[k] = bNone := of_decide_eq_true h
        have hstep : stepN r lag (needleAt r lag start xs k) xs[k] = needleAt r lag start xs k + (toldI r xs[k] - needleAt r lag start xs k) / lag := by unfold stepN; rw [if_pos hz]
        refine SAnd.mk ⟨by intro c hc; simp at hc; subst hc; rfl, by simp [cells1, followL]; omega, by simp [cells1, followL]; omega⟩ ?_
        conv => whnf
        refine ⟨⟨k + 1, by omega⟩, by simp only; omega, ?_⟩
        skip
        · refine SLe.of [] [(0, 11)] rfl rfl ?_
          conv => whnf
          repeat' (first
          | exact True.intro
          | (refine SAnd.mk (PLe.of_eq (by simp only; rw [needleAt_succ hkl, hstep])) ?_; conv => whnf)
          | (refine SAnd.mk ((by simp only; rw [followL_succ, needleAt_succ hkl, hstep])) ?_; conv => whnf)
          | (refine SAnd.mk (PLe.of_eq (by simp only [wrapK]; rw [wrap_id (by first | omega | (simp only; done) | (simp only; omega) | simp) (by first | omega | (simp only; done) | (simp only; omega) | simp)]; simp)) ?_; conv => whnf)
          | (refine SAnd.mk (PLe.refl _) ?_; conv => whnf)
          | (refine SAnd.mk (PLeL.refl _) ?_; conv => whnf)
          | (refine SAnd.mk (PLe.of_eq (by simp)) ?_; conv => whnf)
          | (refine SAnd.mk rfl ?_; conv => whnf)
          | (refine SAnd.mk ⟨rfl, rfl⟩ ?_; conv => whnf)
          | (refine SAnd.mk ⟨rfl, rfl, rfl⟩ ?_; conv => whnf))
      · have hz : ¬ flagB r xs[k] = bNone := of_decide_eq_false (by simpa using h)
        have hstep : stepN r lag (needleAt r lag start xs k) xs[k] = needleAt r lag start xs k := by unfold stepN; rw [if_neg hz]
        refine SAnd.mk ⟨by intro c hc; simp at hc; subst hc; rfl, by simp [cells1, followL]; omega, by simp [cells1, followL]; omega⟩ ?_
        conv => whnf
        refine ⟨⟨k + 1, by omega⟩, by simp only; omega, ?_⟩
        skip
        · refine SLe.of [] [(0, 11)] rfl rfl ?_
          conv => whnf
          repeat' (first
          | exact True.intro
          | (refine SAnd.mk (PLe.of_eq (by simp only; rw [needleAt_succ hkl, hstep])) ?_; conv => whnf)
          | (refine SAnd.mk ((by simp only; rw [followL_succ, needleAt_succ hkl, hstep])) ?_; conv => whnf)
          | (refine SAnd.mk (PLe.of_eq (by simp only [wrapK]; rw [wrap_id (by first | omega | (simp only; done) | (simp only; omega) | simp) (by first | omega | (simp only; done) | (simp only; omega) | simp)]; simp)) ?_; conv => whnf)
          | (refine SAnd.mk (PLe.refl _) ?_; conv => whnf)
          | (refine SAnd.mk (PLeL.refl _) ?_; conv => whnf)
          | (refine SAnd.mk (PLe.of_eq (by simp)) ?_; conv => whnf)
          | (refine SAnd.mk rfl ?_; conv => whnf)
          | (refine SAnd.mk ⟨rfl, rfl⟩ ?_; conv => whnf)
          | (refine SAnd.mk ⟨rfl, rfl, rfl⟩ ?_; conv => whnf))
    · conv => whnf
      have : k = xs.length := by simp at hc; omega
      subst this
      exact ⟨PLe.refl _⟩
/-- The law's list of signals as the program's. -/
theorem signals_pure {m : Int} (xs : List Sg) (hl : xs.length ≤ 1000000) : APure (C m) 42 [.seq 6 (xs.map sc)] (.seq 6 (xs.map sc)) := by
  refine APure.of_body good [] (fn := Tryz.f42) (by kernel_rfl) (by kernel_rfl) rfl rfl (by kernel_rfl) rfl (by kernel_rfl) ?_
  conv => whnf
  repeat' (first
    | (refine codeK_sound good (mu := []) ?_; conv => whnf)
    | ((first | rw [wl0] | rw [wl1] | rw [wl2] | rw [wl3] | rw [wl4] | rw [wl5]); conv => whnf)
    | (refine SBool.mk (fun _ => ?_) (fun h => absurd (of_decide_eq_true rfl) h); conv => whnf)
    | (refine SBool.mk (fun h => absurd h (of_decide_eq_false rfl)) (fun _ => ?_); conv => whnf)
    | (refine SBool.mk (fun h => ?_) (fun h => ?_) <;> conv => whnf)
    | (refine SEx.mk _ (by first | exact rfl | exact ⟨of_decide_eq_true rfl, rfl⟩) ?_; conv => whnf)
    | (refine SAll.mk (fun _ => ?_); conv => whnf)
    | (refine SAnd.mk ⟨by intro c hc; simp at hc; first | (subst hc; rfl) | ((repeat' (rcases hc with rfl | hc)) <;> first | rfl | (subst hc; rfl)), by (simp; first | done | omega), by (simp; first | done | omega)⟩ ?_; conv => whnf)
    | (refine SAnd.mk (by first | exact rfl | kernel_rfl | omega | decide) ?_; conv => whnf)
    | fail)
  refine ⟨AWp.loop (ι := { k : Nat // k ≤ xs.length }) (fun k => ⟨[(8, .p (I k.1)), (7, .p (I xs.length)), (6, .p (.seq 6 (xs.map sc))), (3, .own 0)], [], [(0, (32, 6, (xs.take k.1).map sc))], 1, [], [], []⟩) (fun k => xs.length - k.1) ⟨0, by simp⟩ ?_ ?_⟩
  · refine SLe.row 3 32 6 ?_
    conv => whnf
    skip
    · refine SLe.of [] [(0, 0)] rfl rfl ?_
      conv => whnf
      repeat' (first
      | exact True.intro
      | (refine SAnd.mk (PLe.of_eq (by simp only [wrapK]; rw [wrap_id (by first | omega | (simp only; done) | (simp only; omega) | simp) (by first | omega | (simp only; done) | (simp only; omega) | simp)]; simp)) ?_; conv => whnf)
      | (refine SAnd.mk (PLe.refl _) ?_; conv => whnf)
      | (refine SAnd.mk (PLeL.refl _) ?_; conv => whnf)
      | (refine SAnd.mk (PLe.of_eq (by simp)) ?_; conv => whnf)
      | (refine SAnd.mk rfl ?_; conv => whnf)
      | (refine SAnd.mk ⟨rfl, rfl⟩ ?_; conv => whnf)
      | (refine SAnd.mk ⟨rfl, rfl, rfl⟩ ?_; conv => whnf))
  · rintro ⟨k, hk⟩
    refine codeK_sound good (mu := []) ?_
    conv => whnf
    refine SBool.mk (fun hc => ?_) (fun hc => ?_)
    · conv => whnf
      have hkl : k < xs.length := by simpa using hc
      have hsome : 0 ≤ (k : Int) ∧ (xs.map sc)[((k : Int)).toNat]? = some (sc xs[k]) := ⟨by omega, by show (xs.map sc)[k]? = _; simp [hkl]⟩
      conv => whnf
      repeat' (first
        | (refine codeK_sound good (mu := []) ?_; conv => whnf)
        | ((first | rw [wl0] | rw [wl1] | rw [wl2] | rw [wl3] | rw [wl4] | rw [wl5]); conv => whnf)
        | (refine SBool.mk (fun _ => ?_) (fun h => absurd (of_decide_eq_true rfl) h); conv => whnf)
        | (refine SBool.mk (fun h => absurd h (of_decide_eq_false rfl)) (fun _ => ?_); conv => whnf)
        | (refine SBool.mk (fun h => ?_) (fun h => ?_) <;> conv => whnf)
        | (refine SEx.mk _ (by first | exact hsome) ?_; conv => whnf)
        | (refine SEx.mk _ (by first | exact rfl | exact ⟨of_decide_eq_true rfl, rfl⟩) ?_; conv => whnf)
        | (refine SAll.mk (fun _ => ?_); conv => whnf)
        | (refine SAnd.mk (by first | exact hsome) ?_; conv => whnf)
        | (refine SAnd.mk ⟨by intro c hc; simp at hc; first | (subst hc; rfl) | ((repeat' (rcases hc with rfl | hc)) <;> first | rfl | (subst hc; rfl)), by (simp; first | done | omega), by (simp; first | done | omega)⟩ ?_; conv => whnf)
        | (refine SAnd.mk (by first | exact rfl | kernel_rfl | omega | decide | exact hsome) ?_; conv => whnf)
        | fail)
      refine ⟨⟨k + 1, by omega⟩, by simp only; omega, ?_⟩
      skip
      · refine SLe.of [] [(0, 2)] rfl rfl ?_
        conv => whnf
        repeat' (first
        | exact True.intro
        | (refine SAnd.mk ((take_map_succ hkl _).symm) ?_; conv => whnf)
        | (refine SAnd.mk (PLe.of_eq (by simp only [wrapK]; rw [wrap_id (by first | omega | (simp only; done) | (simp only; omega) | simp) (by first | omega | (simp only; done) | (simp only; omega) | simp)]; simp)) ?_; conv => whnf)
        | (refine SAnd.mk (PLe.refl _) ?_; conv => whnf)
        | (refine SAnd.mk (PLeL.refl _) ?_; conv => whnf)
        | (refine SAnd.mk (PLe.of_eq (by simp)) ?_; conv => whnf)
        | (refine SAnd.mk rfl ?_; conv => whnf)
        | (refine SAnd.mk ⟨rfl, rfl⟩ ?_; conv => whnf)
        | (refine SAnd.mk ⟨rfl, rfl, rfl⟩ ?_; conv => whnf))
    · conv => whnf
      have : k = xs.length := by simp at hc; omega
      subst this
      exact ⟨PLe.of_eq (by simp)⟩
end Go.Proofs.Ab.Tone2
end
section
/- The law of the depths. -/
set_option maxRecDepth 100000
set_option linter.unusedVariables false
set_option linter.unusedSimpArgs false
namespace Go.Proofs.Ab.Tone2
open Go Go.RowKit Go.Proofs.Ab Go.Proofs.Ab.Tone
theorem eq_ratio_self (a b : Int) : EqAgg Tone.C 28 [I a, I b] [I a, I b] true := by
  have h := eq_ratio a b a b
  have e : decide (a = a ∧ b = b) = true := by simp
  rw [e] at h
  exact h
section
attribute [local irreducible] APure
set_option maxHeartbeats 4000000 in
theorem ToneDepths_pure {m : Int} (s : Sg) : APure (C m) 3 [.agg (sc s)] (Bo true) := by
  have c18 : APure (C m) 18 [.agg (sc s)] (I (checkE s)) := by
    have h := refCheckSignal_pure s
    rw [refCheckE_eq] at h
    exact up h
  have c15 := up (m := m) (Depths_pure s)
  have c16 := up (m := m) (Needle_pure s)
  have c17 := up (m := m) (Sum_pure s)
  have c25 := up (m := m) (CheckSignal_pure s)
  by_cases h0 : checkE s = 0
  · have h := h0
    have hv : Ok s := checkE_zero.1 h
    have hf := hv.fit.mono (n := 1000000) (by decide)
    have b1 := dif_bound hv.fit; have b2 := sq_le hv.fit.c; have b3 := hv.sq_pos
    have b4 := tot_bound hv.fit
    have b5 := aga_bound hv.fit.c hv.fit.l
    have b6 := aga_bound hv.fit.c hv.fit.h
    have c19 := up (m := m) (refSquareS_pure s hf.c)
    have c21 := up (m := m) (refLow_pure s hf)
    have c22 := up (m := m) (refHigh_pure s hf)
    have c23 := up (m := m) (refNeedle_pure s hv)
    have c24 := up (m := m) (refTotal_pure s hv.fit)
    have cl1 := up (m := m) (refLowest_pure (aga s s.l) (sq s.c) (by omega) b3 (by omega))
    have cl2 := up (m := m) (refLowest_pure (aga s s.h) (sq s.c) (by omega) b3 (by omega))
    have cl3 := up (m := m) (refLowest_pure (tot s) (sq s.c) (by omega) b3 (by omega))
    unfold depthL depthH at c15
    unfold needleR at c16
    unfold sumR at c17
    rw [if_pos h, if_pos h, h] at c15
    rw [if_pos h, h] at c16
    rw [if_pos h, h] at c17
    rw [h] at c18 c25
    refine APure.of_body good [] (fn := Tryz.f3) (by kernel_rfl) (by kernel_rfl) rfl rfl (by kernel_rfl) rfl (by kernel_rfl) ?_
    conv => whnf
    repeat' (first
      | (refine codeK_sound good (mu := []) ?_; conv => whnf)
      | ((first | rw [wl0] | rw [wl1] | rw [wl2] | rw [wl3] | rw [wl4] | rw [wl5]); conv => whnf)
      | (refine SBool.mk (fun _ => ?_) (fun h => absurd (of_decide_eq_true rfl) h); conv => whnf)
      | (refine SBool.mk (fun h => absurd h (of_decide_eq_false rfl)) (fun _ => ?_); conv => whnf)
      | (refine SBool.mk (fun h => ?_) (fun h => ?_) <;> conv => whnf)
      | (refine SEx.mk _ (by first | exact awake_pure | exact c15 | exact c16 | exact c17 | exact c18 | exact c25 | exact c19 | exact c21 | exact c22 | exact c23 | exact c24 | exact cl1 | exact cl2 | exact cl3 | exact eq_ratio_self _ _) ?_; conv => whnf)
      | (refine SEx.mk _ (by first | exact rfl | exact ⟨of_decide_eq_true rfl, rfl⟩) ?_; conv => whnf)
      | (refine SAll.mk (fun _ => ?_); conv => whnf)
      | (refine SAnd.mk ⟨by intro c hc; simp at hc; first | (subst hc; rfl) | ((repeat' (rcases hc with rfl | hc)) <;> first | rfl | (subst hc; rfl)), by (simp; first | done | omega), by (simp; first | done | omega)⟩ ?_; conv => whnf)
      | (refine SAnd.mk (by first | exact rfl | kernel_rfl | omega | decide | exact awake_pure | exact c15 | exact c16 | exact c17 | exact c18 | exact c25 | exact c19 | exact c21 | exact c22 | exact c23 | exact c24 | exact cl1 | exact cl2 | exact cl3 | exact eq_ratio_self _ _) ?_; conv => whnf)
      | fail)
    exact ⟨PLe.refl _⟩
  · unfold depthL depthH at c15
    unfold needleR at c16
    unfold sumR at c17
    rw [if_neg h0, if_neg h0] at c15
    rw [if_neg h0] at c16
    rw [if_neg h0] at c17
    refine APure.of_body good [] (fn := Tryz.f3) (by kernel_rfl) (by kernel_rfl) rfl rfl (by kernel_rfl) rfl (by kernel_rfl) ?_
    conv => whnf
    repeat' (first
      | (refine codeK_sound good (mu := []) ?_; conv => whnf)
      | ((first | rw [wl0] | rw [wl1] | rw [wl2] | rw [wl3] | rw [wl4] | rw [wl5]); conv => whnf)
      | (refine SBool.mk (fun _ => ?_) (fun h => absurd (of_decide_eq_true rfl) h); conv => whnf)
      | (refine SBool.mk (fun h => absurd h (of_decide_eq_false rfl)) (fun _ => ?_); conv => whnf)
      | (refine SBool.mk (fun h => ?_) (fun h => ?_) <;> conv => whnf)
      | (refine SEx.mk _ (by first | exact awake_pure | exact c15 | exact c16 | exact c17 | exact c18 | exact c25 | exact eq_ratio_self _ _) ?_; conv => whnf)
      | (refine SEx.mk _ (by first | exact rfl | exact ⟨of_decide_eq_true rfl, rfl⟩) ?_; conv => whnf)
      | (refine SAll.mk (fun _ => ?_); conv => whnf)
      | (refine SAnd.mk ⟨by intro c hc; simp at hc; first | (subst hc; rfl) | ((repeat' (rcases hc with rfl | hc)) <;> first | rfl | (subst hc; rfl)), by (simp; first | done | omega), by (simp; first | done | omega)⟩ ?_; conv => whnf)
      | (refine SAnd.mk (by first | exact rfl | kernel_rfl | omega | decide | exact awake_pure | exact c15 | exact c16 | exact c17 | exact c18 | exact c25 | exact eq_ratio_self _ _) ?_; conv => whnf)
      | fail)
    all_goals first | exact absurd (by assumption) h0 | exact ⟨PLe.refl _⟩ | simp_all
end
end Go.Proofs.Ab.Tone2
end
section
/- The law's looks at a signal and at a ratio; plain laws of ratios. -/
set_option maxRecDepth 100000
set_option linter.unusedVariables false
set_option linter.unusedSimpArgs false
namespace Go.Proofs.Ab.Tone2
open Go Go.RowKit Go.Proofs.Ab Go.Proofs.Ab.Tone
def near1 (a : G) (n : Int) : Prop := (-n ≤ a.re ∧ a.re ≤ n) ∧ (-n ≤ a.im ∧ a.im ≤ n)
def nearP (s : Sg) (n : Int) : Prop := checkE s = 0 ∧ near1 s.c n ∧ near1 s.l n ∧ near1 s.h n
instance (s : Sg) (n : Int) : Decidable (nearP s n) := by unfold nearP near1; infer_instance
theorem near_pure {m : Int} (s : Sg) (n : Int) (h0 : 0 ≤ n) (h1 : n ≤ 1000000) : APure (C m) 69 [.agg (sc s), I n] (Bo (decide (nearP s n))) := by
  have wn : wrapK IntKind.i64 (0 - n) = 0 - n := w64 (by omega)
  have hin : ∀ i : Nat, i < 3 → True := fun _ _ => True.intro
  refine APure.of_body good [] (fn := Tryz.f69) (by kernel_rfl) (by kernel_rfl) rfl rfl (by kernel_rfl) rfl (by kernel_rfl) ?_
  conv => whnf
  repeat' (first
    | (refine codeK_sound good (mu := []) ?_; conv => whnf)
    | ((first | rw [wl0] | rw [wl1] | rw [wl2] | rw [wl3] | rw [wl4] | rw [wl5]); conv => whnf)
    | (rw [wn]; conv => whnf)
    | (refine SBool.mk (fun _ => ?_) (fun h => absurd (of_decide_eq_true rfl) h); conv => whnf)
    | (refine SBool.mk (fun h => absurd h (of_decide_eq_false rfl)) (fun _ => ?_); conv => whnf)
    | (refine SBool.mk (fun h => ?_) (fun h => ?_) <;> conv => whnf)
    | refine SCode.mk (AWp.rounds 4 ?_)
    | (refine SEx.mk _ (by first | exact up (refCheckSignal_pure' s)) ?_; conv => whnf)
    | (refine SEx.mk _ (by first | exact rfl | exact ⟨of_decide_eq_true rfl, rfl⟩) ?_; conv => whnf)
    | (refine SAll.mk (fun _ => ?_); conv => whnf)
    | (refine SAnd.mk ⟨by intro c hc; simp at hc; first | (subst hc; rfl) | ((repeat' (rcases hc with rfl | hc)) <;> first | rfl | (subst hc; rfl)), by (simp; first | done | omega), by (simp; first | done | omega)⟩ ?_; conv => whnf)
    | (refine SAnd.mk (by first | exact rfl | kernel_rfl | omega | decide | exact up (refCheckSignal_pure' s)) ?_; conv => whnf)
    | fail)
  all_goals first
    | exact ⟨PLe.of_eq (by rw [decide_eq_false (by unfold nearP near1; omega)])⟩
    | exact ⟨PLe.of_eq (by rw [decide_eq_true (by unfold nearP near1; omega)])⟩
theorem refCheckRatio_pure {m : Int} (n d : Int) (hn : n.natAbs ≤ 999999999) (hd : 0 < d) (hd2 : d ≤ 999999999) (hg : Int.gcd n d = 1) : APure (C m) 145 [.agg [I n, I d]] (I 0) := by
  have c1 : APure (C m) 55 [I n, I (-999999999), I 999999999] (I 0) := by
    have h := up (m := m) (refRange_pure n (-999999999) 999999999)
    rwa [within_zero.2 (by omega)] at h
  have c2 : APure (C m) 55 [I d, I 1, I 999999999] (I 0) := by
    have h := up (m := m) (refRange_pure d 1 999999999)
    rwa [within_zero.2 (by omega)] at h
  have c3 : APure (C m) 95 [I n, I d] (I 1) := by
    have h := up (m := m) (refDivisor_pure n d (by omega) (by omega))
    rwa [hg] at h
  refine APure.of_body good [] (fn := Tryz.f145) (by kernel_rfl) (by kernel_rfl) rfl rfl (by kernel_rfl) rfl (by kernel_rfl) ?_
  conv => whnf
  repeat' (first
    | (refine codeK_sound good (mu := []) ?_; conv => whnf)
    | ((first | rw [wl0] | rw [wl1] | rw [wl2] | rw [wl3] | rw [wl4] | rw [wl5]); conv => whnf)
    | (refine SBool.mk (fun _ => ?_) (fun h => absurd (of_decide_eq_true rfl) h); conv => whnf)
    | (refine SBool.mk (fun h => absurd h (of_decide_eq_false rfl)) (fun _ => ?_); conv => whnf)
    | (refine SBool.mk (fun h => ?_) (fun h => ?_) <;> conv => whnf)
    | (refine SEx.mk _ (by first | exact c1 | exact c2 | exact c3 | exact up (refFirst2_pure _ _) | exact up (refWhen_pure _ _)) ?_; conv => whnf)
    | (refine SEx.mk _ (by first | exact rfl | exact ⟨of_decide_eq_true rfl, rfl⟩) ?_; conv => whnf)
    | (refine SAll.mk (fun _ => ?_); conv => whnf)
    | (refine SAnd.mk ⟨by intro c hc; simp at hc; first | (subst hc; rfl) | ((repeat' (rcases hc with rfl | hc)) <;> first | rfl | (subst hc; rfl)), by (simp; first | done | omega), by (simp; first | done | omega)⟩ ?_; conv => whnf)
    | (refine SAnd.mk (by first | exact rfl | kernel_rfl | omega | decide | exact c1 | exact c2 | exact c3 | exact up (refFirst2_pure _ _) | exact up (refWhen_pure _ _)) ?_; conv => whnf)
    | fail)
  exact ⟨PLe.refl _⟩
theorem right_pure {m : Int} (n d : Int) (hn : n.natAbs ≤ 999999999) (hd : 0 < d) (hd2 : d ≤ 999999999) (hg : Int.gcd n d = 1) : APure (C m) 71 [.agg [I n, I d]] (Bo true) := by
  refine APure.of_body good [] (fn := Tryz.f71) (by kernel_rfl) (by kernel_rfl) rfl rfl (by kernel_rfl) rfl (by kernel_rfl) ?_
  conv => whnf
  repeat' (first
    | (refine codeK_sound good (mu := []) ?_; conv => whnf)
    | ((first | rw [wl0] | rw [wl1] | rw [wl2] | rw [wl3] | rw [wl4] | rw [wl5]); conv => whnf)
    | (refine SBool.mk (fun _ => ?_) (fun h => absurd (of_decide_eq_true rfl) h); conv => whnf)
    | (refine SBool.mk (fun h => absurd h (of_decide_eq_false rfl)) (fun _ => ?_); conv => whnf)
    | (refine SBool.mk (fun h => ?_) (fun h => ?_) <;> conv => whnf)
    | (refine SEx.mk _ (by first | exact refCheckRatio_pure n d hn hd hd2 hg) ?_; conv => whnf)
    | (refine SEx.mk _ (by first | exact rfl | exact ⟨of_decide_eq_true rfl, rfl⟩) ?_; conv => whnf)
    | (refine SAll.mk (fun _ => ?_); conv => whnf)
    | (refine SAnd.mk ⟨by intro c hc; simp at hc; first | (subst hc; rfl) | ((repeat' (rcases hc with rfl | hc)) <;> first | rfl | (subst hc; rfl)), by (simp; first | done | omega), by (simp; first | done | omega)⟩ ?_; conv => whnf)
    | (refine SAnd.mk (by first | exact rfl | kernel_rfl | omega | decide | exact refCheckRatio_pure n d hn hd hd2 hg) ?_; conv => whnf)
    | fail)
  exact ⟨PLe.refl _⟩
theorem gcd_pos' {n d : Int} (hd : 0 < d) : 0 < Int.gcd n d := Int.gcd_pos_of_ne_zero_right n (by omega)
theorem low_scale {k n d : Int} (hk : 0 < k) : low (k * n) (k * d) = low n d := by
  have hg : ((Int.gcd (k * n) (k * d) : Nat) : Int) = k * (Int.gcd n d : Nat) := by
    rw [Int.gcd_mul_left, Int.natCast_mul]
    rw [Int.natAbs_of_nonneg (by omega)]
  unfold low
  rw [hg, Int.mul_ediv_mul_of_pos _ _ hk, Int.mul_ediv_mul_of_pos _ _ hk]
theorem low_eq {n d n' d' : Int} (hd : 0 < d) (hd' : 0 < d') (h : n * d' = n' * d) : low n d = low n' d' := by
  rw [← low_scale (n := n) (d := d) hd', ← low_scale (n := n') (d := d') hd]
  rw [Int.mul_comm d' n, Int.mul_comm d n', h, Int.mul_comm d' d]
/-- A ratio in lowest terms, told apart from the quotient it is. -/
structure IsLow (x : R) (n d : Int) : Prop where
  den : 0 < x.den
  le : x.den ≤ d
  num : x.num.natAbs ≤ n.natAbs
  gcd : Int.gcd x.num x.den = 1
  eq : x.num * d = n * x.den
theorem isLow {n d : Int} (hd : 0 < d) : IsLow (low n d) n d := by
  have hg := gcd_pos' (n := n) hd
  have h1 : ((Int.gcd n d : Nat) : Int) ∣ n := Int.gcd_dvd_left ..
  have h2 : ((Int.gcd n d : Nat) : Int) ∣ d := Int.gcd_dvd_right ..
  obtain ⟨a, ha⟩ := h1
  obtain ⟨b, hb⟩ := h2
  have hg0 : ((Int.gcd n d : Nat) : Int) ≠ 0 := by omega
  have en : (low n d).num = a := by
    show n / _ = a
    rw [ha, ← ha, Int.ediv_eq_of_eq_mul_right hg0 ha]
  have ed : (low n d).den = b := by
    show d / _ = b
    rw [Int.ediv_eq_of_eq_mul_right hg0 hb]
  have hb0 : 0 < b := by
    have : 0 < ((Int.gcd n d : Nat) : Int) * b := by rw [← hb]; exact hd
    exact Int.pos_of_mul_pos_right this (by omega) |> fun h => h
  refine ⟨by rw [ed]; exact hb0, ?_, ?_, ?_, ?_⟩
  · rw [ed, hb]
    have := Int.mul_le_mul_of_nonneg_right (a := 1) (b := ((Int.gcd n d : Nat) : Int)) (c := b) (by omega) (by omega)
    rw [Int.one_mul] at this
    rw [← hb] at this ⊢
    omega
  · rw [en]
    have e : n.natAbs = Int.gcd n d * a.natAbs := by
      have := congrArg Int.natAbs ha
      rw [Int.natAbs_mul] at this
      simpa using this
    rw [e]
    exact Nat.le_mul_of_pos_left _ hg
  · exact Int.gcd_ediv_gcd_ediv_gcd hg
  · rw [en, ed]
    have e1 : a * d = a * (((Int.gcd n d : Nat) : Int) * b) := by rw [← hb]
    have e2 : n * b = (((Int.gcd n d : Nat) : Int) * a) * b := by rw [← ha]
    rw [e1, e2, ← Int.mul_assoc, Int.mul_comm a]
/-- Two quotients that are one ratio, told by products of the ratios they were made of. -/
theorem low_neg {n d : Int} (hd : 0 < d) : low (-n) d = ⟨0 - (low n d).num, (low n d).den⟩ := by
  have h1 : ((Int.gcd n d : Nat) : Int) ∣ n := Int.gcd_dvd_left ..
  unfold low
  rw [Int.neg_gcd, Int.neg_ediv_of_dvd h1, Int.zero_sub]
end Go.Proofs.Ab.Tone2
end
section
/- The law of the changes. -/
set_option maxRecDepth 100000
set_option linter.unusedVariables false
set_option linter.unusedSimpArgs false
namespace Go.Proofs.Ab.Tone2
open Go Go.RowKit Go.Proofs.Ab Go.Proofs.Ab.Tone
theorem eq_rsig {s t : Sg} (h : s = t) : EqAgg Tone.C 25 (sc s) (sc t) true := by
  subst h
  have h := eq_rsignal s.c.re s.c.im s.l.re s.l.im s.h.re s.h.im s.c.re s.c.im s.l.re s.l.im s.h.re s.h.im
  rw [decide_eq_true (by simp)] at h
  exact h
theorem eq_rsig0 {s : Sg} (h : s = S0) : EqAgg Tone.C 25 (sc s) [I 0, I 0, I 0, I 0, I 0, I 0] true := eq_rsig h
theorem first2_zero {a b : Int} (h : firstOf [a, b] = 0) : a = 0 ∧ b = 0 := by
  simp only [firstOf] at h
  by_cases ha : a = 0
  · rw [if_pos ha] at h
    by_cases hb : b = 0
    · exact ⟨ha, hb⟩
    · rw [if_neg hb] at h; exact absurd h hb
  · rw [if_neg ha] at h; exact absurd h ha
section
attribute [local irreducible] APure
set_option maxHeartbeats 4000000 in
theorem ToneChanges_parts {m : Int} (a b : Sg) (k : Int) (c d : G) (A T U : Sg) (eA eT eU one two three : Int)
    (cA : APure (C m) 26 [.agg (sc a), .agg (sc b)] (.tup [.agg (sc A), I eA]))
    (cT : APure (C m) 27 [.agg (sc a), I k] (.tup [.agg (sc T), I eT]))
    (cU : APure (C m) 28 [.agg (sc a), .agg (gc c), .agg (gc d)] (.tup [.agg (sc U), I eU]))
    (ca : APure (C m) 18 [.agg (sc a)] (I (checkE a))) (cb : APure (C m) 18 [.agg (sc b)] (I (checkE b)))
    (ck : APure (C m) 30 [I k] (I (within k 0 3))) (cf : APure (C m) 31 [.agg (gc c), .agg (gc d)] (I (firstOf [partE c.re c.im 1000, zeroE c, partE d.re d.im 1000])))
    (c1 : APure (C m) 29 [.seq 1 [[I (checkE a)], [I (checkE b)]]] (I one))
    (c2 : APure (C m) 29 [.seq 1 [[I (checkE a)], [I (within k 0 3)]]] (I two))
    (c3 : APure (C m) 29 [.seq 1 [[I (checkE a)], [I (firstOf [partE c.re c.im 1000, zeroE c, partE d.re d.im 1000])]]] (I three))
    (kA : one = 0 → APure (C m) 32 [.agg (sc a), .agg (sc b)] (.agg (sc (a.add b)))) (kT : two = 0 → APure (C m) 34 [.agg (sc a), I k] (.agg (sc (a.turn k.toNat))))
    (kU : three = 0 → APure (C m) 35 [.agg (sc a), .agg (gc c), .agg (gc d)] (.agg (sc (a.by c d))))
    (cm : ∀ s : Sg, APure (C m) 33 [.agg (sc s)] (I (madeE s)))
    (hA0 : one ≠ 0 → A = S0 ∧ eA = one) (hA1 : one = 0 → madeE (a.add b) ≠ 0 → A = S0 ∧ eA = madeE (a.add b)) (hA2 : one = 0 → madeE (a.add b) = 0 → A = a.add b ∧ eA = madeE (a.add b))
    (hT0 : two ≠ 0 → T = S0 ∧ eT = two) (hT1 : two = 0 → T = a.turn k.toNat ∧ eT = two)
    (hU0 : three ≠ 0 → U = S0 ∧ eU = three) (hU1 : three = 0 → madeE (a.by c d) ≠ 0 → U = S0 ∧ eU = madeE (a.by c d)) (hU2 : three = 0 → madeE (a.by c d) = 0 → U = a.by c d ∧ eU = madeE (a.by c d)) :
    APure (C m) 4 [.agg (sc a), .agg (sc b), .agg [I k, I c.re, I c.im, I d.re, I d.im]] (Bo true) := by
  refine APure.of_body good [] (fn := Tryz.f4) (by kernel_rfl) (by kernel_rfl) rfl rfl (by kernel_rfl) rfl (by kernel_rfl) ?_
  conv => whnf
  repeat' (first
    | (refine codeK_sound good (mu := []) ?_; conv => whnf)
    | ((first | rw [wl0] | rw [wl1] | rw [wl2] | rw [wl3] | rw [wl4] | rw [wl5]); conv => whnf)
    | (refine SBool.mk (fun _ => ?_) (fun h => absurd (of_decide_eq_true rfl) h); conv => whnf)
    | (refine SBool.mk (fun h => absurd h (of_decide_eq_false rfl)) (fun _ => ?_); conv => whnf)
    | (refine SBool.mk (fun h => ?_) (fun h => ?_) <;> conv => whnf)
    | (refine SEx.mk _ (by first | exact awake_pure | exact cA | exact cT | exact cU | exact ca | exact cb | exact ck | exact cf | exact c1 | exact c2 | exact c3 | exact kA (by assumption) | exact kT (by assumption) | exact kU (by assumption) | exact cm _ | exact eq_rsig (hA2 (by assumption) (by assumption)).1 | exact eq_rsig0 (hA0 (by assumption)).1 | exact eq_rsig0 (hA1 (by assumption) (by assumption)).1 | exact eq_rsig (hT1 (by assumption)).1 | exact eq_rsig0 (hT0 (by assumption)).1 | exact eq_rsig (hU2 (by assumption) (by assumption)).1 | exact eq_rsig0 (hU0 (by assumption)).1 | exact eq_rsig0 (hU1 (by assumption) (by assumption)).1) ?_; conv => whnf)
    | (refine SEx.mk _ (by first | exact rfl | exact ⟨of_decide_eq_true rfl, rfl⟩) ?_; conv => whnf)
    | (refine SAll.mk (fun _ => ?_); conv => whnf)
    | (refine SAnd.mk ⟨by intro c hc; simp at hc; first | (subst hc; rfl) | ((repeat' (rcases hc with rfl | hc)) <;> first | rfl | (subst hc; rfl)), by (simp; first | done | omega), by (simp; first | done | omega)⟩ ?_; conv => whnf)
    | (refine SAnd.mk (by first | exact rfl | kernel_rfl | omega | decide | exact awake_pure | exact cA | exact cT | exact cU | exact ca | exact cb | exact ck | exact cf | exact c1 | exact c2 | exact c3 | exact kA (by assumption) | exact kT (by assumption) | exact kU (by assumption) | exact cm _ | exact eq_rsig (hA2 (by assumption) (by assumption)).1 | exact eq_rsig0 (hA0 (by assumption)).1 | exact eq_rsig0 (hA1 (by assumption) (by assumption)).1 | exact eq_rsig (hT1 (by assumption)).1 | exact eq_rsig0 (hT0 (by assumption)).1 | exact eq_rsig (hU2 (by assumption) (by assumption)).1 | exact eq_rsig0 (hU0 (by assumption)).1 | exact eq_rsig0 (hU1 (by assumption) (by assumption)).1) ?_; conv => whnf)
    | fail)
  all_goals first
    | exact ⟨PLe.refl _⟩
    | exact absurd (hA0 (by assumption)).2 (by assumption)
    | exact absurd (hA1 (by assumption) (by assumption)).2 (by assumption)
    | exact absurd (hA2 (by assumption) (by assumption)).2 (by assumption)
    | exact absurd (hT0 (by assumption)).2 (by assumption)
    | exact absurd (hT1 (by assumption)).2 (by assumption)
    | exact absurd (hU0 (by assumption)).2 (by assumption)
    | exact absurd (hU1 (by assumption) (by assumption)).2 (by assumption)
    | exact absurd (hU2 (by assumption) (by assumption)).2 (by assumption)
end
theorem factE_eq (s : Sg) (c d : G) : firstOf [checkE s, firstOf [partE c.re c.im 1000, zeroE c, partE d.re d.im 1000]] = factE s c d := by
  unfold factE
  simp only [firstOf]
  by_cases h1 : checkE s = 0 <;> by_cases h2 : partE c.re c.im 1000 = 0 <;> by_cases h3 : zeroE c = 0 <;> by_cases h4 : partE d.re d.im 1000 = 0 <;> simp [h1, h2, h3, h4]
theorem ToneChanges_pure {m : Int} (a b : Sg) (k : Int) (c d : G) : APure (C m) 4 [.agg (sc a), .agg (sc b), .agg [I k, I c.re, I c.im, I d.re, I d.im]] (Bo true) := by
  refine ToneChanges_parts a b k c d (addedS a b) (turnedS a k) (scaledS a c d) (addedE a b) (turnE a k) (scaledE a c d) (firstOf [checkE a, checkE b]) (turnE a k) (factE a c d)
    (up (Added_pure a b)) (up (Turned_pure a k)) (up (Scaled_pure a c d)) (up (refCheckSignal_pure' a)) (up (refCheckSignal_pure' b)) (up (refTurnE_pure k)) (up (refFactors_pure c d))
    (up (refFirst2_pure _ _)) (up (refFirst2_pure _ _)) (factE_eq a c d ▸ up (refFirst2_pure _ _)) ?_ ?_ ?_ (fun s => up (refCheckSum_pure s)) ?_ ?_ ?_ ?_ ?_ ?_ ?_ ?_
  · intro h
    obtain ⟨h1, h2⟩ := first2_zero h
    exact up (refAdded_pure a b ((checkE_zero.1 h1).fit.mono (by decide)) ((checkE_zero.1 h2).fit.mono (by decide)))
  · intro h
    obtain ⟨h1, h2⟩ := first2_zero h
    exact up (refTurned_pure a k ((checkE_zero.1 h1).fit.mono (by decide)) (within_zero.1 h2))
  · intro h
    unfold factE at h
    rw [firstOf_zero, firstOf_zero, firstOf_zero, firstOf_zero] at h
    have hc := (partE_zero (by decide) (by decide)).1 h.2.1
    have hd := (partE_zero (by decide) (by decide)).1 h.2.2.2.1
    exact up (refScaled_pure a c d ((checkE_zero.1 h.1).fit.mono (by decide)) ⟨Nat.le_trans hc.1 (by decide), Nat.le_trans hc.2 (by decide)⟩ ⟨Nat.le_trans hd.1 (by decide), Nat.le_trans hd.2 (by decide)⟩)
  · intro h; unfold addedS addedE; rw [if_neg h, if_neg h]; exact ⟨rfl, rfl⟩
  · intro h h'; unfold addedS addedE madeS; rw [if_pos h, if_pos h, if_neg h']; exact ⟨rfl, rfl⟩
  · intro h h'; unfold addedS addedE madeS; rw [if_pos h, if_pos h, if_pos h']; exact ⟨rfl, rfl⟩
  · intro h; unfold turnedS; rw [if_neg h]; exact ⟨rfl, rfl⟩
  · intro h; unfold turnedS; rw [if_pos h]; exact ⟨rfl, rfl⟩
  · intro h; unfold scaledS scaledE; rw [if_neg h, if_neg h]; exact ⟨rfl, rfl⟩
  · intro h h'; unfold scaledS scaledE madeS; rw [if_pos h, if_pos h, if_neg h']; exact ⟨rfl, rfl⟩
  · intro h h'; unfold scaledS scaledE madeS; rw [if_pos h, if_pos h, if_pos h']; exact ⟨rfl, rfl⟩
end Go.Proofs.Ab.Tone2
end
section
/- The law of the captures. -/
set_option maxRecDepth 100000
set_option linter.unusedVariables false
set_option linter.unusedSimpArgs false
namespace Go.Proofs.Ab.Tone2
open Go Go.RowKit Go.Proofs.Ab Go.Proofs.Ab.Tone

theorem eq_ratio_of {x y : R} (h : x = y) : EqAgg Tone.C 28 (rc x) (rc y) true := by
  subst h
  exact eq_ratio_self _ _
section
attribute [local irreducible] APure
set_option maxHeartbeats 4000000 in
theorem ToneCaptures_pure {m : Int} (a b : Sg) (band : Int) : APure (C m) 6 [.agg (sc a), .agg (sc b), I band] (Bo true) := by
  have c47 := up (m := m) (Captured_pure a b band)
  have c48 := up (m := m) (Mixed_pure a b band)
  have c49 := up (m := m) (refTwo_pure a b band)
  by_cases h0 : twoE a b band = 0
  · have hz := twoE_zero.1 h0
    have c50 := up (m := m) (refCaptured_pure a b band hz.1 hz.2.1 ⟨by have := hz.2.2.1; omega, hz.2.2.2⟩)
    have c51 := up (m := m) (refMixed_pure a b band hz.1 hz.2.1 ⟨by have := hz.2.2.1; omega, hz.2.2.2⟩)
    rw [if_pos h0, h0] at c47
    rw [if_pos h0, h0] at c48
    rw [h0] at c49
    refine APure.of_body good [] (fn := Tryz.f6) (by kernel_rfl) (by kernel_rfl) rfl rfl (by kernel_rfl) rfl (by kernel_rfl) ?_
    conv => whnf
    repeat' (first
      | (refine codeK_sound good (mu := []) ?_; conv => whnf)
      | ((first | rw [wl0] | rw [wl1] | rw [wl2] | rw [wl3] | rw [wl4] | rw [wl5]); conv => whnf)
      | (refine SBool.mk (fun _ => ?_) (fun h => absurd (of_decide_eq_true rfl) h); conv => whnf)
      | (refine SBool.mk (fun h => absurd h (of_decide_eq_false rfl)) (fun _ => ?_); conv => whnf)
      | (refine SBool.mk (fun h => ?_) (fun h => ?_) <;> conv => whnf)
      | (refine SEx.mk _ (by first | exact awake_pure | exact c47 | exact c48 | exact c49 | exact c50 | exact c51 | exact eq_ratio_self _ _) ?_; conv => whnf)
      | (refine SEx.mk _ (by first | exact rfl | exact ⟨of_decide_eq_true rfl, rfl⟩) ?_; conv => whnf)
      | (refine SAll.mk (fun _ => ?_); conv => whnf)
      | (refine SAnd.mk ⟨by intro c hc; simp at hc; first | (subst hc; rfl) | ((repeat' (rcases hc with rfl | hc)) <;> first | rfl | (subst hc; rfl)), by (simp; first | done | omega), by (simp; first | done | omega)⟩ ?_; conv => whnf)
      | (refine SAnd.mk (by first | exact rfl | kernel_rfl | omega | decide | exact awake_pure | exact c47 | exact c48 | exact c49 | exact c50 | exact c51 | exact eq_ratio_self _ _) ?_; conv => whnf)
      | fail)
    all_goals first | exact ⟨PLe.refl _⟩ | exact absurd rfl (by assumption)
  · rw [if_neg h0] at c47
    rw [if_neg h0] at c48
    refine APure.of_body good [] (fn := Tryz.f6) (by kernel_rfl) (by kernel_rfl) rfl rfl (by kernel_rfl) rfl (by kernel_rfl) ?_
    conv => whnf
    repeat' (first
      | (refine codeK_sound good (mu := []) ?_; conv => whnf)
      | ((first | rw [wl0] | rw [wl1] | rw [wl2] | rw [wl3] | rw [wl4] | rw [wl5]); conv => whnf)
      | (refine SBool.mk (fun _ => ?_) (fun h => absurd (of_decide_eq_true rfl) h); conv => whnf)
      | (refine SBool.mk (fun h => absurd h (of_decide_eq_false rfl)) (fun _ => ?_); conv => whnf)
      | (refine SBool.mk (fun h => ?_) (fun h => ?_) <;> conv => whnf)
      | (refine SEx.mk _ (by first | exact awake_pure | exact c47 | exact c48 | exact c49 | exact eq_ratio_self _ _) ?_; conv => whnf)
      | (refine SEx.mk _ (by first | exact rfl | exact ⟨of_decide_eq_true rfl, rfl⟩) ?_; conv => whnf)
      | (refine SAll.mk (fun _ => ?_); conv => whnf)
      | (refine SAnd.mk ⟨by intro c hc; simp at hc; first | (subst hc; rfl) | ((repeat' (rcases hc with rfl | hc)) <;> first | rfl | (subst hc; rfl)), by (simp; first | done | omega), by (simp; first | done | omega)⟩ ?_; conv => whnf)
      | (refine SAnd.mk (by first | exact rfl | kernel_rfl | omega | decide | exact awake_pure | exact c47 | exact c48 | exact c49 | exact eq_ratio_self _ _) ?_; conv => whnf)
      | fail)
    all_goals first | exact ⟨PLe.refl _⟩ | exact absurd (by assumption) h0 | exact absurd rfl (by assumption)
end
end Go.Proofs.Ab.Tone2
end
section
/- The law of the intervals. -/
set_option maxRecDepth 100000
set_option linter.unusedVariables false
set_option linter.unusedSimpArgs false
namespace Go.Proofs.Ab.Tone2
open Go Go.RowKit Go.Proofs.Ab Go.Proofs.Ab.Tone

theorem eq_iv {x y : Iv} (h : x = y) : EqAgg Tone.C 55 (ic x) (ic y) true := by
  subst h
  have h := eq_interval x.lo x.hi x.lo x.hi
  rw [decide_eq_true (by simp)] at h
  exact h
theorem eq_iv0 {x : Iv} (h : x = ⟨0, 0⟩) : EqAgg Tone.C 55 (ic x) [I 0, I 0] true := eq_iv h
section
attribute [local irreducible] APure
set_option maxHeartbeats 4000000 in
theorem ToneIntervals_parts {m : Int} (r : Rx) (s : Sg) (lo hi n : Int) (L N : Iv) (eL eN bad cl : Int)
    (cL : APure (C m) 52 [.agg (xc r), .agg (sc s), .agg [I lo, I hi]] (.tup [.agg (ic L), I eL]))
    (cN : APure (C m) 53 [.agg (xc r), .agg (sc s), I n] (.tup [.agg (ic N), I eN]))
    (cr : APure (C m) 37 [.agg (xc r)] (I (rxE r))) (cs : APure (C m) 18 [.agg (sc s)] (I (checkE s)))
    (c1 : APure (C m) 29 [.seq 1 [[I (rxE r)], [I (checkE s)]]] (I bad))
    (cl' : APure (C m) 54 [.agg [I lo, I hi]] (I cl)) (cn : APure (C m) 55 [I n, I 0, I 1000] (I (within n 0 1000)))
    (c2 : APure (C m) 29 [.seq 1 [[I bad], [I cl]]] (I eL)) (c3 : APure (C m) 29 [.seq 1 [[I bad], [I (within n 0 1000)]]] (I eN))
    (kL : eL = 0 → APure (C m) 56 [.agg (xc r), .agg (sc s), .agg [I lo, I hi]] (.agg (ic L)))
    (kN : eN = 0 → APure (C m) 57 [.agg (xc r), .agg (sc s), I n] (.agg (ic N)))
    (hL : eL ≠ 0 → L = ⟨0, 0⟩) (hN : eN ≠ 0 → N = ⟨0, 0⟩) :
    APure (C m) 7 [.agg (xc r), .agg (sc s), .agg [I lo, I hi, I n]] (Bo true) := by
  refine APure.of_body good [] (fn := Tryz.f7) (by kernel_rfl) (by kernel_rfl) rfl rfl (by kernel_rfl) rfl (by kernel_rfl) ?_
  conv => whnf
  repeat' (first
    | (refine codeK_sound good (mu := []) ?_; conv => whnf)
    | ((first | rw [wl0] | rw [wl1] | rw [wl2] | rw [wl3] | rw [wl4] | rw [wl5]); conv => whnf)
    | (refine SBool.mk (fun _ => ?_) (fun h => absurd (of_decide_eq_true rfl) h); conv => whnf)
    | (refine SBool.mk (fun h => absurd h (of_decide_eq_false rfl)) (fun _ => ?_); conv => whnf)
    | (refine SBool.mk (fun h => ?_) (fun h => ?_) <;> conv => whnf)
    | (refine SEx.mk _ (by first | exact awake_pure | exact cL | exact cN | exact cr | exact cs | exact c1 | exact cl' | exact cn | exact c2 | exact c3 | exact kL (by assumption) | exact kN (by assumption) | exact eq_iv0 (hL (by assumption)) | exact eq_iv0 (hN (by assumption)) | exact eq_iv rfl) ?_; conv => whnf)
    | (refine SEx.mk _ (by first | exact rfl | exact ⟨of_decide_eq_true rfl, rfl⟩) ?_; conv => whnf)
    | (refine SAll.mk (fun _ => ?_); conv => whnf)
    | (refine SAnd.mk ⟨by intro c hc; simp at hc; first | (subst hc; rfl) | ((repeat' (rcases hc with rfl | hc)) <;> first | rfl | (subst hc; rfl)), by (simp; first | done | omega), by (simp; first | done | omega)⟩ ?_; conv => whnf)
    | (refine SAnd.mk (by first | exact rfl | kernel_rfl | omega | decide | exact awake_pure | exact cL | exact cN | exact cr | exact cs | exact c1 | exact cl' | exact cn | exact c2 | exact c3 | exact kL (by assumption) | exact kN (by assumption) | exact eq_iv0 (hL (by assumption)) | exact eq_iv0 (hN (by assumption)) | exact eq_iv rfl) ?_; conv => whnf)
    | fail)
  all_goals first | exact ⟨PLe.refl _⟩ | exact absurd rfl (by assumption)
end
theorem lostE_eq (r : Rx) (s : Sg) (lo hi : Int) : firstOf [firstOf [rxE r, checkE s], firstOf [within lo 0 1000, within hi 0 1000, ordE lo hi]] = lostE r s lo hi := by
  unfold lostE
  generalize rxE r = a
  generalize checkE s = b
  generalize within lo 0 1000 = c
  generalize within hi 0 1000 = d
  generalize ordE lo hi = e
  simp only [firstOf]
  by_cases h1 : a = 0 <;> by_cases h2 : b = 0 <;> by_cases h3 : c = 0 <;> by_cases h4 : d = 0 <;> by_cases h5 : e = 0 <;> simp [h1, h2, h3, h4, h5]
theorem noisyE_eq (r : Rx) (s : Sg) (n : Int) : firstOf [firstOf [rxE r, checkE s], within n 0 1000] = noisyE r s n := by
  unfold noisyE
  generalize rxE r = a
  generalize checkE s = b
  generalize within n 0 1000 = c
  simp only [firstOf]
  by_cases h1 : a = 0 <;> by_cases h2 : b = 0 <;> by_cases h3 : c = 0 <;> simp [h1, h2, h3]
theorem shownI_mono {r : Rx} (hr : RxOk r) {x y d : Int} (hd : 0 < d) (h : x ≤ y) : shownI r x d ≤ shownI r y d := by
  have h1 := hr.s
  have e : (2 * x * r.scale + d) / (2 * d) ≤ (2 * y * r.scale + d) / (2 * d) := by
    refine Int.ediv_le_ediv (by omega) ?_
    have := Int.mul_le_mul_of_nonneg_right (c := r.scale) (show 2 * x ≤ 2 * y by omega) (by omega)
    omega
  unfold shownI
  omega
theorem ToneIntervals_pure {m : Int} (r : Rx) (s : Sg) (lo hi n : Int) : APure (C m) 7 [.agg (xc r), .agg (sc s), .agg [I lo, I hi, I n]] (Bo true) := by
  refine ToneIntervals_parts r s lo hi n (lostV r s lo hi) (noisyV r s n) (lostE r s lo hi) (noisyE r s n) (firstOf [rxE r, checkE s]) (firstOf [within lo 0 1000, within hi 0 1000, ordE lo hi])
    (up (Lost_pure r s lo hi)) (up (Noisy_pure r s n)) (up (refReceiver_pure' r)) (up (refCheckSignal_pure' s)) (up (refFirst2_pure _ _)) (up (refLoss_pure lo hi)) (up (refRange_pure n 0 1000))
    (lostE_eq r s lo hi ▸ up (refFirst2_pure _ _)) (noisyE_eq r s n ▸ up (refFirst2_pure _ _)) ?_ ?_ ?_ ?_
  · intro h
    have hz := lostE_zero.1 h
    unfold lostV
    rw [if_pos h]
    exact up (refLost_pure r s lo hi hz.1 hz.2.1 hz.2.2.1 hz.2.2.2.1)
  · intro h
    have hz := noisyE_zero.1 h
    have hb : 0 ≤ byI s n := by
      unfold byI absI
      have e1 : 0 ≤ max s.c.re (0 - s.c.re) + max s.c.im (0 - s.c.im) := by omega
      exact Int.mul_nonneg (by omega) e1
    have hm := shownI_mono hz.1 (x := dif s - byI s n) (y := dif s + byI s n) hz.2.1.sq_pos (by omega)
    unfold noisyV
    rw [if_pos h, Int.min_eq_left hm, Int.max_eq_right hm]
    exact up (refNoisy_pure r s n hz.1 hz.2.1 hz.2.2)
  · intro h; unfold lostV; rw [if_neg h]
  · intro h; unfold noisyV; rw [if_neg h]
end Go.Proofs.Ab.Tone2
end
section
/- The law of the factors: the walk. -/
set_option maxRecDepth 100000
set_option linter.unusedVariables false
set_option linter.unusedSimpArgs false
namespace Go.Proofs.Ab.Tone2
open Go Go.RowKit Go.Proofs.Ab Go.Proofs.Ab.Tone
theorem eq_sig {s t : Sg} (h : s = t) : EqAgg Tone.C 32 (sc s) (sc t) true := by
  subst h
  have h := eq_signal s.c.re s.c.im s.l.re s.l.im s.h.re s.h.im s.c.re s.c.im s.l.re s.l.im s.h.re s.h.im
  rw [decide_eq_true (by simp)] at h
  exact h
section
attribute [local irreducible] APure
set_option maxHeartbeats 40000000 in
theorem ToneFactors_parts {m : Int} (s : Sg) (x0 x1 : G) (n0 n1 n2 by' : Int) (f : G) (N L H T A B Z Cc D : R) (t s1 s2 s3 u w : Sg)
    (hf0 : n0.tmod 16 = f.re) (hf1 : n1.tmod 16 = f.im) (hby : n2.tmod 21 = by')
    (q0 : wrapK IntKind.i64 n0 = n0) (q1 : wrapK IntKind.i64 n1 = n1) (q2 : wrapK IntKind.i64 n2 = n2)
    (c69 : APure (C m) 69 [.agg (sc s), I 300] (Bo true)) (c69' : APure (C m) 69 [.agg (sc ⟨s.c, x0, x1⟩), I 300] (Bo true))
    (c16 : APure (C m) 16 [.agg (sc s)] (.tup [.agg (rc N), I 0])) (c15 : APure (C m) 15 [.agg (sc s)] (.tup [.agg (rc L), .agg (rc H), I 0])) (c17 : APure (C m) 17 [.agg (sc s)] (.tup [.agg (rc T), I 0]))
    (r1 : APure (C m) 71 [.agg (rc N)] (Bo true)) (r2 : APure (C m) 71 [.agg (rc L)] (Bo true)) (r3 : APure (C m) 71 [.agg (rc H)] (Bo true)) (r4 : APure (C m) 71 [.agg (rc T)] (Bo true)) (r5 : APure (C m) 71 [.agg (rc Cc)] (Bo true))
    (k28 : ¬ decide (f.re = 0 ∧ f.im = 0) = true → APure (C m) 28 [.agg (sc s), .agg (gc f), .agg (gc f)] (.tup [.agg (sc t), I 0]))
    (k16 : ¬ decide (f.re = 0 ∧ f.im = 0) = true → APure (C m) 16 [.agg (sc t)] (.tup [.agg (rc N), I 0])) (k15 : ¬ decide (f.re = 0 ∧ f.im = 0) = true → APure (C m) 15 [.agg (sc t)] (.tup [.agg (rc L), .agg (rc H), I 0])) (k17 : ¬ decide (f.re = 0 ∧ f.im = 0) = true → APure (C m) 17 [.agg (sc t)] (.tup [.agg (rc T), I 0]))
    (t0 : APure (C m) 27 [.agg (sc s), I 1] (.tup [.agg (sc s1), I 0])) (t1 : APure (C m) 27 [.agg (sc s1), I 1] (.tup [.agg (sc s2), I 0])) (t2 : APure (C m) 27 [.agg (sc s2), I 1] (.tup [.agg (sc s3), I 0])) (t3 : APure (C m) 27 [.agg (sc s3), I 1] (.tup [.agg (sc s), I 0]))
    (c16a : APure (C m) 16 [.agg (sc s1)] (.tup [.agg (rc N), I 0])) (c16b : APure (C m) 16 [.agg (sc s2)] (.tup [.agg (rc N), I 0])) (c16c : APure (C m) 16 [.agg (sc s3)] (.tup [.agg (rc N), I 0]))
    (c28 : APure (C m) 28 [.agg (sc s), .agg [I 1, I 0], .agg [I by', I 0]] (.tup [.agg (sc u), I 0])) (c16u : APure (C m) 16 [.agg (sc u)] (.tup [.agg (rc A), I 0]))
    (c16h : APure (C m) 16 [.agg (sc ⟨s.c, s.h, s.l⟩)] (.tup [.agg (rc B), I 0])) (hB : B = ⟨0 - N.num, N.den⟩)
    (l1 : APure (C m) 20 [I (by' * N.num), I N.den] (.agg (rc A))) (l2 : APure (C m) 20 [I (T.num * N.den + N.num * T.den), I (T.den * N.den)] (.agg (rc Z))) (l3 : APure (C m) 20 [I (2 * L.num), I L.den] (.agg (rc Z)))
    (c16o : APure (C m) 16 [.agg (sc ⟨s.c, x0, x1⟩)] (.tup [.agg (rc Cc), I 0])) (c26 : APure (C m) 26 [.agg (sc s), .agg (sc ⟨s.c, x0, x1⟩)] (.tup [.agg (sc w), I 0])) (c16w : APure (C m) 16 [.agg (sc w)] (.tup [.agg (rc D), I 0]))
    (l4 : APure (C m) 20 [I (N.num * Cc.den + Cc.num * N.den), I (2 * N.den * Cc.den)] (.agg (rc D)))
    (w1 : wrapK IntKind.i64 (by' * N.num) = by' * N.num) (w2 : wrapK IntKind.i64 (0 - N.num) = 0 - N.num) (w3 : wrapK IntKind.i64 (T.num * N.den) = T.num * N.den) (w4 : wrapK IntKind.i64 (N.num * T.den) = N.num * T.den)
    (w5 : wrapK IntKind.i64 (T.num * N.den + N.num * T.den) = T.num * N.den + N.num * T.den) (w6 : wrapK IntKind.i64 (T.den * N.den) = T.den * N.den) (w7 : wrapK IntKind.i64 (2 * L.num) = 2 * L.num)
    (w8 : wrapK IntKind.i64 (N.num * Cc.den) = N.num * Cc.den) (w9 : wrapK IntKind.i64 (Cc.num * N.den) = Cc.num * N.den) (w10 : wrapK IntKind.i64 (N.num * Cc.den + Cc.num * N.den) = N.num * Cc.den + Cc.num * N.den)
    (w11 : wrapK IntKind.i64 (2 * N.den) = 2 * N.den) (w12 : wrapK IntKind.i64 (2 * N.den * Cc.den) = 2 * N.den * Cc.den) :
    APure (C m) 10 [.agg (sc s), .agg [I x0.re, I x0.im, I x1.re, I x1.im], .agg [.v (.int .i8 n0), .v (.int .i8 n1), .v (.int .i8 n2)]] (Bo true) := by
  have eB : EqAgg Tone.C 28 (rc B) [I (0 - N.num), I N.den] true := by
    rw [hB]
    exact eq_ratio_self _ _
  refine APure.of_body good [26] (fn := Tryz.f10) (by kernel_rfl) (by kernel_rfl) rfl rfl (by kernel_rfl) rfl (by kernel_rfl) ?_
  conv => whnf
  repeat' (first
    | (refine codeK_sound good (mu := [26]) ?_; conv => whnf)
    | ((first | rw [wl0] | rw [wl1] | rw [wl2] | rw [wl3] | rw [wl4] | rw [wl5]); conv => whnf)
    | (rw [w12]; conv => whnf)
    | (rw [w11]; conv => whnf)
    | (rw [w10]; conv => whnf)
    | (rw [w9]; conv => whnf)
    | (rw [w8]; conv => whnf)
    | (rw [w7]; conv => whnf)
    | (rw [w6]; conv => whnf)
    | (rw [w5]; conv => whnf)
    | (rw [w4]; conv => whnf)
    | (rw [w3]; conv => whnf)
    | (rw [w2]; conv => whnf)
    | (rw [w1]; conv => whnf)
    | (rw [hby]; conv => whnf)
    | (rw [hf1]; conv => whnf)
    | (rw [hf0]; conv => whnf)
    | (rw [q2]; conv => whnf)
    | (rw [q1]; conv => whnf)
    | (rw [q0]; conv => whnf)
    | (refine SBool.mk (fun _ => ?_) (fun h => absurd (of_decide_eq_true rfl) h); conv => whnf)
    | (refine SBool.mk (fun h => absurd h (of_decide_eq_false rfl)) (fun _ => ?_); conv => whnf)
    | (refine SBool.mk (fun h => ?_) (fun h => ?_) <;> conv => whnf)
    | refine SCode.mk (AWp.rounds 5 ?_)
    | (refine SEx.mk _ (by first | exact awake_pure | exact c69 | exact c69' | exact at_pure _ _ | exact ratio_pure _ _ | exact c16 | exact c15 | exact c17 | exact r1 | exact r2 | exact r3 | exact r4 | exact r5 | exact k28 (by assumption) | exact k16 (by assumption) | exact k15 (by assumption) | exact k17 (by assumption) | exact t0 | exact t1 | exact t2 | exact t3 | exact c16a | exact c16b | exact c16c | exact c28 | exact c16u | exact c16h | exact l1 | exact l2 | exact l3 | exact l4 | exact c16o | exact c26 | exact c16w | exact eB | exact eq_ratio_self _ _ | exact eq_sig rfl | exact eq_gauss _ _ _ _) ?_; conv => whnf)
    | (refine SEx.mk _ (by first | exact rfl | exact ⟨of_decide_eq_true rfl, rfl⟩) ?_; conv => whnf)
    | (refine SAll.mk (fun _ => ?_); conv => whnf)
    | (refine SAnd.mk ⟨by intro c hc; simp at hc; first | (subst hc; rfl) | ((repeat' (rcases hc with rfl | hc)) <;> first | rfl | (subst hc; rfl)), by (simp; first | done | omega), by (simp; first | done | omega)⟩ ?_; conv => whnf)
    | (refine SAnd.mk (by first | exact rfl | kernel_rfl | omega | decide | exact awake_pure | exact c69 | exact c69' | exact at_pure _ _ | exact ratio_pure _ _ | exact c16 | exact c15 | exact c17 | exact r1 | exact r2 | exact r3 | exact r4 | exact r5 | exact k28 (by assumption) | exact k16 (by assumption) | exact k15 (by assumption) | exact k17 (by assumption) | exact t0 | exact t1 | exact t2 | exact t3 | exact c16a | exact c16b | exact c16c | exact c28 | exact c16u | exact c16h | exact l1 | exact l2 | exact l3 | exact l4 | exact c16o | exact c26 | exact c16w | exact eB | exact eq_ratio_self _ _ | exact eq_sig rfl | exact eq_gauss _ _ _ _) ?_; conv => whnf)
    | fail)
  all_goals first | exact ⟨PLe.refl _⟩ | exact absurd rfl (by assumption)
end
end Go.Proofs.Ab.Tone2
end
section
/- The law of the factors: the plain laws, and the law. -/
set_option maxRecDepth 100000
set_option linter.unusedVariables false
set_option linter.unusedSimpArgs false
namespace Go.Proofs.Ab.Tone2
open Go Go.RowKit Go.Proofs.Ab Go.Proofs.Ab.Tone
theorem needle_ok {m : Int} {s : Sg} (h : checkE s = 0) : APure (C m) 16 [.agg (sc s)] (.tup [.agg (rc (low (dif s) (sq s.c))), I 0]) := by
  have h1 := up (m := m) (Needle_pure s)
  unfold needleR at h1
  rwa [if_pos h, h] at h1
theorem depths_ok {m : Int} {s : Sg} (h : checkE s = 0) : APure (C m) 15 [.agg (sc s)] (.tup [.agg (rc (low (aga s s.l) (sq s.c))), .agg (rc (low (aga s s.h) (sq s.c))), I 0]) := by
  have h1 := up (m := m) (Depths_pure s)
  unfold depthL depthH at h1
  rwa [if_pos h, if_pos h, h] at h1
theorem sum_ok {m : Int} {s : Sg} (h : checkE s = 0) : APure (C m) 17 [.agg (sc s)] (.tup [.agg (rc (low (tot s) (sq s.c))), I 0]) := by
  have h1 := up (m := m) (Sum_pure s)
  unfold sumR at h1
  rwa [if_pos h, h] at h1
theorem added_ok {m : Int} {a b : Sg} (ha : checkE a = 0) (hb : checkE b = 0) (h : Ok (a.add b)) : APure (C m) 26 [.agg (sc a), .agg (sc b)] (.tup [.agg (sc (a.add b)), I 0]) := by
  have h1 := up (m := m) (Added_pure a b)
  have h2 : firstOf [checkE a, checkE b] = 0 := by rw [ha, hb]; rfl
  have h3 := madeE_zero.2 h
  unfold addedS addedE madeS at h1
  rwa [if_pos h2, if_pos h2, if_pos h3, h3] at h1
theorem scaled_ok {m : Int} {s : Sg} {c d : G} (hs : checkE s = 0) (hc : c.Fit 1000) (hz : ¬ (c.re = 0 ∧ c.im = 0)) (hd : d.Fit 1000) (h : Ok (s.by c d)) : APure (C m) 28 [.agg (sc s), .agg (gc c), .agg (gc d)] (.tup [.agg (sc (s.by c d)), I 0]) := by
  have h1 := up (m := m) (Scaled_pure s c d)
  have h2 : factE s c d = 0 := by
    unfold factE
    rw [hs, (partE_zero (by decide) (by decide)).2 ⟨hc.re, hc.im⟩, zeroE_zero.2 hz, (partE_zero (by decide) (by decide)).2 ⟨hd.re, hd.im⟩]
    rfl
  have h3 := madeE_zero.2 h
  unfold scaledS scaledE madeS at h1
  rwa [if_pos h2, if_pos h2, if_pos h3, h3] at h1
theorem turned_ok {m : Int} {s : Sg} {k : Int} (hs : checkE s = 0) (h0 : 0 ≤ k) (h1 : k ≤ 3) : APure (C m) 27 [.agg (sc s), I k] (.tup [.agg (sc (s.turn k.toNat)), I 0]) := by
  have h2 := up (m := m) (Turned_pure s k)
  have h3 : turnE s k = 0 := by
    unfold turnE
    rw [hs, within_zero.2 ⟨h0, h1⟩]
    rfl
  unfold turnedS at h2
  rwa [if_pos h3, h3] at h2
theorem mulb {x y : Int} {a b : Nat} (hx : x.natAbs ≤ a) (hy : y.natAbs ≤ b) : (x * y).natAbs ≤ a * b := by
  rw [Int.natAbs_mul]
  exact Nat.mul_le_mul hx hy
theorem mulw {x y : Int} (hx : x.natAbs ≤ 1000000) (hy : y.natAbs ≤ 1000000) : (x * y).natAbs ≤ 1000000000000 := mulb hx hy
theorem near1_fit {a : G} {n : Int} (h : near1 a n) (h0 : 0 ≤ n) : a.Fit n.toNat := ⟨by have := h.1; omega, by have := h.2; omega⟩
/-- The quarter turn, written out. -/
theorem turn1 (a : G) : turnN a 1 = ⟨0 - a.im, a.re⟩ := by
  simp only [turnN, G.mul, G.mk.injEq]
  omega
theorem sgTurn1 (s : Sg) : s.turn 1 = ⟨⟨0 - s.c.im, s.c.re⟩, ⟨0 - s.l.im, s.l.re⟩, ⟨0 - s.h.im, s.h.re⟩⟩ := by
  unfold Sg.turn
  rw [turn1, turn1, turn1]
theorem turn_dif (s : Sg) : dif (s.turn 1) = dif s := by
  rw [sgTurn1]
  simp only [dif, aga, G.sub]
  grind
theorem turn_sq (s : Sg) : sq (s.turn 1).c = sq s.c := by
  rw [sgTurn1]
  simp only [sq]
  grind
theorem turn4 (s : Sg) : (((s.turn 1).turn 1).turn 1).turn 1 = s := by
  simp only [sgTurn1]
  obtain ⟨⟨a, b⟩, ⟨c, d⟩, ⟨e, f⟩⟩ := s
  simp
theorem turn_near {s : Sg} {n : Int} (h : near1 s.c n ∧ near1 s.l n ∧ near1 s.h n) : near1 (s.turn 1).c n ∧ near1 (s.turn 1).l n ∧ near1 (s.turn 1).h n := by
  rw [sgTurn1]
  unfold near1 at *
  simp only
  omega
theorem ok_of {s : Sg} {n : Int} (h : near1 s.c n ∧ near1 s.l n ∧ near1 s.h n) (h0 : 0 ≤ n) (hn : n ≤ 10000) (hz : 0 < sq s.c) : Ok s := by
  have f : ∀ a : G, near1 a n → a.Fit 10000 := fun a ha => ⟨by have := ha.1; omega, by have := ha.2; omega⟩
  refine ⟨⟨f _ h.1, f _ h.2.1, f _ h.2.2⟩, fun e => ?_⟩
  unfold sq at hz
  rw [e.1, e.2] at hz
  simp at hz
theorem by_dif (s : Sg) (f : G) : dif (s.by f f) = sq f * dif s := by
  simp only [Sg.by, dif, aga, G.sub, G.mul, sq]; grind
theorem by_tot (s : Sg) (f : G) : tot (s.by f f) = sq f * tot s := by
  simp only [Sg.by, tot, aga, G.add, G.mul, sq]; grind
theorem by_low (s : Sg) (f : G) : aga (s.by f f) (s.by f f).l = sq f * aga s s.l := by
  simp only [Sg.by, aga, G.mul, sq]; grind
theorem by_high (s : Sg) (f : G) : aga (s.by f f) (s.by f f).h = sq f * aga s s.h := by
  simp only [Sg.by, aga, G.mul, sq]; grind
theorem by_sq (s : Sg) (f : G) : sq (s.by f f).c = sq f * sq s.c := by
  simp only [Sg.by, G.mul, sq]; grind
theorem sq_pos_of {a : G} (h : ¬ (a.re = 0 ∧ a.im = 0)) : 0 < sq a := by
  unfold sq
  have e1 := sq_nonneg a.re
  have e2 := sq_nonneg a.im
  by_cases h1 : a.re = 0
  · have h2 : a.im ≠ 0 := fun e => h ⟨h1, e⟩
    have : 0 < a.im * a.im := by
      rcases Int.lt_or_gt_of_ne h2 with h | h
      · exact Int.mul_pos_of_neg_of_neg h h
      · exact Int.mul_pos h h
    omega
  · have : 0 < a.re * a.re := by
      rcases Int.lt_or_gt_of_ne h1 with h | h
      · exact Int.mul_pos_of_neg_of_neg h h
      · exact Int.mul_pos h h
    omega
theorem mul_near {a b : G} {m n : Nat} (ha : a.Fit m) (hb : b.Fit n) : near1 (a.mul b) ((2 * (m * n) : Nat) : Int) := by
  have e1 := mulb ha.re hb.re
  have e2 := mulb ha.im hb.im
  have e3 := mulb ha.re hb.im
  have e4 := mulb ha.im hb.re
  unfold near1 G.mul
  simp only
  omega
theorem agab {s : Sg} {a : G} {m n : Nat} (hc : s.c.Fit m) (ha : a.Fit n) : (aga s a).natAbs ≤ 2 * (n * m) := by
  have e1 := mulb ha.re hc.re
  have e2 := mulb ha.im hc.im
  unfold aga
  omega
theorem sqb {a : G} {m : Nat} (h : a.Fit m) : (sq a).natAbs ≤ 2 * (m * m) := by
  have e1 := mulb h.re h.re
  have e2 := mulb h.im h.im
  unfold sq
  omega
theorem tmod_b (x : Int) {k : Int} (hk : 0 < k) : -k < x.tmod k ∧ x.tmod k < k := by
  have h1 := Int.tmod_lt_of_pos x hk
  have h2 : -k < x.tmod k := by
    have := Int.lt_tmod_of_pos x hk
    omega
  exact ⟨h2, h1⟩
theorem low_b {n d : Int} (hd : 0 < d) (hn : n.natAbs ≤ 1000000) (hd2 : d ≤ 1000000) : (low n d).num.natAbs ≤ 1000000 ∧ (0 < (low n d).den ∧ (low n d).den ≤ 1000000) ∧ Int.gcd (low n d).num (low n d).den = 1 ∧ (low n d).num * d = n * (low n d).den := by
  have h := isLow (n := n) hd
  exact ⟨Nat.le_trans h.num hn, ⟨h.den, by have := h.le; omega⟩, h.gcd, h.eq⟩
theorem alg1 {tn td nn nd t d a q : Int} (a1 : tn * q = t * td) (a2 : nn * q = d * nd) (e : t + d = 2 * a) : (tn * nd + nn * td) * q = 2 * a * (td * nd) := by grind
theorem alg2 {nn nd cn cd q d o : Int} (a1 : nn * q = d * nd) (a2 : cn * q = o * cd) : (nn * cd + cn * nd) * (4 * q) = 2 * (d + o) * (2 * nd * cd) := by grind
theorem ToneFactors_near {m : Int} (s : Sg) (x0 x1 : G) (n0 n1 n2 : Int) (h0 : -128 ≤ n0 ∧ n0 ≤ 127) (h1 : -128 ≤ n1 ∧ n1 ≤ 127) (h2 : -128 ≤ n2 ∧ n2 ≤ 127)
    (hs : nearP s 300) (ho : nearP ⟨s.c, x0, x1⟩ 300) :
    APure (C m) 10 [.agg (sc s), .agg [I x0.re, I x0.im, I x1.re, I x1.im], .agg [.v (.int .i8 n0), .v (.int .i8 n1), .v (.int .i8 n2)]] (Bo true) := by
  have hv := checkE_zero.1 hs.1
  have hvo := checkE_zero.1 ho.1
  have hq := hv.sq_pos
  have fc := near1_fit hs.2.1 (by decide); have fl := near1_fit hs.2.2.1 (by decide); have fh := near1_fit hs.2.2.2 (by decide)
  have g0 := near1_fit ho.2.2.1 (by decide); have g1 := near1_fit ho.2.2.2 (by decide)
  have hqb := sqb fc
  have bL := agab fc fl; have bH := agab fc fh
  have b0 := agab (s := ⟨s.c, x0, x1⟩) fc g0; have b1 := agab (s := ⟨s.c, x0, x1⟩) fc g1
  simp only [Int.reduceToNat] at hqb bL bH b0 b1
  have eD : dif s = aga s s.l - aga s s.h := by simp only [dif, aga, G.sub]; grind
  have eT : tot s = aga s s.l + aga s s.h := by simp only [tot, aga, G.add]; grind
  have eO : dif ⟨s.c, x0, x1⟩ = aga ⟨s.c, x0, x1⟩ x0 - aga ⟨s.c, x0, x1⟩ x1 := by simp only [dif, aga, G.sub]; grind
  have hN := low_b (n := dif s) hq (by omega) (by omega)
  have hL := low_b (n := aga s s.l) hq (by omega) (by omega)
  have hH := low_b (n := aga s s.h) hq (by omega) (by omega)
  have hT := low_b (n := tot s) hq (by omega) (by omega)
  have hC := low_b (n := dif ⟨s.c, x0, x1⟩) hq (by omega) (by omega)
  have ok1 := ok_of (turn_near hs.2) (by decide) (by decide) (by rw [turn_sq]; exact hq)
  have ok2 := ok_of (turn_near (turn_near hs.2)) (by decide) (by decide) (by rw [turn_sq, turn_sq]; exact hq)
  have ok3 := ok_of (turn_near (turn_near (turn_near hs.2))) (by decide) (by decide) (by rw [turn_sq, turn_sq, turn_sq]; exact hq)
  have f0 := tmod_b n0 (k := 16) (by decide); have f1 := tmod_b n1 (k := 16) (by decide); have f2 := tmod_b n2 (k := 21) (by decide)
  generalize hf0 : n0.tmod 16 = fre at f0
  generalize hf1 : n1.tmod 16 = fim at f1
  generalize hby : n2.tmod 21 = by' at f2
  have ff : (⟨fre, fim⟩ : G).Fit 15 := ⟨by simp only; omega, by simp only; omega⟩
  have okU : Ok (s.by ⟨1, 0⟩ ⟨by', 0⟩) := by
    have ec : (s.by ⟨1, 0⟩ ⟨by', 0⟩).c = s.c := by
      obtain ⟨⟨a, b⟩, _, _⟩ := s
      simp [Sg.by, G.mul]
    refine ok_of (n := 8000) ⟨?_, ?_, ?_⟩ (by decide) (by decide) (by rw [ec]; exact hq)
    · rw [ec]; unfold near1; have := hs.2.1; unfold near1 at this; omega
    · have h1 := mulb fl.re (y := by') (b := 20) (by omega)
      have h2 := mulb fl.im (y := by') (b := 20) (by omega)
      simp only [Int.reduceToNat] at h1 h2
      simp only [near1, Sg.by, G.mul, Int.mul_zero]
      omega
    · have h1 := mulb fh.re (y := by') (b := 20) (by omega)
      have h2 := mulb fh.im (y := by') (b := 20) (by omega)
      simp only [Int.reduceToNat] at h1 h2
      simp only [near1, Sg.by, G.mul, Int.mul_zero]
      omega
  have uD : dif (s.by ⟨1, 0⟩ ⟨by', 0⟩) = by' * dif s := by simp only [Sg.by, dif, aga, G.sub, G.mul]; grind
  have uS : sq (s.by ⟨1, 0⟩ ⟨by', 0⟩).c = sq s.c := by simp only [Sg.by, G.mul, sq]; grind
  have okW : Ok (s.add ⟨s.c, x0, x1⟩) := by
    refine ok_of (n := 600) ⟨?_, ?_, ?_⟩ (by decide) (by decide) ?_
    · have h1 := hs.2.1; unfold near1 at *; simp only [Sg.add, G.add]; omega
    · have h1 := hs.2.2.1; have h2 := ho.2.2.1; unfold near1 at *; simp only [Sg.add, G.add] at *; omega
    · have h1 := hs.2.2.2; have h2 := ho.2.2.2; unfold near1 at *; simp only [Sg.add, G.add] at *; omega
    · have e : sq (s.add ⟨s.c, x0, x1⟩).c = 4 * sq s.c := by simp only [Sg.add, G.add, sq]; grind
      rw [e]; omega
  have wD : dif (s.add ⟨s.c, x0, x1⟩) = 2 * (dif s + dif ⟨s.c, x0, x1⟩) := by simp only [Sg.add, dif, aga, G.sub, G.add]; grind
  have wS : sq (s.add ⟨s.c, x0, x1⟩).c = 4 * sq s.c := by simp only [Sg.add, G.add, sq]; grind
  have okH : Ok ⟨s.c, s.h, s.l⟩ := ⟨⟨hv.fit.c, hv.fit.h, hv.fit.l⟩, hv.nz⟩
  have hD : dif ⟨s.c, s.h, s.l⟩ = -dif s := by simp only [dif, aga, G.sub]; grind
  have okT : ¬ decide (fre = 0 ∧ fim = 0) = true → Ok (s.by ⟨fre, fim⟩ ⟨fre, fim⟩) := fun h => by
    have hz : ¬ (fre = 0 ∧ fim = 0) := by simpa using h
    have e1 := mul_near fc ff; have e2 := mul_near fl ff; have e3 := mul_near fh ff
    simp only [Int.reduceToNat] at e1 e2 e3
    exact ok_of (n := 9000) ⟨e1, e2, e3⟩ (by decide) (by decide) (by rw [by_sq]; exact Int.mul_pos (sq_pos_of (a := ⟨fre, fim⟩) hz) hq)
  have sqf : ¬ decide (fre = 0 ∧ fim = 0) = true → 0 < sq (⟨fre, fim⟩ : G) := fun h => sq_pos_of (by simpa using h)
  have k16 : ∀ t : Sg, Ok t → dif t = dif s → sq t.c = sq s.c → APure (C m) 16 [.agg (sc t)] (.tup [.agg (rc (low (dif s) (sq s.c))), I 0]) := fun t h e1 e2 => by
    have := needle_ok (m := m) (checkE_zero.2 h)
    rwa [e1, e2] at this
  refine ToneFactors_parts s x0 x1 n0 n1 n2 by' ⟨fre, fim⟩ (low (dif s) (sq s.c)) (low (aga s s.l) (sq s.c)) (low (aga s s.h) (sq s.c)) (low (tot s) (sq s.c)) (low (by' * dif s) (sq s.c)) (low (-dif s) (sq s.c)) (low (2 * aga s s.l) (sq s.c))
    (low (dif ⟨s.c, x0, x1⟩) (sq s.c)) (low (dif (s.add ⟨s.c, x0, x1⟩)) (sq (s.add ⟨s.c, x0, x1⟩).c)) (s.by ⟨fre, fim⟩ ⟨fre, fim⟩) (s.turn 1) ((s.turn 1).turn 1) (((s.turn 1).turn 1).turn 1) (s.by ⟨1, 0⟩ ⟨by', 0⟩) (s.add ⟨s.c, x0, x1⟩)
    hf0 hf1 hby (w64 (by omega)) (w64 (by omega)) (w64 (by omega)) ?_ ?_ (needle_ok hs.1) (depths_ok hs.1) (sum_ok hs.1)
    (right_pure _ _ (by omega) hN.2.1.1 (by omega) hN.2.2.1) (right_pure _ _ (by omega) hL.2.1.1 (by omega) hL.2.2.1) (right_pure _ _ (by omega) hH.2.1.1 (by omega) hH.2.2.1) (right_pure _ _ (by omega) hT.2.1.1 (by omega) hT.2.2.1) (right_pure _ _ (by omega) hC.2.1.1 (by omega) hC.2.2.1)
    ?_ ?_ ?_ ?_ (turned_ok hs.1 (by decide) (by decide)) (turned_ok (checkE_zero.2 ok1) (by decide) (by decide)) (turned_ok (checkE_zero.2 ok2) (by decide) (by decide)) ?_
    (k16 _ ok1 (turn_dif _) (turn_sq _)) (k16 _ ok2 (by rw [turn_dif, turn_dif]) (by rw [turn_sq, turn_sq])) (k16 _ ok3 (by rw [turn_dif, turn_dif, turn_dif]) (by rw [turn_sq, turn_sq, turn_sq]))
    (scaled_ok (c := ⟨1, 0⟩) (d := ⟨by', 0⟩) hs.1 ⟨by decide, by decide⟩ (by decide) ⟨by simp only; omega, by simp⟩ okU) ?_ ?_ (low_neg hq) ?_ ?_ ?_ (needle_ok ho.1) (added_ok hs.1 ho.1 okW) (needle_ok (checkE_zero.2 okW)) ?_
    ?_ ?_ ?_ ?_ ?_ ?_ ?_ ?_ ?_ ?_ ?_ ?_
  · have := near_pure (m := m) s 300 (by decide) (by decide); rwa [decide_eq_true hs] at this
  · have := near_pure (m := m) ⟨s.c, x0, x1⟩ 300 (by decide) (by decide); rwa [decide_eq_true ho] at this
  · intro h
    exact scaled_ok (c := ⟨fre, fim⟩) (d := ⟨fre, fim⟩) hs.1 (ff.mono (by decide)) (by simpa using h) (ff.mono (by decide)) (okT h)
  · intro h
    have := needle_ok (m := m) (checkE_zero.2 (okT h))
    rwa [by_dif, by_sq, low_scale (sqf h)] at this
  · intro h
    have := depths_ok (m := m) (checkE_zero.2 (okT h))
    rwa [by_low, by_high, by_sq, low_scale (sqf h), low_scale (sqf h)] at this
  · intro h
    have := sum_ok (m := m) (checkE_zero.2 (okT h))
    rwa [by_tot, by_sq, low_scale (sqf h)] at this
  · have := turned_ok (m := m) (k := 1) (checkE_zero.2 ok3) (by decide) (by decide)
    rwa [show (1 : Int).toNat = 1 from rfl, turn4] at this
  · have := needle_ok (m := m) (checkE_zero.2 okU)
    rwa [uD, uS] at this
  · have := needle_ok (m := m) (checkE_zero.2 okH)
    rwa [hD] at this
  · have h1 := mulw (x := by') (y := (low (dif s) (sq s.c)).num) (by omega) (by omega)
    have := up (m := m) (refLowest_pure (by' * (low (dif s) (sq s.c)).num) (low (dif s) (sq s.c)).den (by omega) hN.2.1.1 (by omega))
    rwa [low_eq hN.2.1.1 hq (by rw [Int.mul_assoc, hN.2.2.2, Int.mul_assoc])] at this
  · have h1 := mulw hT.1 (y := (low (dif s) (sq s.c)).den) (by omega)
    have h2 := mulw hN.1 (y := (low (tot s) (sq s.c)).den) (by omega)
    have h3 := mulw (x := (low (tot s) (sq s.c)).den) (y := (low (dif s) (sq s.c)).den) (by omega) (by omega)
    have h4 := Int.mul_pos hT.2.1.1 hN.2.1.1
    have := up (m := m) (refLowest_pure ((low (tot s) (sq s.c)).num * (low (dif s) (sq s.c)).den + (low (dif s) (sq s.c)).num * (low (tot s) (sq s.c)).den) ((low (tot s) (sq s.c)).den * (low (dif s) (sq s.c)).den) (by omega) h4 (by omega))
    rwa [low_eq h4 hq (alg1 hT.2.2.2 hN.2.2.2 (by omega : tot s + dif s = 2 * aga s s.l))] at this
  · have := up (m := m) (refLowest_pure (2 * (low (aga s s.l) (sq s.c)).num) (low (aga s s.l) (sq s.c)).den (by omega) hL.2.1.1 (by omega))
    rwa [low_eq hL.2.1.1 hq (by rw [Int.mul_assoc, hL.2.2.2, Int.mul_assoc])] at this
  · have h1 := mulw hN.1 (y := (low (dif ⟨s.c, x0, x1⟩) (sq s.c)).den) (by omega)
    have h2 := mulw hC.1 (y := (low (dif s) (sq s.c)).den) (by omega)
    have h3 := mulb (x := 2 * (low (dif s) (sq s.c)).den) (y := (low (dif ⟨s.c, x0, x1⟩) (sq s.c)).den) (a := 2000000) (b := 1000000) (by omega) (by omega)
    have h4 : 0 < 2 * (low (dif s) (sq s.c)).den * (low (dif ⟨s.c, x0, x1⟩) (sq s.c)).den := Int.mul_pos (by omega) hC.2.1.1
    have := up (m := m) (refLowest_pure ((low (dif s) (sq s.c)).num * (low (dif ⟨s.c, x0, x1⟩) (sq s.c)).den + (low (dif ⟨s.c, x0, x1⟩) (sq s.c)).num * (low (dif s) (sq s.c)).den) (2 * (low (dif s) (sq s.c)).den * (low (dif ⟨s.c, x0, x1⟩) (sq s.c)).den) (by omega) h4 (by omega))
    rwa [low_eq h4 (d' := sq (s.add ⟨s.c, x0, x1⟩).c) (n' := dif (s.add ⟨s.c, x0, x1⟩)) (by rw [wS]; omega) (by rw [wS, wD]; exact alg2 hN.2.2.2 hC.2.2.2)] at this
  · exact w64 (by have := mulw (x := by') (y := (low (dif s) (sq s.c)).num) (by omega) (by omega); omega)
  · exact w64 (by omega)
  · exact w64 (by have := mulw hT.1 (y := (low (dif s) (sq s.c)).den) (by omega); omega)
  · exact w64 (by have := mulw hN.1 (y := (low (tot s) (sq s.c)).den) (by omega); omega)
  · exact w64 (by have := mulw hT.1 (y := (low (dif s) (sq s.c)).den) (by omega); have := mulw hN.1 (y := (low (tot s) (sq s.c)).den) (by omega); omega)
  · exact w64 (by have := mulw (x := (low (tot s) (sq s.c)).den) (y := (low (dif s) (sq s.c)).den) (by omega) (by omega); omega)
  · exact w64 (by omega)
  · exact w64 (by have := mulw hN.1 (y := (low (dif ⟨s.c, x0, x1⟩) (sq s.c)).den) (by omega); omega)
  · exact w64 (by have := mulw hC.1 (y := (low (dif s) (sq s.c)).den) (by omega); omega)
  · exact w64 (by have := mulw hN.1 (y := (low (dif ⟨s.c, x0, x1⟩) (sq s.c)).den) (by omega); have := mulw hC.1 (y := (low (dif s) (sq s.c)).den) (by omega); omega)
  · exact w64 (by omega)
  · exact w64 (by have := mulb (x := 2 * (low (dif s) (sq s.c)).den) (y := (low (dif ⟨s.c, x0, x1⟩) (sq s.c)).den) (a := 2000000) (b := 1000000) (by omega) (by omega); omega)
theorem ToneFactors_pure {m : Int} (s : Sg) (x0 x1 : G) (n0 n1 n2 : Int) (h0 : -128 ≤ n0 ∧ n0 ≤ 127) (h1 : -128 ≤ n1 ∧ n1 ≤ 127) (h2 : -128 ≤ n2 ∧ n2 ≤ 127) :
    APure (C m) 10 [.agg (sc s), .agg [I x0.re, I x0.im, I x1.re, I x1.im], .agg [.v (.int .i8 n0), .v (.int .i8 n1), .v (.int .i8 n2)]] (Bo true) := by
  by_cases hs : nearP s 300
  · by_cases ho : nearP ⟨s.c, x0, x1⟩ 300
    · exact ToneFactors_near s x0 x1 n0 n1 n2 h0 h1 h2 hs ho
    · have c1 := near_pure (m := m) s 300 (by decide) (by decide)
      rw [decide_eq_true hs] at c1
      have c2 := near_pure (m := m) ⟨s.c, x0, x1⟩ 300 (by decide) (by decide)
      rw [decide_eq_false ho] at c2
      refine APure.of_body good [] (fn := Tryz.f10) (by kernel_rfl) (by kernel_rfl) rfl rfl (by kernel_rfl) rfl (by kernel_rfl) ?_
      conv => whnf
      repeat' (first
        | (refine codeK_sound good (mu := []) ?_; conv => whnf)
        | ((first | rw [wl0] | rw [wl1] | rw [wl2] | rw [wl3] | rw [wl4] | rw [wl5]); conv => whnf)
        | (refine SBool.mk (fun _ => ?_) (fun h => absurd (of_decide_eq_true rfl) h); conv => whnf)
        | (refine SBool.mk (fun h => absurd h (of_decide_eq_false rfl)) (fun _ => ?_); conv => whnf)
        | (refine SBool.mk (fun h => ?_) (fun h => ?_) <;> conv => whnf)
        | (refine SEx.mk _ (by first | exact awake_pure | exact c1 | exact c2) ?_; conv => whnf)
        | (refine SEx.mk _ (by first | exact rfl | exact ⟨of_decide_eq_true rfl, rfl⟩) ?_; conv => whnf)
        | (refine SAll.mk (fun _ => ?_); conv => whnf)
        | (refine SAnd.mk ⟨by intro c hc; simp at hc; first | (subst hc; rfl) | ((repeat' (rcases hc with rfl | hc)) <;> first | rfl | (subst hc; rfl)), by (simp; first | done | omega), by (simp; first | done | omega)⟩ ?_; conv => whnf)
        | (refine SAnd.mk (by first | exact rfl | kernel_rfl | omega | decide | exact awake_pure | exact c1 | exact c2) ?_; conv => whnf)
        | fail)
      all_goals exact ⟨PLe.refl _⟩
  · have c1 := near_pure (m := m) s 300 (by decide) (by decide)
    rw [decide_eq_false hs] at c1
    refine APure.of_body good [] (fn := Tryz.f10) (by kernel_rfl) (by kernel_rfl) rfl rfl (by kernel_rfl) rfl (by kernel_rfl) ?_
    conv => whnf
    repeat' (first
      | (refine codeK_sound good (mu := []) ?_; conv => whnf)
      | ((first | rw [wl0] | rw [wl1] | rw [wl2] | rw [wl3] | rw [wl4] | rw [wl5]); conv => whnf)
      | (refine SBool.mk (fun _ => ?_) (fun h => absurd (of_decide_eq_true rfl) h); conv => whnf)
      | (refine SBool.mk (fun h => absurd h (of_decide_eq_false rfl)) (fun _ => ?_); conv => whnf)
      | (refine SBool.mk (fun h => ?_) (fun h => ?_) <;> conv => whnf)
      | (refine SEx.mk _ (by first | exact awake_pure | exact c1) ?_; conv => whnf)
      | (refine SEx.mk _ (by first | exact rfl | exact ⟨of_decide_eq_true rfl, rfl⟩) ?_; conv => whnf)
      | (refine SAll.mk (fun _ => ?_); conv => whnf)
      | (refine SAnd.mk ⟨by intro c hc; simp at hc; first | (subst hc; rfl) | ((repeat' (rcases hc with rfl | hc)) <;> first | rfl | (subst hc; rfl)), by (simp; first | done | omega), by (simp; first | done | omega)⟩ ?_; conv => whnf)
      | (refine SAnd.mk (by first | exact rfl | kernel_rfl | omega | decide | exact awake_pure | exact c1) ?_; conv => whnf)
      | fail)
    all_goals exact ⟨PLe.refl _⟩
end Go.Proofs.Ab.Tone2
end
section
/- More parameters' shapes. -/
set_option maxRecDepth 100000
set_option linter.unusedVariables false
set_option linter.unusedSimpArgs false
namespace Go.Proofs.Ab.Tone2
open Go Go.RowKit Go.Proofs.Ab Go.Proofs.Ab.Tone
theorem fit_four {x : PV} (h : FitP (true, [.int .i64, .int .i64, .int .i64, .int .i64]) x) : ∃ a b : G, x = .agg [I a.re, I a.im, I b.re, I b.im] := by
  obtain ⟨xs, rfl, h⟩ := h
  obtain ⟨c1, xs, rfl, h1, h⟩ := h.uncons
  obtain ⟨c2, xs, rfl, h2, h⟩ := h.uncons
  obtain ⟨c3, xs, rfl, h3, h⟩ := h.uncons
  obtain ⟨c4, xs, rfl, h4, h⟩ := h.uncons
  obtain rfl := h.unnil
  obtain ⟨n1, rfl, _⟩ := h1.int_inv
  obtain ⟨n2, rfl, _⟩ := h2.int_inv
  obtain ⟨n3, rfl, _⟩ := h3.int_inv
  obtain ⟨n4, rfl, _⟩ := h4.int_inv
  exact ⟨⟨n1, n2⟩, ⟨n3, n4⟩, rfl⟩
theorem wf_of {k : IntKind} {n : Int} (h : (Lit.int k n).wf = true) : k.min ≤ n ∧ n ≤ k.max := by
  have h' : (decide (k.min ≤ n) && decide (n ≤ k.max)) = true := h
  rwa [Bool.and_eq_true, decide_eq_true_eq, decide_eq_true_eq] at h'
theorem in8 {n : Int} (h : (Lit.int .i8 n).wf = true) : -128 ≤ n ∧ n ≤ 127 := wf_of h
theorem inU8 {n : Int} (h : (Lit.int .u8 n).wf = true) : 0 ≤ n ∧ n ≤ 255 := wf_of h
theorem inU16 {n : Int} (h : (Lit.int .u16 n).wf = true) : 0 ≤ n ∧ n ≤ 65535 := wf_of h
theorem fit_three8 {x : PV} (h : FitP (true, [.int .i8, .int .i8, .int .i8]) x) : ∃ a b c : Int, x = .agg [.v (.int .i8 a), .v (.int .i8 b), .v (.int .i8 c)] ∧ (-128 ≤ a ∧ a ≤ 127) ∧ (-128 ≤ b ∧ b ≤ 127) ∧ (-128 ≤ c ∧ c ≤ 127) := by
  obtain ⟨xs, rfl, h⟩ := h
  obtain ⟨c1, xs, rfl, h1, h⟩ := h.uncons
  obtain ⟨c2, xs, rfl, h2, h⟩ := h.uncons
  obtain ⟨c3, xs, rfl, h3, h⟩ := h.uncons
  obtain rfl := h.unnil
  obtain ⟨n1, rfl, w1⟩ := h1.int_inv
  obtain ⟨n2, rfl, w2⟩ := h2.int_inv
  obtain ⟨n3, rfl, w3⟩ := h3.int_inv
  exact ⟨n1, n2, n3, rfl, in8 w1, in8 w2, in8 w3⟩
theorem fit_gauss {x : PV} (h : FitP (true, [.int .i64, .int .i64]) x) : ∃ a : G, x = .agg [I a.re, I a.im] := by
  obtain ⟨a, b, rfl⟩ := fit_two h
  exact ⟨⟨a, b⟩, rfl⟩
theorem fit_str {x : PV} (h : FitP (false, [.str]) x) : ∃ s : ByteArray, x = St s ∧ s.size ≤ maxLen := by
  obtain ⟨c1, xs, e, h1, _⟩ := FitL.uncons h
  cases e
  obtain ⟨s, rfl, w⟩ := h1.str_inv
  exact ⟨s, rfl, w⟩
end Go.Proofs.Ab.Tone2
end
section
/- ToneFactors: what factors, quarter turns, an exchange of the tones and a sum do to depths, needle and sum of a signal is what chapter 2 says: the law returns true, whatever it is handed. (Signals that are invalid or have greater parts are left out by the law itself; the listed variables are as the program's text lays them.) -/
set_option maxRecDepth 100000
set_option linter.unusedVariables false
set_option linter.unusedSimpArgs false
namespace Go.Proofs.YtkphoimochkndaaGreatDoor
open Go Go.RowKit Go.Proofs.Ab Go.Proofs.Ab.Tone Go.Proofs.Ab.Tone2
theorem toneFactors_lifted (os : Os) (started : os.Started) (H : Type) (enc : TypeId × Value → H) :
    ReturnsInHanded {} Tryz.checked os 10 .any (fun w args => (Rows.toneFactorsSpec.pre enc Tryz.prog Tryz.f10 [] false w args ∧ laidMetH Tryz.prog listed w) ∧ sizedMet enc Tryz.prog Tryz.f10 (OpenSpec.ofChange Rows.toneFactorsSpec) false w args)
      (Rows.toneFactorsSpec.post enc Tryz.prog Tryz.f10 false true false false) := by
  refine lifted_of started (by as_aux_lemma => kernel_rfl) Tryz.func10 (ss := [(true, sigSh), (true, [.int .i64, .int .i64, .int .i64, .int .i64]), (true, [.int .i8, .int .i8, .int .i8])])
    (witness #[.agg #[.int .i64 0, .int .i64 0, .int .i64 0, .int .i64 0, .int .i64 0, .int .i64 0], .agg #[.int .i64 0, .int .i64 0, .int .i64 0, .int .i64 0], .agg #[.int .i8 0, .int .i8 0, .int .i8 0]] (by as_aux_lemma => kernel_rfl) (by as_aux_lemma => kernel_rfl) (by as_aux_lemma => kernel_rfl) (World.shaped_of_ZipB (by as_aux_lemma => kernel_rfl) (by as_aux_lemma => kernel_rfl)) (laidMet_laidAll _ (by as_aux_lemma => kernel_rfl) (by as_aux_lemma => kernel_rfl)))
    ?_ (by as_aux_lemma => kernel_rfl) (by as_aux_lemma => kernel_rfl) rfl ?_ ?_
  · rw [Tryz.params10]
    intro t ht
    have hall : ([25, 112, 114].all fun u => Tryz.prog.readableRec u && decide (u < Tryz.prog.types.size)) = true := by as_aux_lemma => kernel_rfl
    have := List.all_eq_true.1 hall t (by simpa using ht)
    rw [Bool.and_eq_true, decide_eq_true_eq] at this
    exact this
  · rw [Tryz.params10]
    intro ds hd
    match ds, hd with
    | [d0, d1, d2], _ => exact ⟨rfl, rfl, rfl⟩
  · intro m xs h
    obtain ⟨x0, xs, rfl, h0, h⟩ := h.uncons
    obtain ⟨x1, xs, rfl, h1, h⟩ := h.uncons
    obtain ⟨x2, xs, rfl, h2, h⟩ := h.uncons
    obtain rfl := h.unnil
    obtain ⟨s, rfl⟩ := fit_sig h0
    obtain ⟨a, b, rfl⟩ := fit_four h1
    obtain ⟨n0, n1, n2, rfl, w0, w1, w2⟩ := fit_three8 h2
    exact ToneFactors_pure s a b n0 n1 n2 w0 w1 w2
set_option maxHeartbeats 40000000 in
theorem toneFactors_facts : joinedFacts Tryz.pinned.checked.prog 10 Tryz.f10 Rows.toneFactorsSpec Rows.toneFactorsRow = true := by
  unfold joinedFacts
  simp only [Bool.and_eq_true]
  repeat' apply And.intro
  all_goals as_aux_lemma => kernel_rfl
theorem toneFactors_row : Rows.ToneFactorsSaid :=
  OpenClaim.holds_of_wide 10 Tryz.f10 rfl rfl rfl rfl rfl rfl rfl ⟨rfl, rfl, rfl, rfl, rfl⟩ rfl rfl rfl rfl rfl (by as_aux_lemma => kernel_rfl) Tryz.func10 toneFactors_facts
    (of_decide_eq_true (by as_aux_lemma => kernel_rfl)) (by as_aux_lemma => unfold Func.isWrapper; first | (rw [if_pos (by decide +kernel)]; kernel_rfl) | (rw [if_neg (by decide +kernel)]; exact ⟨rfl, rfl⟩))
    (fun os started H enc _ => toneFactors_lifted os started H enc)
theorem toneFactors_named : Tryz.prog.funcNamed "glideslope/glideslopelaw02.ToneFactors" = some 10 := by kernel_rfl
theorem toneFactors_holds : Rows.ToneFactorsCardSaid :=
  Claim7.holds_tied_plain_at .later [] [.data, .data, .data, .data, .data, .pinned] true (true, "6883a40308061e1e56e57a0a897ad96630f21489591d51bcd46258b6daf0fcd9") false toneFactors_row (fun _ h => by cases h) (by as_aux_lemma => kernel_rfl) (fun _ h => by cases h) toneFactors_row_tie rfl ⟨rfl, rfl⟩ (by as_aux_lemma => kernel_rfl) rfl
    (fun f fn hf hfn => by
      obtain rfl : f = 10 := Option.some.inj (toneFactors_named.symm.trans hf) |>.symm
      obtain rfl : fn = Tryz.f10 := (Option.some.inj (Tryz.func10.symm.trans hfn)).symm
      exact ⟨by as_aux_lemma => kernel_rfl, fun j t ht => by
        rw [Tryz.params10] at ht
        have hm : t ∈ [25, 112, 114] := by simpa using Array.mem_of_getElem? ht
        have hall : ([25, 112, 114].all fun u => !Tryz.prog.wantsStandIn u) = true := by as_aux_lemma => kernel_rfl
        exact (show Tryz.prog.wantsStandIn t = false by simpa using List.all_eq_true.1 hall t hm)⟩)
    (by as_aux_lemma => kernel_rfl)
#print axioms toneFactors_holds
end Go.Proofs.YtkphoimochkndaaGreatDoor
end
