/- The proof of ToneSpans (see the last theorem): for every input that can be read the law returns true; the listed package-level variables are as the program's text lays them. -/
import Derived.Test.YtkphoimochkndaaGreatDoorK6
section
/- The reference's signals and its follower; the law's lists. -/
set_option maxRecDepth 100000
set_option linter.unusedVariables false
set_option linter.unusedSimpArgs false
namespace Go.Proofs.Ab.Tone2
open Go Go.RowKit Go.Proofs.Ab Go.Proofs.Ab.Tone
theorem checks_drop {xs : List Sg} {k : Nat} (h : k < xs.length) : firstOf ((xs.drop k).map checkE) = if checkE xs[k] = 0 then firstOf ((xs.drop (k + 1)).map checkE) else checkE xs[k] := by
  rw [List.drop_eq_getElem_cons h]
  rfl
theorem refCheckSignal_pure' (s : Sg) : APure Tone.C 18 [.agg (sc s)] (I (checkE s)) := refCheckE_eq s ▸ refCheckSignal_pure s
theorem checkL_small {xs : List Sg} (h0 : ¬ ((xs.map sc).length : Int) = 0) (h1 : ¬ 256 < ((xs.map sc).length : Int)) : checkL xs = firstOf (xs.map checkE) := by
  have e0 : (xs.map sc).length = xs.length := by simp
  rw [e0] at h0 h1
  have hz : sizedE xs.length 256 = 0 := by
    unfold sizedE
    rw [if_neg (by omega), if_neg (by omega)]
  unfold checkL
  rw [hz]
  simp only [firstOf]
  by_cases h : firstOf (xs.map checkE) = 0 <;> simp [h]
theorem checkL_big {xs : List Sg} (h1 : 256 < ((xs.map sc).length : Int)) : checkL xs = 5 := by
  have e0 : (xs.map sc).length = xs.length := by simp
  rw [e0] at h1
  have hz : sizedE xs.length 256 = 5 := by
    unfold sizedE
    rw [if_neg (by omega), if_pos (by omega)]
  unfold checkL
  rw [hz]
  simp [firstOf]
theorem checkL_none {xs : List Sg} (h1 : ((xs.map sc).length : Int) = 0) : checkL xs = 12 := by
  have e0 : (xs.map sc).length = xs.length := by simp
  rw [e0] at h1
  have hz : sizedE xs.length 256 = 12 := by
    unfold sizedE
    rw [if_pos (by omega)]
  unfold checkL
  rw [hz]
  simp [firstOf]
theorem refSignals_pure {m : Int} (xs : List Sg) (hl : xs.length ≤ 1000000) : APure (C m) 44 [.seq 6 (xs.map sc)] (I (checkL xs)) := by
  have e0 : (xs.map sc).length = xs.length := by simp
  refine APure.of_body good [] (fn := Tryz.f44) (by kernel_rfl) (by kernel_rfl) rfl rfl (by kernel_rfl) rfl (by kernel_rfl) ?_
  conv => whnf
  repeat' (first
    | (refine codeK_sound good (mu := []) ?_; conv => whnf)
    | ((first | rw [wl0] | rw [wl1] | rw [wl2] | rw [wl3] | rw [wl4] | rw [wl5]); conv => whnf)
    | (refine SBool.mk (fun _ => ?_) (fun h => absurd (of_decide_eq_true rfl) h); conv => whnf)
    | (refine SBool.mk (fun h => absurd h (of_decide_eq_false rfl)) (fun _ => ?_); conv => whnf)
    | (refine SBool.mk (fun h => ?_) (fun h => ?_) <;> conv => whnf)
    | (refine SEx.mk _ (by first | exact up (refWhen_pure _ _) | exact up (refFirst2_pure _ _)) ?_; conv => whnf)
    | (refine SEx.mk _ (by first | exact rfl | exact ⟨of_decide_eq_true rfl, rfl⟩) ?_; conv => whnf)
    | (refine SAll.mk (fun _ => ?_); conv => whnf)
    | (refine SAnd.mk ⟨by intro c hc; simp at hc; first | (subst hc; rfl) | ((repeat' (rcases hc with rfl | hc)) <;> first | rfl | (subst hc; rfl)), by (simp; first | done | omega), by (simp; first | done | omega)⟩ ?_; conv => whnf)
    | (refine SAnd.mk (by first | exact rfl | kernel_rfl | omega | decide | exact up (refWhen_pure _ _) | exact up (refFirst2_pure _ _)) ?_; conv => whnf)
    | fail)
  · rename_i h0 h1
    exact absurd h1 (by omega)
  · rename_i h0 h1
    exact ⟨PLe.of_eq (by rw [checkL_none h0]; rfl)⟩
  · rename_i h0 h1
    exact ⟨PLe.of_eq (by rw [checkL_big h]; rfl)⟩
  · rename_i h0 h1
    have hc := checkL_small h0 h
    refine ⟨AWp.loop (ι := { k : Nat // k ≤ xs.length ∧ firstOf (xs.map checkE) = firstOf ((xs.drop k).map checkE) }) (fun k => ⟨[(4, .p (I k.1)), (0, .p (.seq 6 (xs.map sc)))], [], [], 0, [], [], []⟩) (fun k => xs.length - k.1) ⟨0, by simp⟩ ?_ ?_⟩
    · skip
      · refine SLe.of [] [] rfl rfl ?_
        conv => whnf
        repeat' (first
        | exact True.intro
        | (refine SAnd.mk (PLe.of_eq (by simp only [wrapK]; rw [wrap_id (by first | omega | (simp only; done) | (simp only; omega) | simp) (by first | omega | (simp only; done) | (simp only; omega) | simp)]; simp)) ?_; conv => whnf)
        | (refine SAnd.mk (PLe.refl _) ?_; conv => whnf)
        | (refine SAnd.mk (PLeL.refl _) ?_; conv => whnf)
        | (refine SAnd.mk (PLe.of_eq (by simp)) ?_; conv => whnf)
        | (refine SAnd.mk rfl ?_; conv => whnf)
        | (refine SAnd.mk ⟨rfl, rfl⟩ ?_; conv => whnf)
        | (refine SAnd.mk ⟨rfl, rfl, rfl⟩ ?_; conv => whnf))
    · rintro ⟨k, hk, he⟩
      refine codeK_sound good (mu := []) ?_
      conv => whnf
      refine SBool.mk (fun hq => ?_) (fun hq => ?_)
      · conv => whnf
        have hkl : k < xs.length := by simpa using hq
        refine SEx.mk (sc xs[k]) (by simp [hkl]) ?_
        conv => whnf
        conv => whnf
        repeat' (first
          | (refine codeK_sound good (mu := []) ?_; conv => whnf)
          | ((first | rw [wl0] | rw [wl1] | rw [wl2] | rw [wl3] | rw [wl4] | rw [wl5]); conv => whnf)
          | (refine SBool.mk (fun _ => ?_) (fun h => absurd (of_decide_eq_true rfl) h); conv => whnf)
          | (refine SBool.mk (fun h => absurd h (of_decide_eq_false rfl)) (fun _ => ?_); conv => whnf)
          | (refine SBool.mk (fun h => ?_) (fun h => ?_) <;> conv => whnf)
          | (refine SEx.mk _ (by first | exact up (refCheckSignal_pure' xs[k])) ?_; conv => whnf)
          | (refine SEx.mk _ (by first | exact rfl | exact ⟨of_decide_eq_true rfl, rfl⟩) ?_; conv => whnf)
          | (refine SAll.mk (fun _ => ?_); conv => whnf)
          | (refine SAnd.mk ⟨by intro c hc; simp at hc; first | (subst hc; rfl) | ((repeat' (rcases hc with rfl | hc)) <;> first | rfl | (subst hc; rfl)), by (simp; first | done | omega), by (simp; first | done | omega)⟩ ?_; conv => whnf)
          | (refine SAnd.mk (by first | exact rfl | kernel_rfl | omega | decide | exact up (refCheckSignal_pure' xs[k])) ?_; conv => whnf)
          | fail)
        · refine ⟨⟨k + 1, by omega, by rw [he, checks_drop hkl, if_pos h]⟩, by simp only; omega, ?_⟩
          skip
          · refine SLe.of [] [] rfl rfl ?_
            conv => whnf
            repeat' (first
            | exact True.intro
            | (refine SAnd.mk (PLe.of_eq (by simp only [wrapK]; rw [wrap_id (by first | omega | (simp only; done) | (simp only; omega) | simp) (by first | omega | (simp only; done) | (simp only; omega) | simp)]; simp)) ?_; conv => whnf)
            | (refine SAnd.mk (PLe.refl _) ?_; conv => whnf)
            | (refine SAnd.mk (PLeL.refl _) ?_; conv => whnf)
            | (refine SAnd.mk (PLe.of_eq (by simp)) ?_; conv => whnf)
            | (refine SAnd.mk rfl ?_; conv => whnf)
            | (refine SAnd.mk ⟨rfl, rfl⟩ ?_; conv => whnf)
            | (refine SAnd.mk ⟨rfl, rfl, rfl⟩ ?_; conv => whnf))
        · exact ⟨PLe.of_eq (by rw [hc, he, checks_drop hkl, if_neg h])⟩
      · conv => whnf
        have : k = xs.length := by simp at hq; omega
        exact ⟨PLe.of_eq (by rw [hc, he, this]; simp [firstOf])⟩
theorem refFollowed_pure {m : Int} (r : Rx) (hr : RxOk r) (lag start : Int) (hlag : 1 ≤ lag) (hs : -1000 ≤ start ∧ start ≤ 1000) (xs : List Sg) (hl : xs.length ≤ 1000000) (hx : ∀ s ∈ xs, Ok s) :
    APure (C m) 45 [.agg (xc r), I lag, I start, .seq 6 (xs.map sc)] (.seq 1 (cells1 (followL r lag start xs xs.length))) := by
  refine APure.of_body good [] (fn := Tryz.f45) (by kernel_rfl) (by kernel_rfl) rfl rfl (by kernel_rfl) rfl (by kernel_rfl) ?_
  conv => whnf
  repeat' (first
    | (refine codeK_sound good (mu := []) ?_; conv => whnf)
    | ((first | rw [wl0] | rw [wl1] | rw [wl2] | rw [wl3] | rw [wl4] | rw [wl5]); conv => whnf)
    | (refine SBool.mk (fun _ => ?_) (fun h => absurd (of_decide_eq_true rfl) h); conv => whnf)
    | (refine SBool.mk (fun h => absurd h (of_decide_eq_false rfl)) (fun _ => ?_); conv => whnf)
    | (refine SBool.mk (fun h => ?_) (fun h => ?_) <;> conv => whnf)
    | (refine SEx.mk _ (by first | exact rfl | exact ⟨of_decide_eq_true rfl, rfl⟩) ?_; conv => whnf)
    | (refine SAll.mk (fun _ => ?_); conv => whnf)
    | (refine SAnd.mk ⟨by intro c hc; simp at hc; first | (subst hc; rfl) | ((repeat' (rcases hc with rfl | hc)) <;> first | rfl | (subst hc; rfl)), by (simp; first | done | omega), by (simp; first | done | omega)⟩ ?_; conv => whnf)
    | (refine SAnd.mk (by first | exact rfl | kernel_rfl | omega | decide) ?_; conv => whnf)
    | fail)
  refine ⟨AWp.loop (ι := { k : Nat // k ≤ xs.length }) (fun k => ⟨[(11, .p (I k.1)), (10, .p (I (needleAt r lag start xs k.1))), (9, .own 0), (4, .p (.ref (xc r))), (1, .p (I lag)), (3, .p (.seq 6 (xs.map sc)))], [], [(0, (3, 1, cells1 (followL r lag start xs k.1)))], 1, [], [], []⟩) (fun k => xs.length - k.1) ⟨0, by simp⟩ ?_ ?_⟩
  · refine SLe.row 9 3 1 ?_
    conv => whnf
    skip
    · refine SLe.of [] [(0, 0)] rfl rfl ?_
      conv => whnf
      repeat' (first
      | exact True.intro
      | (refine SAnd.mk (PLe.of_eq (by simp only [wrapK]; rw [wrap_id (by first | omega | (simp only; done) | (simp only; omega) | simp) (by first | omega | (simp only; done) | (simp only; omega) | simp)]; simp)) ?_; conv => whnf)
      | (refine SAnd.mk (PLe.refl _) ?_; conv => whnf)
      | (refine SAnd.mk (PLeL.refl _) ?_; conv => whnf)
      | (refine SAnd.mk (PLe.of_eq (by simp)) ?_; conv => whnf)
      | (refine SAnd.mk rfl ?_; conv => whnf)
      | (refine SAnd.mk ⟨rfl, rfl⟩ ?_; conv => whnf)
      | (refine SAnd.mk ⟨rfl, rfl, rfl⟩ ?_; conv => whnf))
  · rintro ⟨k, hk⟩
    refine codeK_sound good (mu := []) ?_
    conv => whnf
    refine SBool.mk (fun hc => ?_) (fun hc => ?_)
    · conv => whnf
      have hkl : k < xs.length := by simpa using hc
      have hnb := needle_bound hr hlag hs (xs := xs) k hk
      have htb := toldI_bound hr xs[k]
      have hsb := step_bound hlag htb hnb
      have w1 : wrapK IntKind.i64 (toldI r xs[k] - needleAt r lag start xs k) = toldI r xs[k] - needleAt r lag start xs k := w64 (by omega)
      have w2 : wrapK IntKind.i64 (needleAt r lag start xs k + (toldI r xs[k] - needleAt r lag start xs k) / lag) = needleAt r lag start xs k + (toldI r xs[k] - needleAt r lag start xs k) / lag := w64 (by omega)
      have hsome : 0 ≤ (k : Int) ∧ (xs.map sc)[((k : Int)).toNat]? = some (sc xs[k]) := ⟨by omega, by show (xs.map sc)[k]? = _; simp [hkl]⟩
      conv => whnf
      repeat' (first
        | (refine codeK_sound good (mu := []) ?_; conv => whnf)
        | ((first | rw [wl0] | rw [wl1] | rw [wl2] | rw [wl3] | rw [wl4] | rw [wl5]); conv => whnf)
        | (rw [w2]; conv => whnf)
        | (rw [w1]; conv => whnf)
        | (refine SBool.mk (fun _ => ?_) (fun h => absurd (of_decide_eq_true rfl) h); conv => whnf)
        | (refine SBool.mk (fun h => absurd h (of_decide_eq_false rfl)) (fun _ => ?_); conv => whnf)
        | (refine SBool.mk (fun h => ?_) (fun h => ?_) <;> conv => whnf)
        | (refine SEx.mk _ (by first | exact hsome | exact up (refTold_pure r xs[k] hr (hx _ (List.getElem_mem hkl))) | exact eql_string _ _ _ | exact up (refFloor_pure _ _ (by omega) (by omega))) ?_; conv => whnf)
        | (refine SEx.mk _ (by first | exact rfl | exact ⟨of_decide_eq_true rfl, rfl⟩) ?_; conv => whnf)
        | (refine SAll.mk (fun _ => ?_); conv => whnf)
        | (refine SAnd.mk (by first | exact hsome) ?_; conv => whnf)
        | (refine SAnd.mk ⟨by intro c hc; simp at hc; first | (subst hc; rfl) | ((repeat' (rcases hc with rfl | hc)) <;> first | rfl | (subst hc; rfl)), by (simp; first | done | omega), by (simp; first | done | omega)⟩ ?_; conv => whnf)
        | (refine SAnd.mk (by first | exact rfl | kernel_rfl | omega | decide | exact hsome | exact up (refTold_pure r xs[k] hr (hx _ (List.getElem_mem hkl))) | exact eql_string _ _ _ | exact up (refFloor_pure _ _ (by omega) (by omega))) ?_; conv => whnf)
        | fail)
      · have hz : flagB r xs[k] = bNone := of_decide_eq_true h
        have hstep : stepN r lag (needleAt r lag start xs k) xs[k] = needleAt r lag start xs k + (toldI r xs[k] - needleAt r lag start xs k) / lag := by unfold stepN; rw [if_pos hz]
        refine SAnd.mk ⟨by intro c hc; simp at hc; subst hc; rfl, by simp [cells1, followL]; omega, by simp [cells1, followL]; omega⟩ ?_
        conv => whnf
        refine ⟨⟨k + 1, by omega⟩, by simp only; omega, ?_⟩
        skip
        · refine SLe.of [] [(0, 11)] rfl rfl ?_
          conv => whnf
          repeat' (first
          | exact True.intro
          | (refine SAnd.mk (PLe.of_eq (by simp only; rw [needleAt_succ hkl, hstep])) ?_; conv => whnf)
          | (refine SAnd.mk ((by simp only; rw [followL_succ, needleAt_succ hkl, hstep])) ?_; conv => whnf)
          | (refine SAnd.mk (PLe.of_eq (by simp only [wrapK]; rw [wrap_id (by first | omega | (simp only; done) | (simp only; omega) | simp) (by first | omega | (simp only; done) | (simp only; omega) | simp)]; simp)) ?_; conv => whnf)
          | (refine SAnd.mk (PLe.refl _) ?_; conv => whnf)
          | (refine SAnd.mk (PLeL.refl _) ?_; conv => whnf)
          | (refine SAnd.mk (PLe.of_eq (by simp)) ?_; conv => whnf)
          | (refine SAnd.mk rfl ?_; conv => whnf)
          | (refine SAnd.mk ⟨rfl, rfl⟩ ?_; conv => whnf)
          | (refine SAnd.mk ⟨rfl, rfl, rfl⟩ ?_; conv => whnf))
      · have hz : ¬ flagB r xs[k] = bNone := of_decide_eq_false (by simpa using h)
        have hstep : stepN r lag (needleAt r lag start xs k) xs[k] = needleAt r lag start xs k := by unfold stepN; rw [if_neg hz]
        refine SAnd.mk ⟨by intro c hc; simp at hc; subst hc; rfl, by simp [cells1, followL]; omega, by simp [cells1, followL]; omega⟩ ?_
        conv => whnf
        refine ⟨⟨k + 1, by omega⟩, by simp only; omega, ?_⟩
        skip
        · refine SLe.of [] [(0, 11)] rfl rfl ?_
          conv => whnf
          repeat' (first
          | exact True.intro
          | (refine SAnd.mk (PLe.of_eq (by simp only; rw [needleAt_succ hkl, hstep])) ?_; conv => whnf)
          | (refine SAnd.mk ((by simp only; rw [followL_succ, needleAt_succ hkl, hstep])) ?_; conv => whnf)
          | (refine SAnd.mk (PLe.of_eq (by simp only [wrapK]; rw [wrap_id (by first | omega | (simp only; done) | (simp only; omega) | simp) (by first | omega | (simp only; done) | (simp only; omega) | simp)]; simp)) ?_; conv => whnf)
          | (refine SAnd.mk (PLe.refl _) ?_; conv => whnf)
          | (refine SAnd.mk (PLeL.refl _) ?_; conv => whnf)
          | (refine SAnd.mk (PLe.of_eq (by simp)) ?_; conv => whnf)
          | (refine SAnd.mk rfl ?_; conv => whnf)
          | (refine SAnd.mk ⟨rfl, rfl⟩ ?_; conv => whnf)
          | (refine SAnd.mk ⟨rfl, rfl, rfl⟩ ?_; conv => whnf))
    · conv => whnf
      have : k = xs.length := by simp at hc; omega
      subst this
      exact ⟨PLe.refl _⟩
/-- The law's list of signals as the program's. -/
theorem signals_pure {m : Int} (xs : List Sg) (hl : xs.length ≤ 1000000) : APure (C m) 42 [.seq 6 (xs.map sc)] (.seq 6 (xs.map sc)) := by
  refine APure.of_body good [] (fn := Tryz.f42) (by kernel_rfl) (by kernel_rfl) rfl rfl (by kernel_rfl) rfl (by kernel_rfl) ?_
  conv => whnf
  repeat' (first
    | (refine codeK_sound good (mu := []) ?_; conv => whnf)
    | ((first | rw [wl0] | rw [wl1] | rw [wl2] | rw [wl3] | rw [wl4] | rw [wl5]); conv => whnf)
    | (refine SBool.mk (fun _ => ?_) (fun h => absurd (of_decide_eq_true rfl) h); conv => whnf)
    | (refine SBool.mk (fun h => absurd h (of_decide_eq_false rfl)) (fun _ => ?_); conv => whnf)
    | (refine SBool.mk (fun h => ?_) (fun h => ?_) <;> conv => whnf)
    | (refine SEx.mk _ (by first | exact rfl | exact ⟨of_decide_eq_true rfl, rfl⟩) ?_; conv => whnf)
    | (refine SAll.mk (fun _ => ?_); conv => whnf)
    | (refine SAnd.mk ⟨by intro c hc; simp at hc; first | (subst hc; rfl) | ((repeat' (rcases hc with rfl | hc)) <;> first | rfl | (subst hc; rfl)), by (simp; first | done | omega), by (simp; first | done | omega)⟩ ?_; conv => whnf)
    | (refine SAnd.mk (by first | exact rfl | kernel_rfl | omega | decide) ?_; conv => whnf)
    | fail)
  refine ⟨AWp.loop (ι := { k : Nat // k ≤ xs.length }) (fun k => ⟨[(8, .p (I k.1)), (7, .p (I xs.length)), (6, .p (.seq 6 (xs.map sc))), (3, .own 0)], [], [(0, (32, 6, (xs.take k.1).map sc))], 1, [], [], []⟩) (fun k => xs.length - k.1) ⟨0, by simp⟩ ?_ ?_⟩
  · refine SLe.row 3 32 6 ?_
    conv => whnf
    skip
    · refine SLe.of [] [(0, 0)] rfl rfl ?_
      conv => whnf
      repeat' (first
      | exact True.intro
      | (refine SAnd.mk (PLe.of_eq (by simp only [wrapK]; rw [wrap_id (by first | omega | (simp only; done) | (simp only; omega) | simp) (by first | omega | (simp only; done) | (simp only; omega) | simp)]; simp)) ?_; conv => whnf)
      | (refine SAnd.mk (PLe.refl _) ?_; conv => whnf)
      | (refine SAnd.mk (PLeL.refl _) ?_; conv => whnf)
      | (refine SAnd.mk (PLe.of_eq (by simp)) ?_; conv => whnf)
      | (refine SAnd.mk rfl ?_; conv => whnf)
      | (refine SAnd.mk ⟨rfl, rfl⟩ ?_; conv => whnf)
      | (refine SAnd.mk ⟨rfl, rfl, rfl⟩ ?_; conv => whnf))
  · rintro ⟨k, hk⟩
    refine codeK_sound good (mu := []) ?_
    conv => whnf
    refine SBool.mk (fun hc => ?_) (fun hc => ?_)
    · conv => whnf
      have hkl : k < xs.length := by simpa using hc
      have hsome : 0 ≤ (k : Int) ∧ (xs.map sc)[((k : Int)).toNat]? = some (sc xs[k]) := ⟨by omega, by show (xs.map sc)[k]? = _; simp [hkl]⟩
      conv => whnf
      repeat' (first
        | (refine codeK_sound good (mu := []) ?_; conv => whnf)
        | ((first | rw [wl0] | rw [wl1] | rw [wl2] | rw [wl3] | rw [wl4] | rw [wl5]); conv => whnf)
        | (refine SBool.mk (fun _ => ?_) (fun h => absurd (of_decide_eq_true rfl) h); conv => whnf)
        | (refine SBool.mk (fun h => absurd h (of_decide_eq_false rfl)) (fun _ => ?_); conv => whnf)
        | (refine SBool.mk (fun h => ?_) (fun h => ?_) <;> conv => whnf)
        | (refine SEx.mk _ (by first | exact hsome) ?_; conv => whnf)
        | (refine SEx.mk _ (by first | exact rfl | exact ⟨of_decide_eq_true rfl, rfl⟩) ?_; conv => whnf)
        | (refine SAll.mk (fun _ => ?_); conv => whnf)
        | (refine SAnd.mk (by first | exact hsome) ?_; conv => whnf)
        | (refine SAnd.mk ⟨by intro c hc; simp at hc; first | (subst hc; rfl) | ((repeat' (rcases hc with rfl | hc)) <;> first | rfl | (subst hc; rfl)), by (simp; first | done | omega), by (simp; first | done | omega)⟩ ?_; conv => whnf)
        | (refine SAnd.mk (by first | exact rfl | kernel_rfl | omega | decide | exact hsome) ?_; conv => whnf)
        | fail)
      refine ⟨⟨k + 1, by omega⟩, by simp only; omega, ?_⟩
      skip
      · refine SLe.of [] [(0, 2)] rfl rfl ?_
        conv => whnf
        repeat' (first
        | exact True.intro
        | (refine SAnd.mk ((take_map_succ hkl _).symm) ?_; conv => whnf)
        | (refine SAnd.mk (PLe.of_eq (by simp only [wrapK]; rw [wrap_id (by first | omega | (simp only; done) | (simp only; omega) | simp) (by first | omega | (simp only; done) | (simp only; omega) | simp)]; simp)) ?_; conv => whnf)
        | (refine SAnd.mk (PLe.refl _) ?_; conv => whnf)
        | (refine SAnd.mk (PLeL.refl _) ?_; conv => whnf)
        | (refine SAnd.mk (PLe.of_eq (by simp)) ?_; conv => whnf)
        | (refine SAnd.mk rfl ?_; conv => whnf)
        | (refine SAnd.mk ⟨rfl, rfl⟩ ?_; conv => whnf)
        | (refine SAnd.mk ⟨rfl, rfl, rfl⟩ ?_; conv => whnf))
    · conv => whnf
      have : k = xs.length := by simp at hc; omega
      subst this
      exact ⟨PLe.of_eq (by simp)⟩
end Go.Proofs.Ab.Tone2
end
section
/- The reference's crossings as a list, and that it is the program's. -/
set_option maxRecDepth 100000
set_option linter.unusedVariables false
set_option linter.unusedSimpArgs false
namespace Go.Proofs.Ab.Tone2
open Go Go.RowKit Go.Proofs.Ab Go.Proofs.Ab.Tone
/-- One more zero at index k. -/
def refZ (xs : List Sg) (ys : List Sp) (k : Nat) : List Sp :=
  if zeroP xs k then (if decide (0 < k) && zeroP xs (k - 1) then ys.dropLast ++ [((ys.getLast?.map (·.1)).getD 0, (k : Int) + 1)] else ys ++ [((k : Int), (k : Int) + 1)]) else ys
def refC (xs : List Sg) : Nat → List Sp
  | 0 => []
  | k + 1 => if crossB xs (k + 1) then refZ xs (refC xs k) k ++ [((k : Int), (k : Int) + 2)] else refZ xs (refC xs k) k
theorem spans_last (p : Nat → Bool) : ∀ k, match (spans p k).getLast? with
    | some q => q.2 ≤ (k : Int) ∧ (q.2 = (k : Int) ↔ 0 < k ∧ p (k - 1) = true)
    | none => ¬ (0 < k ∧ p (k - 1) = true)
  | 0 => by simp [spans]
  | k + 1 => by
    have ih := spans_last p k
    unfold spans
    cases hp : p k with
    | true =>
      simp only [if_true]
      unfold joinP
      cases hl : (spans p k).getLast? with
      | none => simp [hp]
      | some q =>
        by_cases hq : q.2 = (k : Int)
        · simp [hq, hp]
        · simp [hq, hp]
    | false =>
      simp only [Bool.false_eq_true, if_false]
      cases hl : (spans p k).getLast? with
      | none => simp [hp]
      | some q =>
        rw [hl] at ih
        simp only at ih ⊢
        refine ⟨by omega, ?_⟩
        simp [hp]
        omega
theorem crossP_succ (xs : List Sg) (k : Nat) : crossP xs (k + 2) = if crossB xs (k + 1) then crossP xs (k + 1) ++ [((k : Int), (k : Int) + 2)] else crossP xs (k + 1) := by
  show (if crossB xs (k + 1) then crossP xs (k + 1) ++ [(((k + 1 : Nat) : Int) - 1, ((k + 1 : Nat) : Int) + 1)] else crossP xs (k + 1)) = _
  rw [show (((k + 1 : Nat) : Int) - 1) = (k : Int) by omega, show (((k + 1 : Nat) : Int) + 1) = (k : Int) + 2 by omega]
theorem perm_snoc {a b c : List Sp} {x : Sp} (h : a.Perm (b ++ c)) : (a ++ [x]).Perm (b ++ [x] ++ c) := by
  have h1 := h.append_right [x]
  rw [List.append_assoc] at h1 ⊢
  refine h1.trans ?_
  exact List.Perm.append_left b List.perm_append_comm
theorem sorted_snoc {a : List Sp} {x : Sp} (h : a.Pairwise fun x y => x.1 ≤ y.1) (hx : ∀ q ∈ a, q.1 ≤ x.1) : (a ++ [x]).Pairwise fun x y => x.1 ≤ y.1 := by
  rw [List.pairwise_append]
  refine ⟨h, by simp, fun p hp q hq => ?_⟩
  simp at hq
  subst hq
  exact hx p hp
structure RefI (xs : List Sg) (k : Nat) : Prop where
  perm : (refC xs k).Perm (crossP xs (k + 1) ++ spans (zeroP xs) k)
  sort : (refC xs k).Pairwise fun x y => x.1 ≤ y.1
  lt : ∀ q ∈ refC xs k, q.1 < (k : Int)
  last : 0 < k → zeroP xs (k - 1) = true → ∃ a z q, refC xs k = a ++ [q] ∧ spans (zeroP xs) k = z ++ [q] ∧ q.2 = (k : Int) ∧ a.Perm (crossP xs (k + 1) ++ z)
theorem refI (xs : List Sg) : ∀ k, RefI xs k
  | 0 => ⟨by simp [refC, crossP, spans, crossB], by simp [refC], by simp [refC], fun h => absurd h (by decide)⟩
  | k + 1 => by
    have ih := refI xs k
    have hsl := spans_last (zeroP xs) k
    have hs1 : spans (zeroP xs) (k + 1) = if zeroP xs k then joinP (spans (zeroP xs) k) k else spans (zeroP xs) k := rfl
    have hc1 : refC xs (k + 1) = if crossB xs (k + 1) then refZ xs (refC xs k) k ++ [((k : Int), (k : Int) + 2)] else refZ xs (refC xs k) k := rfl
    have hp1 := crossP_succ xs k
    cases hz : zeroP xs k with
    | true =>
      have hcb : crossB xs (k + 1) = false := by
        cases hb : crossB xs (k + 1) with
        | false => rfl
        | true => have := cross_zero hb; rw [hz] at this; cases this
      rw [hcb] at hc1 hp1
      rw [hz] at hs1
      simp only [Bool.false_eq_true, if_false, if_true] at hc1 hp1 hs1
      by_cases hk : 0 < k ∧ zeroP xs (k - 1) = true
      · obtain ⟨a, z, q, e1, e2, e3, e4⟩ := ih.last hk.1 hk.2
        have er : refC xs (k + 1) = a ++ [(q.1, (k : Int) + 1)] := by
          rw [hc1]; unfold refZ; rw [hz, if_pos rfl, if_pos (by simp [hk]), e1]; simp
        have es : spans (zeroP xs) (k + 1) = z ++ [(q.1, (k : Int) + 1)] := by
          rw [hs1, e2]; unfold joinP; simp [e3]
        have hso := ih.sort
        have hlt := ih.lt
        rw [e1] at hso hlt
        have hq := hlt q (by simp)
        refine ⟨?_, ?_, ?_, fun _ _ => ⟨a, z, _, er, es, by simp, by rw [hp1]; exact e4⟩⟩
        · rw [er, es, hp1, ← List.append_assoc]; exact e4.append_right _
        · rw [er]
          rw [List.pairwise_append] at hso ⊢
          refine ⟨hso.1, by simp, fun p hp y hy => ?_⟩
          simp at hy
          subst hy
          exact hso.2.2 p hp q (by simp)
        · rw [er]
          intro y hy
          rcases List.mem_append.1 hy with hy | hy
          · have := hlt y (List.mem_append_left _ hy); omega
          · simp at hy; subst hy; simp only; omega
      · have er : refC xs (k + 1) = refC xs k ++ [((k : Int), (k : Int) + 1)] := by
          rw [hc1]; unfold refZ; rw [hz, if_pos rfl, if_neg (by simpa using hk)]
        have es : spans (zeroP xs) (k + 1) = spans (zeroP xs) k ++ [((k : Int), (k : Int) + 1)] := by
          rw [hs1]; unfold joinP
          cases hl : (spans (zeroP xs) k).getLast? with
          | none => rfl
          | some q =>
            rw [hl] at hsl
            simp only at hsl ⊢
            rw [if_neg (fun e => hk (hsl.2.1 e))]
        refine ⟨?_, ?_, ?_, fun _ _ => ⟨refC xs k, spans (zeroP xs) k, _, er, es, by simp, by rw [hp1]; exact ih.perm⟩⟩
        · rw [er, es, hp1, ← List.append_assoc]; exact ih.perm.append_right _
        · rw [er]; exact sorted_snoc ih.sort fun q hq => by have := ih.lt q hq; simp only; omega
        · rw [er]
          intro y hy
          rcases List.mem_append.1 hy with hy | hy
          · have := ih.lt y hy; omega
          · simp at hy; subst hy; simp only; omega
    | false =>
      have ez : refZ xs (refC xs k) k = refC xs k := by unfold refZ; rw [hz]; rfl
      rw [hz] at hs1
      rw [ez] at hc1
      simp only [Bool.false_eq_true, if_false] at hs1
      have hl : ¬ zeroP xs (k + 1 - 1) = true := by simp [hz]
      cases hb : crossB xs (k + 1) with
      | true =>
        rw [hb] at hc1 hp1
        simp only [if_true] at hc1 hp1
        refine ⟨?_, ?_, ?_, fun _ h => absurd h hl⟩
        · rw [hc1, hp1, hs1]; exact perm_snoc ih.perm
        · rw [hc1]; exact sorted_snoc ih.sort fun q hq => by have := ih.lt q hq; simp only; omega
        · rw [hc1]
          intro y hy
          rcases List.mem_append.1 hy with hy | hy
          · have := ih.lt y hy; omega
          · simp at hy; subst hy; simp only; omega
      | false =>
        rw [hb] at hc1 hp1
        simp only [Bool.false_eq_true, if_false] at hc1 hp1
        refine ⟨?_, ?_, ?_, fun _ h => absurd h hl⟩
        · rw [hc1, hp1, hs1]; exact ih.perm
        · rw [hc1]; exact ih.sort
        · rw [hc1]; intro y hy; have := ih.lt y hy; omega
theorem crossB_out (xs : List Sg) : crossB xs xs.length = false := by
  unfold crossB
  simp
theorem refC_eq (xs : List Sg) : refC xs xs.length = crossL xs := by
  have h := refI xs xs.length
  refine crossL_of ?_ h.sort
  have e : crossP xs (xs.length + 1) = crossP xs xs.length := by
    show (if crossB xs xs.length then _ else crossP xs xs.length) = _
    rw [crossB_out]
    rfl
  rw [← e]
  exact h.perm
theorem refC_len (xs : List Sg) : ∀ k, (refC xs k).length ≤ 2 * k
  | 0 => by simp [refC]
  | k + 1 => by
    have ih := refC_len xs k
    have hz : (refZ xs (refC xs k) k).length ≤ (refC xs k).length + 1 := by
      unfold refZ
      split
      · split
        · simp; try omega
        · simp
      · omega
    unfold refC
    split
    · simp; omega
    · omega
theorem refSign_pure {m : Int} (s : Sg) (h : s.Fit 10000) : APure (C m) 135 [.agg (sc s)] (I (sgn s)) := by
  refine APure.of_body good [] (fn := Tryz.f135) (by kernel_rfl) (by kernel_rfl) rfl rfl (by kernel_rfl) rfl (by kernel_rfl) ?_
  conv => whnf
  repeat' (first
    | (refine codeK_sound good (mu := []) ?_; conv => whnf)
    | ((first | rw [wl0] | rw [wl1] | rw [wl2] | rw [wl3] | rw [wl4] | rw [wl5]); conv => whnf)
    | (refine SBool.mk (fun _ => ?_) (fun h => absurd (of_decide_eq_true rfl) h); conv => whnf)
    | (refine SBool.mk (fun h => absurd h (of_decide_eq_false rfl)) (fun _ => ?_); conv => whnf)
    | (refine SBool.mk (fun h => ?_) (fun h => ?_) <;> conv => whnf)
    | (refine SEx.mk _ (by first | exact up (refDifference_pure s h)) ?_; conv => whnf)
    | (refine SEx.mk _ (by first | exact rfl | exact ⟨of_decide_eq_true rfl, rfl⟩) ?_; conv => whnf)
    | (refine SAll.mk (fun _ => ?_); conv => whnf)
    | (refine SAnd.mk ⟨by intro c hc; simp at hc; first | (subst hc; rfl) | ((repeat' (rcases hc with rfl | hc)) <;> first | rfl | (subst hc; rfl)), by (simp; first | done | omega), by (simp; first | done | omega)⟩ ?_; conv => whnf)
    | (refine SAnd.mk (by first | exact rfl | kernel_rfl | omega | decide | exact up (refDifference_pure s h)) ?_; conv => whnf)
    | fail)
  · exact ⟨PLe.of_eq (by unfold sgn cmp3; rw [if_neg (by omega), if_pos (by assumption)])⟩
  · exact ⟨PLe.of_eq (by unfold sgn cmp3; rw [if_pos (by assumption)])⟩
  · exact ⟨PLe.of_eq (by unfold sgn cmp3; rw [if_neg (by assumption), if_neg (by assumption)])⟩
theorem refFlagged_pure {m : Int} (r : Rx) (hr : RxOk r) (xs : List Sg) (hl : xs.length ≤ 1000000) (hx : ∀ s ∈ xs, Ok s) : APure (C m) 61 [.agg (xc r), .seq 6 (xs.map sc)] (seqP (spans (flagP r xs) xs.length)) := by
  refine APure.of_body good [] (fn := Tryz.f61) (by kernel_rfl) (by kernel_rfl) rfl rfl (by kernel_rfl) rfl (by kernel_rfl) ?_
  conv => whnf
  repeat' (first
    | (refine codeK_sound good (mu := []) ?_; conv => whnf)
    | ((first | rw [wl0] | rw [wl1] | rw [wl2] | rw [wl3] | rw [wl4] | rw [wl5]); conv => whnf)
    | (refine SBool.mk (fun _ => ?_) (fun h => absurd (of_decide_eq_true rfl) h); conv => whnf)
    | (refine SBool.mk (fun h => absurd h (of_decide_eq_false rfl)) (fun _ => ?_); conv => whnf)
    | (refine SBool.mk (fun h => ?_) (fun h => ?_) <;> conv => whnf)
    | (refine SEx.mk _ (by first | exact rfl | exact ⟨of_decide_eq_true rfl, rfl⟩) ?_; conv => whnf)
    | (refine SAll.mk (fun _ => ?_); conv => whnf)
    | (refine SAnd.mk ⟨by intro c hc; simp at hc; first | (subst hc; rfl) | ((repeat' (rcases hc with rfl | hc)) <;> first | rfl | (subst hc; rfl)), by (simp; first | done | omega), by (simp; first | done | omega)⟩ ?_; conv => whnf)
    | (refine SAnd.mk (by first | exact rfl | kernel_rfl | omega | decide) ?_; conv => whnf)
    | fail)
  refine ⟨AWp.loop (ι := { k : Nat // k ≤ xs.length }) (fun k => ⟨[(6, .p (I k.1)), (5, .own 0), (2, .p (.ref (xc r))), (1, .p (.seq 6 (xs.map sc)))], [], [(0, (143, 2, cellsP (spans (flagP r xs) k.1)))], 1, [], [], []⟩) (fun k => xs.length - k.1) ⟨0, by simp⟩ ?_ ?_⟩
  · refine SLe.row 5 143 2 ?_
    conv => whnf
    skip
    · refine SLe.of [] [(0, 0)] rfl rfl ?_
      conv => whnf
      repeat' (first
      | exact True.intro
      | (refine SAnd.mk (PLe.of_eq (by simp only [wrapK]; rw [wrap_id (by first | omega | (simp only; done) | (simp only; omega) | simp) (by first | omega | (simp only; done) | (simp only; omega) | simp)]; simp)) ?_; conv => whnf)
      | (refine SAnd.mk (PLe.refl _) ?_; conv => whnf)
      | (refine SAnd.mk (PLeL.refl _) ?_; conv => whnf)
      | (refine SAnd.mk (PLe.of_eq (by simp)) ?_; conv => whnf)
      | (refine SAnd.mk rfl ?_; conv => whnf)
      | (refine SAnd.mk ⟨rfl, rfl⟩ ?_; conv => whnf)
      | (refine SAnd.mk ⟨rfl, rfl, rfl⟩ ?_; conv => whnf))
  · rintro ⟨k, hk⟩
    refine codeK_sound good (mu := []) ?_
    conv => whnf
    refine SBool.mk (fun hc => ?_) (fun hc => ?_)
    · conv => whnf
      have hkl : k < xs.length := by simpa using hc
      have hsome : 0 ≤ (k : Int) ∧ (xs.map sc)[((k : Int)).toNat]? = some (sc xs[k]) := ⟨by omega, by show (xs.map sc)[k]? = _; simp [hkl]⟩
      have hPk : flagP r xs k = decide (flagB r xs[k] ≠ bNone) := by simp [flagP, hkl]
      have hsl := spans_len (flagP r xs) k
      have wk : wrapK IntKind.i64 ((k : Int) + 1) = k + 1 := w64 (by omega)
      have hfl := refFlag_pure r xs[k] hr (hx _ (List.getElem_mem hkl))
      obtain ⟨b, hb⟩ : ∃ b, flagB r xs[k] = b := ⟨_, rfl⟩
      rw [hb] at hfl hPk
      by_cases hb0 : b = bNone
      · have hP : flagP r xs k = false := by rw [hPk]; simp [hb0]
        subst hb0
        conv => whnf
        repeat' (first
          | (refine codeK_sound good (mu := []) ?_; conv => whnf)
          | ((first | rw [wl0] | rw [wl1] | rw [wl2] | rw [wl3] | rw [wl4] | rw [wl5]); conv => whnf)
          | (refine SBool.mk (fun _ => ?_) (fun h => absurd (of_decide_eq_true rfl) h); conv => whnf)
          | (refine SBool.mk (fun h => absurd h (of_decide_eq_false rfl)) (fun _ => ?_); conv => whnf)
          | (refine SBool.mk (fun h => ?_) (fun h => ?_) <;> conv => whnf)
          | (refine SEx.mk _ (by first | exact hsome | exact up hfl | exact eql_string _ _ _) ?_; conv => whnf)
          | (refine SEx.mk _ (by first | exact rfl | exact ⟨of_decide_eq_true rfl, rfl⟩) ?_; conv => whnf)
          | (refine SAll.mk (fun _ => ?_); conv => whnf)
          | (refine SAnd.mk (by first | exact hsome) ?_; conv => whnf)
          | (refine SAnd.mk ⟨by intro c hc; simp at hc; first | (subst hc; rfl) | ((repeat' (rcases hc with rfl | hc)) <;> first | rfl | (subst hc; rfl)), by (simp; first | done | omega), by (simp; first | done | omega)⟩ ?_; conv => whnf)
          | (refine SAnd.mk (by first | exact rfl | kernel_rfl | omega | decide | exact hsome | exact up hfl | exact eql_string _ _ _) ?_; conv => whnf)
          | fail)
        refine ⟨⟨k + 1, by omega⟩, by simp only; omega, ?_⟩
        skip
        · refine SLe.of [] [(0, 0)] rfl rfl ?_
          conv => whnf
          repeat' (first
          | exact True.intro
          | (refine SAnd.mk (show _ = (_ : List (List PV)) from by simp [spans, hP]) ?_; conv => whnf)
          | (refine SAnd.mk (PLe.of_eq (by simp only [wrapK]; rw [wrap_id (by first | omega | (simp only; done) | (simp only; omega) | simp) (by first | omega | (simp only; done) | (simp only; omega) | simp)]; simp)) ?_; conv => whnf)
          | (refine SAnd.mk (PLe.refl _) ?_; conv => whnf)
          | (refine SAnd.mk (PLeL.refl _) ?_; conv => whnf)
          | (refine SAnd.mk (PLe.of_eq (by simp)) ?_; conv => whnf)
          | (refine SAnd.mk rfl ?_; conv => whnf)
          | (refine SAnd.mk ⟨rfl, rfl⟩ ?_; conv => whnf)
          | (refine SAnd.mk ⟨rfl, rfl, rfl⟩ ?_; conv => whnf))
      · have hP : flagP r xs k = true := by rw [hPk]; simp [hb0]
        have heq : ∀ t w, (binOp .eql t (.string b) (.string bNone)).run Tone.C.P w = .ok (.bool false) w := fun t w => by
          have := eql_string t b bNone w
          rwa [decide_eq_false hb0] at this
        obtain ⟨ys, hys⟩ : ∃ ys, ys = spans (flagP r xs) k := ⟨_, rfl⟩
        have hstep : spans (flagP r xs) (k + 1) = joinP ys k := by simp [spans, hP, hys]
        rw [← hys] at hsl ⊢
        rcases List.eq_nil_or_concat ys with rfl | ⟨zs, q, rfl⟩
        · skip
          conv => whnf
          repeat' (first
            | (refine codeK_sound good (mu := []) ?_; conv => whnf)
            | ((first | rw [wl0] | rw [wl1] | rw [wl2] | rw [wl3] | rw [wl4] | rw [wl5]); conv => whnf)
            | (refine SBool.mk (fun _ => ?_) (fun h => absurd (of_decide_eq_true rfl) h); conv => whnf)
            | (refine SBool.mk (fun h => absurd h (of_decide_eq_false rfl)) (fun _ => ?_); conv => whnf)
            | (refine SBool.mk (fun h => ?_) (fun h => ?_) <;> conv => whnf)
            | (refine SEx.mk _ (by first | exact hsome | exact up hfl | exact heq _) ?_; conv => whnf)
            | (refine SEx.mk _ (by first | exact rfl | exact ⟨of_decide_eq_true rfl, rfl⟩) ?_; conv => whnf)
            | (refine SAll.mk (fun _ => ?_); conv => whnf)
            | (refine SAnd.mk (by first | exact hsome) ?_; conv => whnf)
            | (refine SAnd.mk ⟨by intro c hc; simp at hc; first | (subst hc; rfl) | ((repeat' (rcases hc with rfl | hc)) <;> first | rfl | (subst hc; rfl)), by (simp; first | done | omega), by (simp; first | done | omega)⟩ ?_; conv => whnf)
            | (refine SAnd.mk (by first | exact rfl | kernel_rfl | omega | decide | exact hsome | exact up hfl | exact heq _) ?_; conv => whnf)
            | fail)
          refine ⟨⟨k + 1, by omega⟩, by simp only; omega, ?_⟩
          skip
          · refine SLe.of [] [(0, 6)] rfl rfl ?_
            conv => whnf
            repeat' (first
            | exact True.intro
            | (refine SAnd.mk (show _ = (_ : List (List PV)) from by simp only [hstep, wk]; simp [joinP]) ?_; conv => whnf)
            | (refine SAnd.mk (PLe.of_eq (by simp only [wrapK]; rw [wrap_id (by first | omega | (simp only; done) | (simp only; omega) | simp) (by first | omega | (simp only; done) | (simp only; omega) | simp)]; simp)) ?_; conv => whnf)
            | (refine SAnd.mk (PLe.refl _) ?_; conv => whnf)
            | (refine SAnd.mk (PLeL.refl _) ?_; conv => whnf)
            | (refine SAnd.mk (PLe.of_eq (by simp)) ?_; conv => whnf)
            | (refine SAnd.mk rfl ?_; conv => whnf)
            | (refine SAnd.mk ⟨rfl, rfl⟩ ?_; conv => whnf)
            | (refine SAnd.mk ⟨rfl, rfl, rfl⟩ ?_; conv => whnf))
        · rw [List.concat_eq_append] at *
          have hl1 : (zs ++ [q]).length = zs.length + 1 := by simp
          have hl2 : (cellsP (zs ++ [q])).length = zs.length + 1 := by simp
          have hw1 : wrapK IntKind.i64 ((((143, 2, cellsP (zs ++ [q])) : Nat × Nat × List (List PV)).snd.snd.length : Int) - 1) = zs.length := by
            show wrapK IntKind.i64 ((((cellsP (zs ++ [q])).length : Nat) : Int) - 1) = zs.length
            rw [hl2, show (((zs.length + 1 : Nat) : Int) - 1) = zs.length by omega]
            exact w64 (by omega)
          have hpos : 0 < ((((143, 2, cellsP (zs ++ [q])) : Nat × Nat × List (List PV)).snd.snd.length : Nat) : Int) := by
            show 0 < (((cellsP (zs ++ [q])).length : Nat) : Int)
            rw [hl2]; omega
          have hin : 0 ≤ (zs.length : Int) ∧ (zs.length : Int) < (((143, 2, cellsP (zs ++ [q])) : Nat × Nat × List (List PV)).snd.snd.length : Int) := ⟨by omega, by
            show (zs.length : Int) < (((cellsP (zs ++ [q])).length : Nat) : Int)
            rw [hl2]; omega⟩
          have hdk : ∀ K : List PV → Prop, K [I q.2] → dropK ((143, 2, cellsP (zs ++ [q])) : Nat × Nat × List (List PV)).snd.snd.flatten (((zs.length : Int)).toNat * 2 + 1) K := fun K hk => dropK_of (r := [I q.2]) (by show zs.length * 2 + 1 ≤ (cellsP (zs ++ [q])).flatten.length; rw [flatP_len, hl1]; omega) (flatP_drop zs q) hk
          conv => whnf
          repeat' (first
            | (refine codeK_sound good (mu := []) ?_; conv => whnf)
            | ((first | rw [wl0] | rw [wl1] | rw [wl2] | rw [wl3] | rw [wl4] | rw [wl5]); conv => whnf)
            | (rw [hw1]; conv => whnf)
            | (refine SBool.mk (fun _ => ?_) (fun h => absurd (of_decide_eq_true rfl) h); conv => whnf)
            | (refine SBool.mk (fun h => absurd h (of_decide_eq_false rfl)) (fun _ => ?_); conv => whnf)
            | (refine SBool.mk (fun h => ?_) (fun h => ?_) <;> conv => whnf)
            | (refine hdk _ ?_; conv => whnf)
            | (refine SEx.mk _ (by first | exact hsome | exact up hfl | exact heq _ | exact hin | exact storeP zs q _) ?_; conv => whnf)
            | (refine SEx.mk _ (by first | exact rfl | exact ⟨of_decide_eq_true rfl, rfl⟩) ?_; conv => whnf)
            | (refine SAll.mk (fun _ => ?_); conv => whnf)
            | (refine SAnd.mk (by first | exact hsome | exact hin | exact storeP zs q _) ?_; conv => whnf)
            | (refine SAnd.mk ⟨by intro c hc; simp at hc; first | (subst hc; rfl) | ((repeat' (rcases hc with rfl | hc)) <;> first | rfl | (subst hc; rfl)), by (simp; first | done | omega), by (simp; first | done | omega)⟩ ?_; conv => whnf)
            | (refine SAnd.mk (by first | exact rfl | kernel_rfl | omega | decide | exact hsome | exact up hfl | exact heq _ | exact hin | exact storeP zs q _) ?_; conv => whnf)
            | fail)
          · have hq : q.2 = (k : Int) := h
            refine ⟨⟨k + 1, by omega⟩, by simp only; omega, ?_⟩
            skip
            · refine SLe.of [] [(0, 0)] rfl rfl ?_
              conv => whnf
              repeat' (first
              | exact True.intro
              | (refine SAnd.mk (show _ = (_ : List (List PV)) from by simp only [hstep, hq, wk]; simp [joinP, hq]) ?_; conv => whnf)
              | (refine SAnd.mk (PLe.of_eq (by simp only [wrapK]; rw [wrap_id (by first | omega | (simp only; done) | (simp only; omega) | simp) (by first | omega | (simp only; done) | (simp only; omega) | simp)]; simp)) ?_; conv => whnf)
              | (refine SAnd.mk (PLe.refl _) ?_; conv => whnf)
              | (refine SAnd.mk (PLeL.refl _) ?_; conv => whnf)
              | (refine SAnd.mk (PLe.of_eq (by simp)) ?_; conv => whnf)
              | (refine SAnd.mk rfl ?_; conv => whnf)
              | (refine SAnd.mk ⟨rfl, rfl⟩ ?_; conv => whnf)
              | (refine SAnd.mk ⟨rfl, rfl, rfl⟩ ?_; conv => whnf))
          · have hq : ¬ q.2 = (k : Int) := h
            refine ⟨⟨k + 1, by omega⟩, by simp only; omega, ?_⟩
            skip
            · refine SLe.of [] [(0, 6)] rfl rfl ?_
              conv => whnf
              repeat' (first
              | exact True.intro
              | (refine SAnd.mk (show _ = (_ : List (List PV)) from by simp only [hstep, wk]; simp [joinP, hq]) ?_; conv => whnf)
              | (refine SAnd.mk (PLe.of_eq (by simp only [wrapK]; rw [wrap_id (by first | omega | (simp only; done) | (simp only; omega) | simp) (by first | omega | (simp only; done) | (simp only; omega) | simp)]; simp)) ?_; conv => whnf)
              | (refine SAnd.mk (PLe.refl _) ?_; conv => whnf)
              | (refine SAnd.mk (PLeL.refl _) ?_; conv => whnf)
              | (refine SAnd.mk (PLe.of_eq (by simp)) ?_; conv => whnf)
              | (refine SAnd.mk rfl ?_; conv => whnf)
              | (refine SAnd.mk ⟨rfl, rfl⟩ ?_; conv => whnf)
              | (refine SAnd.mk ⟨rfl, rfl, rfl⟩ ?_; conv => whnf))
          · exact absurd hpos (by assumption)
    · have : k = xs.length := by simp at hc; omega
      subst this
      conv => whnf
      repeat' (first
        | (refine codeK_sound good (mu := []) ?_; conv => whnf)
        | ((first | rw [wl0] | rw [wl1] | rw [wl2] | rw [wl3] | rw [wl4] | rw [wl5]); conv => whnf)
        | (refine SBool.mk (fun _ => ?_) (fun h => absurd (of_decide_eq_true rfl) h); conv => whnf)
        | (refine SBool.mk (fun h => absurd h (of_decide_eq_false rfl)) (fun _ => ?_); conv => whnf)
        | (refine SBool.mk (fun h => ?_) (fun h => ?_) <;> conv => whnf)
        | (refine SEx.mk _ (by first | exact rfl | exact ⟨of_decide_eq_true rfl, rfl⟩) ?_; conv => whnf)
        | (refine SAll.mk (fun _ => ?_); conv => whnf)
        | (refine SAnd.mk ⟨by intro c hc; simp at hc; first | (subst hc; rfl) | ((repeat' (rcases hc with rfl | hc)) <;> first | rfl | (subst hc; rfl)), by (simp; first | done | omega), by (simp; first | done | omega)⟩ ?_; conv => whnf)
        | (refine SAnd.mk (by first | exact rfl | kernel_rfl | omega | decide) ?_; conv => whnf)
        | fail)
      exact ⟨PLe.refl _⟩
end Go.Proofs.Ab.Tone2
end
section
/- The reference's crossings. -/
set_option maxRecDepth 100000
set_option linter.unusedVariables false
set_option linter.unusedSimpArgs false
namespace Go.Proofs.Ab.Tone2
open Go Go.RowKit Go.Proofs.Ab Go.Proofs.Ab.Tone
set_option maxHeartbeats 8000000 in
theorem refCrossings_pure {m : Int} (xs : List Sg) (hl : xs.length ≤ 1000000) (hx : ∀ s ∈ xs, Ok s) : APure (C m) 60 [.seq 6 (xs.map sc)] (seqP (refC xs xs.length)) := by
  have hsg : ∀ (i : Nat) (h : i < xs.length), APure (C m) 135 [.agg (sc xs[i])] (I (sgn xs[i])) := fun i h => refSign_pure xs[i] (hx _ (List.getElem_mem h)).fit
  have e0 : (xs.map sc).length = xs.length := by simp
  refine APure.of_body good [] (fn := Tryz.f60) (by kernel_rfl) (by kernel_rfl) rfl rfl (by kernel_rfl) rfl (by kernel_rfl) ?_
  conv => whnf
  repeat' (first
    | (refine codeK_sound good (mu := []) ?_; conv => whnf)
    | ((first | rw [wl0] | rw [wl1] | rw [wl2] | rw [wl3] | rw [wl4] | rw [wl5]); conv => whnf)
    | (refine SBool.mk (fun _ => ?_) (fun h => absurd (of_decide_eq_true rfl) h); conv => whnf)
    | (refine SBool.mk (fun h => absurd h (of_decide_eq_false rfl)) (fun _ => ?_); conv => whnf)
    | (refine SBool.mk (fun h => ?_) (fun h => ?_) <;> conv => whnf)
    | (refine SEx.mk _ (by first | exact rfl | exact ⟨of_decide_eq_true rfl, rfl⟩) ?_; conv => whnf)
    | (refine SAll.mk (fun _ => ?_); conv => whnf)
    | (refine SAnd.mk ⟨by intro c hc; simp at hc; first | (subst hc; rfl) | ((repeat' (rcases hc with rfl | hc)) <;> first | rfl | (subst hc; rfl)), by (simp; first | done | omega), by (simp; first | done | omega)⟩ ?_; conv => whnf)
    | (refine SAnd.mk (by first | exact rfl | kernel_rfl | omega | decide) ?_; conv => whnf)
    | fail)
  refine ⟨AWp.loop (ι := { k : Nat // k ≤ xs.length }) (fun k => ⟨[(4, .p (I k.1)), (3, .own 0), (0, .p (.seq 6 (xs.map sc)))], [], [(0, (143, 2, cellsP (refC xs k.1)))], 1, [], [], []⟩) (fun k => xs.length - k.1) ⟨0, by simp⟩ ?_ ?_⟩
  · refine SLe.row 3 143 2 ?_
    conv => whnf
    skip
    · refine SLe.of [] [(0, 0)] rfl rfl ?_
      conv => whnf
      repeat' (first
      | exact True.intro
      | (refine SAnd.mk (PLe.of_eq (by simp only [wrapK]; rw [wrap_id (by first | omega | (simp only; done) | (simp only; omega) | simp) (by first | omega | (simp only; done) | (simp only; omega) | simp)]; simp)) ?_; conv => whnf)
      | (refine SAnd.mk (PLe.refl _) ?_; conv => whnf)
      | (refine SAnd.mk (PLeL.refl _) ?_; conv => whnf)
      | (refine SAnd.mk (PLe.of_eq (by simp)) ?_; conv => whnf)
      | (refine SAnd.mk rfl ?_; conv => whnf)
      | (refine SAnd.mk ⟨rfl, rfl⟩ ?_; conv => whnf)
      | (refine SAnd.mk ⟨rfl, rfl, rfl⟩ ?_; conv => whnf))
  · rintro ⟨k, hk⟩
    refine codeK_sound good (mu := []) ?_
    conv => whnf
    refine SBool.mk (fun hc => ?_) (fun hc => ?_)
    · conv => whnf
      have hkl : k < xs.length := by simpa using hc
      have hsome : 0 ≤ (k : Int) ∧ (xs.map sc)[((k : Int)).toNat]? = some (sc xs[k]) := ⟨by omega, by show (xs.map sc)[k]? = _; simp [hkl]⟩
      have hzk : zeroP xs k = decide (sgn xs[k] = 0) := by simp [zeroP, hkl]
      have hsl := refC_len xs k
      have hI := refI xs k
      have wk : wrapK IntKind.i64 ((k : Int) + 1) = k + 1 := w64 (by omega)
      have wk2 : wrapK IntKind.i64 ((k : Int) + 2) = k + 2 := w64 (by omega)
      have wn : wrapK IntKind.i64 (((xs.map sc).length : Int) - 1) = (xs.length : Int) - 1 := by rw [e0]; exact w64 (by omega)
      have c0 := hsg k hkl
      have hstep : refC xs (k + 1) = if crossB xs (k + 1) then refZ xs (refC xs k) k ++ [((k : Int), (k : Int) + 2)] else refZ xs (refC xs k) k := rfl
      have hmul0 : ∀ z : Int, wrapK IntKind.i64 (0 * z) = 0 := fun z => by rw [Int.zero_mul]; kernel_rfl
      have hmulb : ∀ i j : Nat, ∀ (hi : i < xs.length) (hj : j < xs.length), wrapK IntKind.i64 (sgn xs[i] * sgn xs[j]) = sgn xs[i] * sgn xs[j] := fun i j hi hj => by
        rcases sgn_cases xs[i] with h | h | h <;> rcases sgn_cases xs[j] with h' | h' | h' <;> rw [h, h'] <;> kernel_rfl
      by_cases h0 : sgn xs[k] = 0
      · have hz : zeroP xs k = true := by rw [hzk]; simp [h0]
        have hcb : crossB xs (k + 1) = false := by
          cases hb : crossB xs (k + 1) with
          | false => rfl
          | true => have := cross_zero hb; rw [hz] at this; cases this
        rw [hcb] at hstep
        simp only [Bool.false_eq_true, if_false] at hstep
        rw [h0] at c0
        by_cases hkz : 0 < k ∧ zeroP xs (k - 1) = true
        · obtain ⟨zs, q, hys⟩ : ∃ zs q, refC xs k = zs ++ [q] := by
            obtain ⟨a, z, q, e1, _⟩ := hI.last hkz.1 hkz.2
            exact ⟨a, q, e1⟩
          have hkm : k - 1 < xs.length := by omega
          have hst : refC xs (k + 1) = zs ++ [(q.1, (k : Int) + 1)] := by
            rw [hstep]; unfold refZ; rw [hz, if_pos rfl, if_pos (by simp [hkz]), hys]; simp
          have hsm : sgn xs[k - 1] = 0 := by
            have := hkz.2
            unfold zeroP at this
            rw [List.getElem?_eq_getElem hkm] at this
            simpa using this
          have cm := hsg (k - 1) hkm
          rw [hsm] at cm
          have hmax : wrapK IntKind.i64 (max (k : Int) 1 - 1) = (k : Int) - 1 := by rw [Int.max_eq_left (by omega)]; exact w64 (by omega)
          have hsomem : 0 ≤ (k : Int) - 1 ∧ (xs.map sc)[((k : Int) - 1).toNat]? = some (sc xs[k - 1]) := ⟨by omega, by rw [show ((k : Int) - 1).toNat = k - 1 by omega]; simp [hkm]⟩
          rw [hys] at hsl ⊢
          have hl1 : (zs ++ [q]).length = zs.length + 1 := by simp
          have hl2 : (cellsP (zs ++ [q])).length = zs.length + 1 := by simp
          have hw1 : wrapK IntKind.i64 ((((143, 2, cellsP (zs ++ [q])) : Nat × Nat × List (List PV)).snd.snd.length : Int) - 1) = zs.length := by
            show wrapK IntKind.i64 ((((cellsP (zs ++ [q])).length : Nat) : Int) - 1) = zs.length
            rw [hl2, show (((zs.length + 1 : Nat) : Int) - 1) = zs.length by omega]
            exact w64 (by omega)
          have hin : 0 ≤ (zs.length : Int) ∧ (zs.length : Int) < (((143, 2, cellsP (zs ++ [q])) : Nat × Nat × List (List PV)).snd.snd.length : Int) := ⟨by omega, by
            show (zs.length : Int) < (((cellsP (zs ++ [q])).length : Nat) : Int)
            rw [hl2]; omega⟩
          by_cases hk1 : k + 1 < xs.length
          · have hsome1 : 0 ≤ (k : Int) + 1 ∧ (xs.map sc)[((k : Int) + 1).toNat]? = some (sc xs[k + 1]) := ⟨by omega, by rw [show ((k : Int) + 1).toNat = k + 1 by omega]; simp [hk1]⟩
            have c1 := hsg (k + 1) hk1
            have hmin : min ((k : Int) + 1) ((xs.length : Int) - 1) = (k : Int) + 1 := by omega
            conv => whnf
            repeat' (first
              | (refine codeK_sound good (mu := []) ?_; conv => whnf)
              | ((first | rw [wl0] | rw [wl1] | rw [wl2] | rw [wl3] | rw [wl4] | rw [wl5]); conv => whnf)
              | (rw [wk]; conv => whnf)
              | (rw [wn]; conv => whnf)
              | (rw [hmin]; conv => whnf)
              | (rw [hmul0]; conv => whnf)
              | (rw [hw1]; conv => whnf)
              | (rw [hmax]; conv => whnf)
              | (refine SBool.mk (fun _ => ?_) (fun h => absurd (of_decide_eq_true rfl) h); conv => whnf)
              | (refine SBool.mk (fun h => absurd h (of_decide_eq_false rfl)) (fun _ => ?_); conv => whnf)
              | (refine SBool.mk (fun h => ?_) (fun h => ?_) <;> conv => whnf)
              | (refine SEx.mk _ (by first | exact hsome | exact hsome1 | exact hsomem | exact c0 | exact c1 | exact cm | exact hin | exact storeP zs q _) ?_; conv => whnf)
              | (refine SEx.mk _ (by first | exact rfl | exact ⟨of_decide_eq_true rfl, rfl⟩) ?_; conv => whnf)
              | (refine SAll.mk (fun _ => ?_); conv => whnf)
              | (refine SAnd.mk (by first | exact hsome | exact hsome1 | exact hsomem | exact hin | exact storeP zs q _) ?_; conv => whnf)
              | (refine SAnd.mk ⟨by intro c hc; simp at hc; first | (subst hc; rfl) | ((repeat' (rcases hc with rfl | hc)) <;> first | rfl | (subst hc; rfl)), by (simp; first | done | omega), by (simp; first | done | omega)⟩ ?_; conv => whnf)
              | (refine SAnd.mk (by first | exact rfl | kernel_rfl | omega | decide | exact hsome | exact hsome1 | exact hsomem | exact c0 | exact c1 | exact cm | exact hin | exact storeP zs q _) ?_; conv => whnf)
              | fail)
            any_goals (first
              | exact absurd (show (0 : Int) < (k : Int) by omega) (by assumption)
              | exact absurd (show (k : Int) + 1 < ((xs.map sc).length : Int) by rw [e0]; omega) (by assumption)
              | exact absurd (show ((k : Nat) : Int) + 1 < ((xs.map sc).length : Int) by assumption) (by rw [e0]; omega)
              | exact absurd (show (0 : Int) < (k : Int) by assumption) (by omega)
              | exact absurd (show sgn xs[k - 1] = 0 by assumption) (by assumption)
              | exact absurd (show sgn xs[k] = 0 by assumption) (by assumption)
              | exact absurd rfl (by assumption))
            · refine ⟨⟨k + 1, by omega⟩, by simp only; omega, ?_⟩
              skip
              · refine SLe.of [] [(0, 0)] rfl rfl ?_
                conv => whnf
                repeat' (first
                | exact True.intro
                | (refine SAnd.mk (show _ = (_ : List (List PV)) from by simp only [hst]) ?_; conv => whnf)
                | (refine SAnd.mk (PLe.of_eq (by simp only [wrapK]; rw [wrap_id (by first | omega | (simp only; done) | (simp only; omega) | simp) (by first | omega | (simp only; done) | (simp only; omega) | simp)]; simp)) ?_; conv => whnf)
                | (refine SAnd.mk (PLe.refl _) ?_; conv => whnf)
                | (refine SAnd.mk (PLeL.refl _) ?_; conv => whnf)
                | (refine SAnd.mk (PLe.of_eq (by simp)) ?_; conv => whnf)
                | (refine SAnd.mk rfl ?_; conv => whnf)
                | (refine SAnd.mk ⟨rfl, rfl⟩ ?_; conv => whnf)
                | (refine SAnd.mk ⟨rfl, rfl, rfl⟩ ?_; conv => whnf))
          · skip
            conv => whnf
            repeat' (first
              | (refine codeK_sound good (mu := []) ?_; conv => whnf)
              | ((first | rw [wl0] | rw [wl1] | rw [wl2] | rw [wl3] | rw [wl4] | rw [wl5]); conv => whnf)
              | (rw [wk]; conv => whnf)
              | (rw [wn]; conv => whnf)
              | (rw [hw1]; conv => whnf)
              | (rw [hmax]; conv => whnf)
              | (refine SBool.mk (fun _ => ?_) (fun h => absurd (of_decide_eq_true rfl) h); conv => whnf)
              | (refine SBool.mk (fun h => absurd h (of_decide_eq_false rfl)) (fun _ => ?_); conv => whnf)
              | (refine SBool.mk (fun h => ?_) (fun h => ?_) <;> conv => whnf)
              | (refine SEx.mk _ (by first | exact hsome | exact hsomem | exact c0 | exact cm | exact hin | exact storeP zs q _) ?_; conv => whnf)
              | (refine SEx.mk _ (by first | exact rfl | exact ⟨of_decide_eq_true rfl, rfl⟩) ?_; conv => whnf)
              | (refine SAll.mk (fun _ => ?_); conv => whnf)
              | (refine SAnd.mk (by first | exact hsome | exact hsomem | exact hin | exact storeP zs q _) ?_; conv => whnf)
              | (refine SAnd.mk ⟨by intro c hc; simp at hc; first | (subst hc; rfl) | ((repeat' (rcases hc with rfl | hc)) <;> first | rfl | (subst hc; rfl)), by (simp; first | done | omega), by (simp; first | done | omega)⟩ ?_; conv => whnf)
              | (refine SAnd.mk (by first | exact rfl | kernel_rfl | omega | decide | exact hsome | exact hsomem | exact c0 | exact cm | exact hin | exact storeP zs q _) ?_; conv => whnf)
              | fail)
            any_goals (first
              | exact absurd (show (0 : Int) < (k : Int) by omega) (by assumption)
              | exact absurd (show (k : Int) + 1 < ((xs.map sc).length : Int) by rw [e0]; omega) (by assumption)
              | exact absurd (show ((k : Nat) : Int) + 1 < ((xs.map sc).length : Int) by assumption) (by rw [e0]; omega)
              | exact absurd (show (0 : Int) < (k : Int) by assumption) (by omega)
              | exact absurd (show sgn xs[k - 1] = 0 by assumption) (by assumption)
              | exact absurd (show sgn xs[k] = 0 by assumption) (by assumption)
              | exact absurd rfl (by assumption))
            · refine ⟨⟨k + 1, by omega⟩, by simp only; omega, ?_⟩
              skip
              · refine SLe.of [] [(0, 0)] rfl rfl ?_
                conv => whnf
                repeat' (first
                | exact True.intro
                | (refine SAnd.mk (show _ = (_ : List (List PV)) from by simp only [hst]) ?_; conv => whnf)
                | (refine SAnd.mk (PLe.of_eq (by simp only [wrapK]; rw [wrap_id (by first | omega | (simp only; done) | (simp only; omega) | simp) (by first | omega | (simp only; done) | (simp only; omega) | simp)]; simp)) ?_; conv => whnf)
                | (refine SAnd.mk (PLe.refl _) ?_; conv => whnf)
                | (refine SAnd.mk (PLeL.refl _) ?_; conv => whnf)
                | (refine SAnd.mk (PLe.of_eq (by simp)) ?_; conv => whnf)
                | (refine SAnd.mk rfl ?_; conv => whnf)
                | (refine SAnd.mk ⟨rfl, rfl⟩ ?_; conv => whnf)
                | (refine SAnd.mk ⟨rfl, rfl, rfl⟩ ?_; conv => whnf))
        · have hst : refC xs (k + 1) = refC xs k ++ [((k : Int), (k : Int) + 1)] := by
            rw [hstep]; unfold refZ; rw [hz, if_pos rfl, if_neg (by simpa using hkz)]
          by_cases hk0 : k = 0
          · by_cases hk1 : k + 1 < xs.length
            · have hsome1 : 0 ≤ (k : Int) + 1 ∧ (xs.map sc)[((k : Int) + 1).toNat]? = some (sc xs[k + 1]) := ⟨by omega, by rw [show ((k : Int) + 1).toNat = k + 1 by omega]; simp [hk1]⟩
              have c1 := hsg (k + 1) hk1
              have hmin : min ((k : Int) + 1) ((xs.length : Int) - 1) = (k : Int) + 1 := by omega
              conv => whnf
              repeat' (first
                | (refine codeK_sound good (mu := []) ?_; conv => whnf)
                | ((first | rw [wl0] | rw [wl1] | rw [wl2] | rw [wl3] | rw [wl4] | rw [wl5]); conv => whnf)
                | (rw [wk]; conv => whnf)
                | (rw [wn]; conv => whnf)
                | (rw [hmin]; conv => whnf)
                | (rw [hmul0]; conv => whnf)
                | (refine SBool.mk (fun _ => ?_) (fun h => absurd (of_decide_eq_true rfl) h); conv => whnf)
                | (refine SBool.mk (fun h => absurd h (of_decide_eq_false rfl)) (fun _ => ?_); conv => whnf)
                | (refine SBool.mk (fun h => ?_) (fun h => ?_) <;> conv => whnf)
                | (refine SEx.mk _ (by first | exact hsome | exact hsome1 | exact c0 | exact c1) ?_; conv => whnf)
                | (refine SEx.mk _ (by first | exact rfl | exact ⟨of_decide_eq_true rfl, rfl⟩) ?_; conv => whnf)
                | (refine SAll.mk (fun _ => ?_); conv => whnf)
                | (refine SAnd.mk (by first | exact hsome | exact hsome1) ?_; conv => whnf)
                | (refine SAnd.mk ⟨by intro c hc; simp at hc; first | (subst hc; rfl) | ((repeat' (rcases hc with rfl | hc)) <;> first | rfl | (subst hc; rfl)), by (simp; first | done | omega), by (simp; first | done | omega)⟩ ?_; conv => whnf)
                | (refine SAnd.mk (by first | exact rfl | kernel_rfl | omega | decide | exact hsome | exact hsome1 | exact c0 | exact c1) ?_; conv => whnf)
                | fail)
              any_goals (first
                | exact absurd (show (0 : Int) < (k : Int) by omega) (by assumption)
                | exact absurd (show (k : Int) + 1 < ((xs.map sc).length : Int) by rw [e0]; omega) (by assumption)
                | exact absurd (show ((k : Nat) : Int) + 1 < ((xs.map sc).length : Int) by assumption) (by rw [e0]; omega)
                | exact absurd (show (0 : Int) < (k : Int) by assumption) (by omega)
                | exact absurd (show sgn xs[k - 1] = 0 by assumption) (by assumption)
                | exact absurd (show sgn xs[k] = 0 by assumption) (by assumption)
                | exact absurd rfl (by assumption))
              · refine ⟨⟨k + 1, by omega⟩, by simp only; omega, ?_⟩
                skip
                · refine SLe.of [] [(0, 1)] rfl rfl ?_
                  conv => whnf
                  repeat' (first
                  | exact True.intro
                  | (refine SAnd.mk (show _ = (_ : List (List PV)) from by simp only [hst]; simp) ?_; conv => whnf)
                  | (refine SAnd.mk (PLe.of_eq (by simp only [wrapK]; rw [wrap_id (by first | omega | (simp only; done) | (simp only; omega) | simp) (by first | omega | (simp only; done) | (simp only; omega) | simp)]; simp)) ?_; conv => whnf)
                  | (refine SAnd.mk (PLe.refl _) ?_; conv => whnf)
                  | (refine SAnd.mk (PLeL.refl _) ?_; conv => whnf)
                  | (refine SAnd.mk (PLe.of_eq (by simp)) ?_; conv => whnf)
                  | (refine SAnd.mk rfl ?_; conv => whnf)
                  | (refine SAnd.mk ⟨rfl, rfl⟩ ?_; conv => whnf)
                  | (refine SAnd.mk ⟨rfl, rfl, rfl⟩ ?_; conv => whnf))
            · skip
              conv => whnf
              repeat' (first
                | (refine codeK_sound good (mu := []) ?_; conv => whnf)
                | ((first | rw [wl0] | rw [wl1] | rw [wl2] | rw [wl3] | rw [wl4] | rw [wl5]); conv => whnf)
                | (rw [wk]; conv => whnf)
                | (rw [wn]; conv => whnf)
                | (refine SBool.mk (fun _ => ?_) (fun h => absurd (of_decide_eq_true rfl) h); conv => whnf)
                | (refine SBool.mk (fun h => absurd h (of_decide_eq_false rfl)) (fun _ => ?_); conv => whnf)
                | (refine SBool.mk (fun h => ?_) (fun h => ?_) <;> conv => whnf)
                | (refine SEx.mk _ (by first | exact hsome | exact c0) ?_; conv => whnf)
                | (refine SEx.mk _ (by first | exact rfl | exact ⟨of_decide_eq_true rfl, rfl⟩) ?_; conv => whnf)
                | (refine SAll.mk (fun _ => ?_); conv => whnf)
                | (refine SAnd.mk (by first | exact hsome) ?_; conv => whnf)
                | (refine SAnd.mk ⟨by intro c hc; simp at hc; first | (subst hc; rfl) | ((repeat' (rcases hc with rfl | hc)) <;> first | rfl | (subst hc; rfl)), by (simp; first | done | omega), by (simp; first | done | omega)⟩ ?_; conv => whnf)
                | (refine SAnd.mk (by first | exact rfl | kernel_rfl | omega | decide | exact hsome | exact c0) ?_; conv => whnf)
                | fail)
              any_goals (first
                | exact absurd (show (0 : Int) < (k : Int) by omega) (by assumption)
                | exact absurd (show (k : Int) + 1 < ((xs.map sc).length : Int) by rw [e0]; omega) (by assumption)
                | exact absurd (show ((k : Nat) : Int) + 1 < ((xs.map sc).length : Int) by assumption) (by rw [e0]; omega)
                | exact absurd (show (0 : Int) < (k : Int) by assumption) (by omega)
                | exact absurd (show sgn xs[k - 1] = 0 by assumption) (by assumption)
                | exact absurd (show sgn xs[k] = 0 by assumption) (by assumption)
                | exact absurd rfl (by assumption))
              · refine ⟨⟨k + 1, by omega⟩, by simp only; omega, ?_⟩
                skip
                · refine SLe.of [] [(0, 1)] rfl rfl ?_
                  conv => whnf
                  repeat' (first
                  | exact True.intro
                  | (refine SAnd.mk (show _ = (_ : List (List PV)) from by simp only [hst]; simp) ?_; conv => whnf)
                  | (refine SAnd.mk (PLe.of_eq (by simp only [wrapK]; rw [wrap_id (by first | omega | (simp only; done) | (simp only; omega) | simp) (by first | omega | (simp only; done) | (simp only; omega) | simp)]; simp)) ?_; conv => whnf)
                  | (refine SAnd.mk (PLe.refl _) ?_; conv => whnf)
                  | (refine SAnd.mk (PLeL.refl _) ?_; conv => whnf)
                  | (refine SAnd.mk (PLe.of_eq (by simp)) ?_; conv => whnf)
                  | (refine SAnd.mk rfl ?_; conv => whnf)
                  | (refine SAnd.mk ⟨rfl, rfl⟩ ?_; conv => whnf)
                  | (refine SAnd.mk ⟨rfl, rfl, rfl⟩ ?_; conv => whnf))
          · have hkm : k - 1 < xs.length := by omega
            have cm := hsg (k - 1) hkm
            have hsm : ¬ sgn xs[k - 1] = 0 := fun e => hkz ⟨by omega, by unfold zeroP; rw [List.getElem?_eq_getElem hkm]; simp [e]⟩
            have hmax : wrapK IntKind.i64 (max (k : Int) 1 - 1) = (k : Int) - 1 := by rw [Int.max_eq_left (by omega)]; exact w64 (by omega)
            have hsomem : 0 ≤ (k : Int) - 1 ∧ (xs.map sc)[((k : Int) - 1).toNat]? = some (sc xs[k - 1]) := ⟨by omega, by rw [show ((k : Int) - 1).toNat = k - 1 by omega]; simp [hkm]⟩
            by_cases hk1 : k + 1 < xs.length
            · have hsome1 : 0 ≤ (k : Int) + 1 ∧ (xs.map sc)[((k : Int) + 1).toNat]? = some (sc xs[k + 1]) := ⟨by omega, by rw [show ((k : Int) + 1).toNat = k + 1 by omega]; simp [hk1]⟩
              have c1 := hsg (k + 1) hk1
              have hmin : min ((k : Int) + 1) ((xs.length : Int) - 1) = (k : Int) + 1 := by omega
              conv => whnf
              repeat' (first
                | (refine codeK_sound good (mu := []) ?_; conv => whnf)
                | ((first | rw [wl0] | rw [wl1] | rw [wl2] | rw [wl3] | rw [wl4] | rw [wl5]); conv => whnf)
                | (rw [wk]; conv => whnf)
                | (rw [wn]; conv => whnf)
                | (rw [hmin]; conv => whnf)
                | (rw [hmul0]; conv => whnf)
                | (rw [hmax]; conv => whnf)
                | (refine SBool.mk (fun _ => ?_) (fun h => absurd (of_decide_eq_true rfl) h); conv => whnf)
                | (refine SBool.mk (fun h => absurd h (of_decide_eq_false rfl)) (fun _ => ?_); conv => whnf)
                | (refine SBool.mk (fun h => ?_) (fun h => ?_) <;> conv => whnf)
                | (refine SEx.mk _ (by first | exact hsome | exact hsome1 | exact hsomem | exact c0 | exact c1 | exact cm) ?_; conv => whnf)
                | (refine SEx.mk _ (by first | exact rfl | exact ⟨of_decide_eq_true rfl, rfl⟩) ?_; conv => whnf)
                | (refine SAll.mk (fun _ => ?_); conv => whnf)
                | (refine SAnd.mk (by first | exact hsome | exact hsome1 | exact hsomem) ?_; conv => whnf)
                | (refine SAnd.mk ⟨by intro c hc; simp at hc; first | (subst hc; rfl) | ((repeat' (rcases hc with rfl | hc)) <;> first | rfl | (subst hc; rfl)), by (simp; first | done | omega), by (simp; first | done | omega)⟩ ?_; conv => whnf)
                | (refine SAnd.mk (by first | exact rfl | kernel_rfl | omega | decide | exact hsome | exact hsome1 | exact hsomem | exact c0 | exact c1 | exact cm) ?_; conv => whnf)
                | fail)
              any_goals (first
                | exact absurd (show (0 : Int) < (k : Int) by omega) (by assumption)
                | exact absurd (show (k : Int) + 1 < ((xs.map sc).length : Int) by rw [e0]; omega) (by assumption)
                | exact absurd (show ((k : Nat) : Int) + 1 < ((xs.map sc).length : Int) by assumption) (by rw [e0]; omega)
                | exact absurd (show (0 : Int) < (k : Int) by assumption) (by omega)
                | exact absurd (show sgn xs[k - 1] = 0 by assumption) (by assumption)
                | exact absurd (show sgn xs[k] = 0 by assumption) (by assumption)
                | exact absurd rfl (by assumption))
              · refine ⟨⟨k + 1, by omega⟩, by simp only; omega, ?_⟩
                skip
                · refine SLe.of [] [(0, 1)] rfl rfl ?_
                  conv => whnf
                  repeat' (first
                  | exact True.intro
                  | (refine SAnd.mk (show _ = (_ : List (List PV)) from by simp only [hst]; simp) ?_; conv => whnf)
                  | (refine SAnd.mk (PLe.of_eq (by simp only [wrapK]; rw [wrap_id (by first | omega | (simp only; done) | (simp only; omega) | simp) (by first | omega | (simp only; done) | (simp only; omega) | simp)]; simp)) ?_; conv => whnf)
                  | (refine SAnd.mk (PLe.refl _) ?_; conv => whnf)
                  | (refine SAnd.mk (PLeL.refl _) ?_; conv => whnf)
                  | (refine SAnd.mk (PLe.of_eq (by simp)) ?_; conv => whnf)
                  | (refine SAnd.mk rfl ?_; conv => whnf)
                  | (refine SAnd.mk ⟨rfl, rfl⟩ ?_; conv => whnf)
                  | (refine SAnd.mk ⟨rfl, rfl, rfl⟩ ?_; conv => whnf))
            · skip
              conv => whnf
              repeat' (first
                | (refine codeK_sound good (mu := []) ?_; conv => whnf)
                | ((first | rw [wl0] | rw [wl1] | rw [wl2] | rw [wl3] | rw [wl4] | rw [wl5]); conv => whnf)
                | (rw [wk]; conv => whnf)
                | (rw [wn]; conv => whnf)
                | (rw [hmax]; conv => whnf)
                | (refine SBool.mk (fun _ => ?_) (fun h => absurd (of_decide_eq_true rfl) h); conv => whnf)
                | (refine SBool.mk (fun h => absurd h (of_decide_eq_false rfl)) (fun _ => ?_); conv => whnf)
                | (refine SBool.mk (fun h => ?_) (fun h => ?_) <;> conv => whnf)
                | (refine SEx.mk _ (by first | exact hsome | exact hsomem | exact c0 | exact cm) ?_; conv => whnf)
                | (refine SEx.mk _ (by first | exact rfl | exact ⟨of_decide_eq_true rfl, rfl⟩) ?_; conv => whnf)
                | (refine SAll.mk (fun _ => ?_); conv => whnf)
                | (refine SAnd.mk (by first | exact hsome | exact hsomem) ?_; conv => whnf)
                | (refine SAnd.mk ⟨by intro c hc; simp at hc; first | (subst hc; rfl) | ((repeat' (rcases hc with rfl | hc)) <;> first | rfl | (subst hc; rfl)), by (simp; first | done | omega), by (simp; first | done | omega)⟩ ?_; conv => whnf)
                | (refine SAnd.mk (by first | exact rfl | kernel_rfl | omega | decide | exact hsome | exact hsomem | exact c0 | exact cm) ?_; conv => whnf)
                | fail)
              any_goals (first
                | exact absurd (show (0 : Int) < (k : Int) by omega) (by assumption)
                | exact absurd (show (k : Int) + 1 < ((xs.map sc).length : Int) by rw [e0]; omega) (by assumption)
                | exact absurd (show ((k : Nat) : Int) + 1 < ((xs.map sc).length : Int) by assumption) (by rw [e0]; omega)
                | exact absurd (show (0 : Int) < (k : Int) by assumption) (by omega)
                | exact absurd (show sgn xs[k - 1] = 0 by assumption) (by assumption)
                | exact absurd (show sgn xs[k] = 0 by assumption) (by assumption)
                | exact absurd rfl (by assumption))
              · refine ⟨⟨k + 1, by omega⟩, by simp only; omega, ?_⟩
                skip
                · refine SLe.of [] [(0, 1)] rfl rfl ?_
                  conv => whnf
                  repeat' (first
                  | exact True.intro
                  | (refine SAnd.mk (show _ = (_ : List (List PV)) from by simp only [hst]; simp) ?_; conv => whnf)
                  | (refine SAnd.mk (PLe.of_eq (by simp only [wrapK]; rw [wrap_id (by first | omega | (simp only; done) | (simp only; omega) | simp) (by first | omega | (simp only; done) | (simp only; omega) | simp)]; simp)) ?_; conv => whnf)
                  | (refine SAnd.mk (PLe.refl _) ?_; conv => whnf)
                  | (refine SAnd.mk (PLeL.refl _) ?_; conv => whnf)
                  | (refine SAnd.mk (PLe.of_eq (by simp)) ?_; conv => whnf)
                  | (refine SAnd.mk rfl ?_; conv => whnf)
                  | (refine SAnd.mk ⟨rfl, rfl⟩ ?_; conv => whnf)
                  | (refine SAnd.mk ⟨rfl, rfl, rfl⟩ ?_; conv => whnf))
      · have hz : zeroP xs k = false := by rw [hzk]; simp [h0]
        have ez : refZ xs (refC xs k) k = refC xs k := by unfold refZ; rw [hz]; rfl
        rw [ez] at hstep
        by_cases hk1 : k + 1 < xs.length
        · have hsome1 : 0 ≤ (k : Int) + 1 ∧ (xs.map sc)[((k : Int) + 1).toNat]? = some (sc xs[k + 1]) := ⟨by omega, by rw [show ((k : Int) + 1).toNat = k + 1 by omega]; simp [hk1]⟩
          have c1 := hsg (k + 1) hk1
          have hmin : min ((k : Int) + 1) ((xs.length : Int) - 1) = (k : Int) + 1 := by omega
          have hmulk := hmulb k (k + 1) hkl hk1
          have hcr : crossB xs (k + 1) = decide (sgn xs[k] * sgn xs[k + 1] < 0) := by
            unfold crossB
            rw [Nat.add_sub_cancel, List.getElem?_eq_getElem hk1, List.getElem?_eq_getElem hkl, Int.mul_comm]
            simp
          conv => whnf
          repeat' (first
            | (refine codeK_sound good (mu := []) ?_; conv => whnf)
            | ((first | rw [wl0] | rw [wl1] | rw [wl2] | rw [wl3] | rw [wl4] | rw [wl5]); conv => whnf)
            | (rw [wk2]; conv => whnf)
            | (rw [wk]; conv => whnf)
            | (rw [wn]; conv => whnf)
            | (rw [hmin]; conv => whnf)
            | (rw [hmulk]; conv => whnf)
            | (refine SBool.mk (fun _ => ?_) (fun h => absurd (of_decide_eq_true rfl) h); conv => whnf)
            | (refine SBool.mk (fun h => absurd h (of_decide_eq_false rfl)) (fun _ => ?_); conv => whnf)
            | (refine SBool.mk (fun h => ?_) (fun h => ?_) <;> conv => whnf)
            | (refine SEx.mk _ (by first | exact hsome | exact hsome1 | exact c0 | exact c1) ?_; conv => whnf)
            | (refine SEx.mk _ (by first | exact rfl | exact ⟨of_decide_eq_true rfl, rfl⟩) ?_; conv => whnf)
            | (refine SAll.mk (fun _ => ?_); conv => whnf)
            | (refine SAnd.mk (by first | exact hsome | exact hsome1) ?_; conv => whnf)
            | (refine SAnd.mk ⟨by intro c hc; simp at hc; first | (subst hc; rfl) | ((repeat' (rcases hc with rfl | hc)) <;> first | rfl | (subst hc; rfl)), by (simp; first | done | omega), by (simp; first | done | omega)⟩ ?_; conv => whnf)
            | (refine SAnd.mk (by first | exact rfl | kernel_rfl | omega | decide | exact hsome | exact hsome1 | exact c0 | exact c1) ?_; conv => whnf)
            | fail)
          any_goals (first
            | exact absurd (show (0 : Int) < (k : Int) by omega) (by assumption)
            | exact absurd (show (k : Int) + 1 < ((xs.map sc).length : Int) by rw [e0]; omega) (by assumption)
            | exact absurd (show ((k : Nat) : Int) + 1 < ((xs.map sc).length : Int) by assumption) (by rw [e0]; omega)
            | exact absurd (show (0 : Int) < (k : Int) by assumption) (by omega)
            | exact absurd (show sgn xs[k - 1] = 0 by assumption) (by assumption)
            | exact absurd (show sgn xs[k] = 0 by assumption) (by assumption)
            | exact absurd rfl (by assumption))
          · have hst : refC xs (k + 1) = refC xs k ++ [((k : Int), (k : Int) + 2)] := by rw [hstep, hcr, if_pos (decide_eq_true (by assumption))]
            refine ⟨⟨k + 1, by omega⟩, by simp only; omega, ?_⟩
            skip
            · refine SLe.of [] [(0, 21)] rfl rfl ?_
              conv => whnf
              repeat' (first
              | exact True.intro
              | (refine SAnd.mk (show _ = (_ : List (List PV)) from by simp only [hst]; simp) ?_; conv => whnf)
              | (refine SAnd.mk (PLe.of_eq (by simp only [wrapK]; rw [wrap_id (by first | omega | (simp only; done) | (simp only; omega) | simp) (by first | omega | (simp only; done) | (simp only; omega) | simp)]; simp)) ?_; conv => whnf)
              | (refine SAnd.mk (PLe.refl _) ?_; conv => whnf)
              | (refine SAnd.mk (PLeL.refl _) ?_; conv => whnf)
              | (refine SAnd.mk (PLe.of_eq (by simp)) ?_; conv => whnf)
              | (refine SAnd.mk rfl ?_; conv => whnf)
              | (refine SAnd.mk ⟨rfl, rfl⟩ ?_; conv => whnf)
              | (refine SAnd.mk ⟨rfl, rfl, rfl⟩ ?_; conv => whnf))
          · have hst : refC xs (k + 1) = refC xs k := by rw [hstep, hcr, if_neg (by simpa using (by assumption : ¬ sgn xs[k] * sgn xs[k + 1] < 0))]
            refine ⟨⟨k + 1, by omega⟩, by simp only; omega, ?_⟩
            skip
            · refine SLe.of [] [(0, 0)] rfl rfl ?_
              conv => whnf
              repeat' (first
              | exact True.intro
              | (refine SAnd.mk (show _ = (_ : List (List PV)) from by simp only [hst]) ?_; conv => whnf)
              | (refine SAnd.mk (PLe.of_eq (by simp only [wrapK]; rw [wrap_id (by first | omega | (simp only; done) | (simp only; omega) | simp) (by first | omega | (simp only; done) | (simp only; omega) | simp)]; simp)) ?_; conv => whnf)
              | (refine SAnd.mk (PLe.refl _) ?_; conv => whnf)
              | (refine SAnd.mk (PLeL.refl _) ?_; conv => whnf)
              | (refine SAnd.mk (PLe.of_eq (by simp)) ?_; conv => whnf)
              | (refine SAnd.mk rfl ?_; conv => whnf)
              | (refine SAnd.mk ⟨rfl, rfl⟩ ?_; conv => whnf)
              | (refine SAnd.mk ⟨rfl, rfl, rfl⟩ ?_; conv => whnf))
        · have hcr : crossB xs (k + 1) = false := by
            unfold crossB
            rw [List.getElem?_eq_none (by omega)]
            simp
          have hst : refC xs (k + 1) = refC xs k := by rw [hstep, hcr]; rfl
          conv => whnf
          repeat' (first
            | (refine codeK_sound good (mu := []) ?_; conv => whnf)
            | ((first | rw [wl0] | rw [wl1] | rw [wl2] | rw [wl3] | rw [wl4] | rw [wl5]); conv => whnf)
            | (rw [wk]; conv => whnf)
            | (rw [wn]; conv => whnf)
            | (refine SBool.mk (fun _ => ?_) (fun h => absurd (of_decide_eq_true rfl) h); conv => whnf)
            | (refine SBool.mk (fun h => absurd h (of_decide_eq_false rfl)) (fun _ => ?_); conv => whnf)
            | (refine SBool.mk (fun h => ?_) (fun h => ?_) <;> conv => whnf)
            | (refine SEx.mk _ (by first | exact hsome | exact c0) ?_; conv => whnf)
            | (refine SEx.mk _ (by first | exact rfl | exact ⟨of_decide_eq_true rfl, rfl⟩) ?_; conv => whnf)
            | (refine SAll.mk (fun _ => ?_); conv => whnf)
            | (refine SAnd.mk (by first | exact hsome) ?_; conv => whnf)
            | (refine SAnd.mk ⟨by intro c hc; simp at hc; first | (subst hc; rfl) | ((repeat' (rcases hc with rfl | hc)) <;> first | rfl | (subst hc; rfl)), by (simp; first | done | omega), by (simp; first | done | omega)⟩ ?_; conv => whnf)
            | (refine SAnd.mk (by first | exact rfl | kernel_rfl | omega | decide | exact hsome | exact c0) ?_; conv => whnf)
            | fail)
          any_goals (first
            | exact absurd (show (0 : Int) < (k : Int) by omega) (by assumption)
            | exact absurd (show (k : Int) + 1 < ((xs.map sc).length : Int) by rw [e0]; omega) (by assumption)
            | exact absurd (show ((k : Nat) : Int) + 1 < ((xs.map sc).length : Int) by assumption) (by rw [e0]; omega)
            | exact absurd (show (0 : Int) < (k : Int) by assumption) (by omega)
            | exact absurd (show sgn xs[k - 1] = 0 by assumption) (by assumption)
            | exact absurd (show sgn xs[k] = 0 by assumption) (by assumption)
            | exact absurd rfl (by assumption))
          · refine ⟨⟨k + 1, by omega⟩, by simp only; omega, ?_⟩
            skip
            · refine SLe.of [] [(0, 0)] rfl rfl ?_
              conv => whnf
              repeat' (first
              | exact True.intro
              | (refine SAnd.mk (show _ = (_ : List (List PV)) from by simp only [hst]) ?_; conv => whnf)
              | (refine SAnd.mk (PLe.of_eq (by simp only [wrapK]; rw [wrap_id (by first | omega | (simp only; done) | (simp only; omega) | simp) (by first | omega | (simp only; done) | (simp only; omega) | simp)]; simp)) ?_; conv => whnf)
              | (refine SAnd.mk (PLe.refl _) ?_; conv => whnf)
              | (refine SAnd.mk (PLeL.refl _) ?_; conv => whnf)
              | (refine SAnd.mk (PLe.of_eq (by simp)) ?_; conv => whnf)
              | (refine SAnd.mk rfl ?_; conv => whnf)
              | (refine SAnd.mk ⟨rfl, rfl⟩ ?_; conv => whnf)
              | (refine SAnd.mk ⟨rfl, rfl, rfl⟩ ?_; conv => whnf))
    · have : k = xs.length := by simp at hc; omega
      subst this
      conv => whnf
      repeat' (first
        | (refine codeK_sound good (mu := []) ?_; conv => whnf)
        | ((first | rw [wl0] | rw [wl1] | rw [wl2] | rw [wl3] | rw [wl4] | rw [wl5]); conv => whnf)
        | (refine SBool.mk (fun _ => ?_) (fun h => absurd (of_decide_eq_true rfl) h); conv => whnf)
        | (refine SBool.mk (fun h => absurd h (of_decide_eq_false rfl)) (fun _ => ?_); conv => whnf)
        | (refine SBool.mk (fun h => ?_) (fun h => ?_) <;> conv => whnf)
        | (refine SEx.mk _ (by first | exact rfl | exact ⟨of_decide_eq_true rfl, rfl⟩) ?_; conv => whnf)
        | (refine SAll.mk (fun _ => ?_); conv => whnf)
        | (refine SAnd.mk ⟨by intro c hc; simp at hc; first | (subst hc; rfl) | ((repeat' (rcases hc with rfl | hc)) <;> first | rfl | (subst hc; rfl)), by (simp; first | done | omega), by (simp; first | done | omega)⟩ ?_; conv => whnf)
        | (refine SAnd.mk (by first | exact rfl | kernel_rfl | omega | decide) ?_; conv => whnf)
        | fail)
      exact ⟨PLe.refl _⟩
end Go.Proofs.Ab.Tone2
end
section
/- The law of the depths. -/
set_option maxRecDepth 100000
set_option linter.unusedVariables false
set_option linter.unusedSimpArgs false
namespace Go.Proofs.Ab.Tone2
open Go Go.RowKit Go.Proofs.Ab Go.Proofs.Ab.Tone
theorem eq_ratio_self (a b : Int) : EqAgg Tone.C 28 [I a, I b] [I a, I b] true := by
  have h := eq_ratio a b a b
  have e : decide (a = a ∧ b = b) = true := by simp
  rw [e] at h
  exact h
section
attribute [local irreducible] APure
set_option maxHeartbeats 4000000 in
theorem ToneDepths_pure {m : Int} (s : Sg) : APure (C m) 3 [.agg (sc s)] (Bo true) := by
  have c18 : APure (C m) 18 [.agg (sc s)] (I (checkE s)) := by
    have h := refCheckSignal_pure s
    rw [refCheckE_eq] at h
    exact up h
  have c15 := up (m := m) (Depths_pure s)
  have c16 := up (m := m) (Needle_pure s)
  have c17 := up (m := m) (Sum_pure s)
  have c25 := up (m := m) (CheckSignal_pure s)
  by_cases h0 : checkE s = 0
  · have h := h0
    have hv : Ok s := checkE_zero.1 h
    have hf := hv.fit.mono (n := 1000000) (by decide)
    have b1 := dif_bound hv.fit; have b2 := sq_le hv.fit.c; have b3 := hv.sq_pos
    have b4 := tot_bound hv.fit
    have b5 := aga_bound hv.fit.c hv.fit.l
    have b6 := aga_bound hv.fit.c hv.fit.h
    have c19 := up (m := m) (refSquareS_pure s hf.c)
    have c21 := up (m := m) (refLow_pure s hf)
    have c22 := up (m := m) (refHigh_pure s hf)
    have c23 := up (m := m) (refNeedle_pure s hv)
    have c24 := up (m := m) (refTotal_pure s hv.fit)
    have cl1 := up (m := m) (refLowest_pure (aga s s.l) (sq s.c) (by omega) b3 (by omega))
    have cl2 := up (m := m) (refLowest_pure (aga s s.h) (sq s.c) (by omega) b3 (by omega))
    have cl3 := up (m := m) (refLowest_pure (tot s) (sq s.c) (by omega) b3 (by omega))
    unfold depthL depthH at c15
    unfold needleR at c16
    unfold sumR at c17
    rw [if_pos h, if_pos h, h] at c15
    rw [if_pos h, h] at c16
    rw [if_pos h, h] at c17
    rw [h] at c18 c25
    refine APure.of_body good [] (fn := Tryz.f3) (by kernel_rfl) (by kernel_rfl) rfl rfl (by kernel_rfl) rfl (by kernel_rfl) ?_
    conv => whnf
    repeat' (first
      | (refine codeK_sound good (mu := []) ?_; conv => whnf)
      | ((first | rw [wl0] | rw [wl1] | rw [wl2] | rw [wl3] | rw [wl4] | rw [wl5]); conv => whnf)
      | (refine SBool.mk (fun _ => ?_) (fun h => absurd (of_decide_eq_true rfl) h); conv => whnf)
      | (refine SBool.mk (fun h => absurd h (of_decide_eq_false rfl)) (fun _ => ?_); conv => whnf)
      | (refine SBool.mk (fun h => ?_) (fun h => ?_) <;> conv => whnf)
      | (refine SEx.mk _ (by first | exact awake_pure | exact c15 | exact c16 | exact c17 | exact c18 | exact c25 | exact c19 | exact c21 | exact c22 | exact c23 | exact c24 | exact cl1 | exact cl2 | exact cl3 | exact eq_ratio_self _ _) ?_; conv => whnf)
      | (refine SEx.mk _ (by first | exact rfl | exact ⟨of_decide_eq_true rfl, rfl⟩) ?_; conv => whnf)
      | (refine SAll.mk (fun _ => ?_); conv => whnf)
      | (refine SAnd.mk ⟨by intro c hc; simp at hc; first | (subst hc; rfl) | ((repeat' (rcases hc with rfl | hc)) <;> first | rfl | (subst hc; rfl)), by (simp; first | done | omega), by (simp; first | done | omega)⟩ ?_; conv => whnf)
      | (refine SAnd.mk (by first | exact rfl | kernel_rfl | omega | decide | exact awake_pure | exact c15 | exact c16 | exact c17 | exact c18 | exact c25 | exact c19 | exact c21 | exact c22 | exact c23 | exact c24 | exact cl1 | exact cl2 | exact cl3 | exact eq_ratio_self _ _) ?_; conv => whnf)
      | fail)
    exact ⟨PLe.refl _⟩
  · unfold depthL depthH at c15
    unfold needleR at c16
    unfold sumR at c17
    rw [if_neg h0, if_neg h0] at c15
    rw [if_neg h0] at c16
    rw [if_neg h0] at c17
    refine APure.of_body good [] (fn := Tryz.f3) (by kernel_rfl) (by kernel_rfl) rfl rfl (by kernel_rfl) rfl (by kernel_rfl) ?_
    conv => whnf
    repeat' (first
      | (refine codeK_sound good (mu := []) ?_; conv => whnf)
      | ((first | rw [wl0] | rw [wl1] | rw [wl2] | rw [wl3] | rw [wl4] | rw [wl5]); conv => whnf)
      | (refine SBool.mk (fun _ => ?_) (fun h => absurd (of_decide_eq_true rfl) h); conv => whnf)
      | (refine SBool.mk (fun h => absurd h (of_decide_eq_false rfl)) (fun _ => ?_); conv => whnf)
      | (refine SBool.mk (fun h => ?_) (fun h => ?_) <;> conv => whnf)
      | (refine SEx.mk _ (by first | exact awake_pure | exact c15 | exact c16 | exact c17 | exact c18 | exact c25 | exact eq_ratio_self _ _) ?_; conv => whnf)
      | (refine SEx.mk _ (by first | exact rfl | exact ⟨of_decide_eq_true rfl, rfl⟩) ?_; conv => whnf)
      | (refine SAll.mk (fun _ => ?_); conv => whnf)
      | (refine SAnd.mk ⟨by intro c hc; simp at hc; first | (subst hc; rfl) | ((repeat' (rcases hc with rfl | hc)) <;> first | rfl | (subst hc; rfl)), by (simp; first | done | omega), by (simp; first | done | omega)⟩ ?_; conv => whnf)
      | (refine SAnd.mk (by first | exact rfl | kernel_rfl | omega | decide | exact awake_pure | exact c15 | exact c16 | exact c17 | exact c18 | exact c25 | exact eq_ratio_self _ _) ?_; conv => whnf)
      | fail)
    all_goals first | exact absurd (by assumption) h0 | exact ⟨PLe.refl _⟩ | simp_all
end
end Go.Proofs.Ab.Tone2
end
section
/- The law of the spans. -/
set_option maxRecDepth 100000
set_option linter.unusedVariables false
set_option linter.unusedSimpArgs false
namespace Go.Proofs.Ab.Tone2
open Go Go.RowKit Go.Proofs.Ab Go.Proofs.Ab.Tone
theorem sameSpans_nil {m : Int} : APure (C m) 62 [nilS, nilS] (Bo true) :=
  (sameSpans_pure (m := m) [] [] (by decide)).weaken (PLeL.cons (Ab.PLe.nil 2) (PLeL.cons (Ab.PLe.nil 2) PLeL.nil)) (PLe.of_eq (by simp))
theorem sameSpans_self {m : Int} (l : List Sp) (hl : l.length ≤ 1000000) : APure (C m) 62 [seqP l, seqP l] (Bo true) :=
  (sameSpans_pure (m := m) l l hl).weaken (PLeL.refl _) (PLe.of_eq (by simp))
section
attribute [local irreducible] APure
set_option maxHeartbeats 4000000 in
theorem ToneSpans_parts {m : Int} (r : Rx) (xs : List Sg) (A F : PV) (one two : Int) (cs : APure (C m) 36 [.seq 6 (xs.map sc)] (Bo true)) (c42 : APure (C m) 42 [.seq 6 (xs.map sc)] (.seq 6 (xs.map sc)))
    (c58 : APure (C m) 58 [.seq 6 (xs.map sc)] (.tup [A, I one])) (c59 : APure (C m) 59 [.agg (xc r), .seq 6 (xs.map sc)] (.tup [F, I two]))
    (c44 : APure (C m) 44 [.seq 6 (xs.map sc)] (I one)) (c37 : APure (C m) 37 [.agg (xc r)] (I (rxE r))) (c29 : APure (C m) 29 [.seq 1 [[I (rxE r)], [I one]]] (I two))
    (k60 : one = 0 → APure (C m) 60 [.seq 6 (xs.map sc)] A) (k61 : two = 0 → APure (C m) 61 [.agg (xc r), .seq 6 (xs.map sc)] F) (hA : one ≠ 0 → A = nilS) (hF : two ≠ 0 → F = nilS)
    (cA : APure (C m) 62 [A, A] (Bo true)) (cF : APure (C m) 62 [F, F] (Bo true)) : APure (C m) 8 [.agg (xc r), .seq 6 (xs.map sc)] (Bo true) := by
  have cA' : one ≠ 0 → APure (C m) 62 [A, nilS] (Bo true) := fun h => by
    have := cA
    rwa [hA h] at this ⊢
  have cF' : two ≠ 0 → APure (C m) 62 [F, nilS] (Bo true) := fun h => by
    have := cF
    rwa [hF h] at this ⊢
  refine APure.of_body good [] (fn := Tryz.f8) (by kernel_rfl) (by kernel_rfl) rfl rfl (by kernel_rfl) rfl (by kernel_rfl) ?_
  conv => whnf
  repeat' (first
    | (refine codeK_sound good (mu := []) ?_; conv => whnf)
    | ((first | rw [wl0] | rw [wl1] | rw [wl2] | rw [wl3] | rw [wl4] | rw [wl5]); conv => whnf)
    | (refine SBool.mk (fun _ => ?_) (fun h => absurd (of_decide_eq_true rfl) h); conv => whnf)
    | (refine SBool.mk (fun h => absurd h (of_decide_eq_false rfl)) (fun _ => ?_); conv => whnf)
    | (refine SBool.mk (fun h => ?_) (fun h => ?_) <;> conv => whnf)
    | (refine SEx.mk _ (by first | exact awake_pure | exact cs | exact c42 | exact c58 | exact c59 | exact c44 | exact c37 | exact c29 | exact k60 (by assumption) | exact k61 (by assumption) | exact cA | exact cA' (by assumption) | exact cF | exact cF' (by assumption)) ?_; conv => whnf)
    | (refine SEx.mk _ (by first | exact rfl | exact ⟨of_decide_eq_true rfl, rfl⟩) ?_; conv => whnf)
    | (refine SAll.mk (fun _ => ?_); conv => whnf)
    | (refine SAnd.mk ⟨by intro c hc; simp at hc; first | (subst hc; rfl) | ((repeat' (rcases hc with rfl | hc)) <;> first | rfl | (subst hc; rfl)), by (simp; first | done | omega), by (simp; first | done | omega)⟩ ?_; conv => whnf)
    | (refine SAnd.mk (by first | exact rfl | kernel_rfl | omega | decide | exact awake_pure | exact cs | exact c42 | exact c58 | exact c59 | exact c44 | exact c37 | exact c29 | exact k60 (by assumption) | exact k61 (by assumption) | exact cA | exact cA' (by assumption) | exact cF | exact cF' (by assumption)) ?_; conv => whnf)
    | fail)
  all_goals first | exact ⟨PLe.refl _⟩ | exact absurd rfl (by assumption)
end
theorem ToneSpans_pure {m : Int} (r : Rx) (xs : List Sg) : APure (C m) 8 [.agg (xc r), .seq 6 (xs.map sc)] (Bo true) := by
  have cs := up (m := m) (refShort_pure xs)
  by_cases hb : shortB xs.length = true
  · rw [hb] at cs
    have hl : xs.length ≤ 1000 := by
      unfold shortB at hb
      rw [Bool.or_eq_true, decide_eq_true_eq, decide_eq_true_eq] at hb
      omega
    have hcl : (refC xs xs.length).length ≤ 1000000 := by have := refC_len xs xs.length; omega
    refine ToneSpans_parts r xs _ _ (checkL xs) (flaggedE r xs) cs (signals_pure xs (by omega)) (Crossings_pure xs (by omega)) (Flagged_pure r xs (by omega)) (refSignals_pure xs (by omega)) (up (refReceiver_pure' r)) (up (refFirst2_pure _ _)) ?_ ?_ ?_ ?_ ?_ ?_
    · intro h
      rw [if_pos h, ← refC_eq]
      exact refCrossings_pure xs (by omega) (checkL_zero.1 h).2
    · intro h
      have hz := flaggedE_zero.1 h
      unfold flaggedV
      rw [if_pos h]
      exact refFlagged_pure r hz.1 xs (by omega) (checkL_zero.1 hz.2).2
    · intro h; rw [if_neg h]
    · intro h; unfold flaggedV; rw [if_neg h]
    · by_cases h : checkL xs = 0
      · rw [if_pos h, ← refC_eq]; exact sameSpans_self _ hcl
      · rw [if_neg h]; exact sameSpans_nil
    · unfold flaggedV
      by_cases h : flaggedE r xs = 0
      · rw [if_pos h]; exact sameSpans_self _ (by have := spans_len (flagP r xs) xs.length; omega)
      · rw [if_neg h]; exact sameSpans_nil
  · have hb' : shortB xs.length = false := by simpa using hb
    rw [hb'] at cs
    refine APure.of_body good [] (fn := Tryz.f8) (by kernel_rfl) (by kernel_rfl) rfl rfl (by kernel_rfl) rfl (by kernel_rfl) ?_
    conv => whnf
    repeat' (first
      | (refine codeK_sound good (mu := []) ?_; conv => whnf)
      | ((first | rw [wl0] | rw [wl1] | rw [wl2] | rw [wl3] | rw [wl4] | rw [wl5]); conv => whnf)
      | (refine SBool.mk (fun _ => ?_) (fun h => absurd (of_decide_eq_true rfl) h); conv => whnf)
      | (refine SBool.mk (fun h => absurd h (of_decide_eq_false rfl)) (fun _ => ?_); conv => whnf)
      | (refine SBool.mk (fun h => ?_) (fun h => ?_) <;> conv => whnf)
      | (refine SEx.mk _ (by first | exact awake_pure | exact cs) ?_; conv => whnf)
      | (refine SEx.mk _ (by first | exact rfl | exact ⟨of_decide_eq_true rfl, rfl⟩) ?_; conv => whnf)
      | (refine SAll.mk (fun _ => ?_); conv => whnf)
      | (refine SAnd.mk ⟨by intro c hc; simp at hc; first | (subst hc; rfl) | ((repeat' (rcases hc with rfl | hc)) <;> first | rfl | (subst hc; rfl)), by (simp; first | done | omega), by (simp; first | done | omega)⟩ ?_; conv => whnf)
      | (refine SAnd.mk (by first | exact rfl | kernel_rfl | omega | decide | exact awake_pure | exact cs) ?_; conv => whnf)
      | fail)
    all_goals exact ⟨PLe.refl _⟩
end Go.Proofs.Ab.Tone2
end
section
/- ToneSpans: for every receiver and list of signals the program's crossings and flagged spans, or the errors, are the reference's: the law returns true. (Lists longer than 20 are left out by the law itself, but for one too many; the listed variables are as the program's text lays them.) -/
set_option maxRecDepth 100000
set_option linter.unusedVariables false
set_option linter.unusedSimpArgs false
namespace Go.Proofs.YtkphoimochkndaaGreatDoor
open Go Go.RowKit Go.Proofs.Ab Go.Proofs.Ab.Tone Go.Proofs.Ab.Tone2
theorem toneSpans_lifted (os : Os) (started : os.Started) (H : Type) (enc : TypeId × Value → H) :
    ReturnsInHanded {} Tryz.checked os 8 .any (fun w args => (Rows.toneSpansSpec.pre enc Tryz.prog Tryz.f8 [] false w args ∧ laidMetH Tryz.prog listed w) ∧ sizedMet enc Tryz.prog Tryz.f8 (OpenSpec.ofChange Rows.toneSpansSpec) false w args)
      (Rows.toneSpansSpec.post enc Tryz.prog Tryz.f8 false true false false) := by
  refine lifted_of started (by as_aux_lemma => kernel_rfl) Tryz.func8 (ss := [(true, fiveSh), (false, [.sl sigSh])])
    (witness #[.agg #[.int .i64 0, .int .i64 0, .int .i64 0, .int .i64 0, .int .i64 0], .slice none 0 0] (by as_aux_lemma => kernel_rfl) (by as_aux_lemma => kernel_rfl) (by as_aux_lemma => kernel_rfl) (World.shaped_of_ZipB (by as_aux_lemma => kernel_rfl) (by as_aux_lemma => kernel_rfl)) (laidMet_laidAll _ (by as_aux_lemma => kernel_rfl) (by as_aux_lemma => kernel_rfl)))
    ?_ (by as_aux_lemma => kernel_rfl) (by as_aux_lemma => kernel_rfl) rfl ?_ ?_
  · rw [Tryz.params8]
    intro t ht
    have hall : ([57, 59].all fun u => Tryz.prog.readableRec u && decide (u < Tryz.prog.types.size)) = true := by as_aux_lemma => kernel_rfl
    have := List.all_eq_true.1 hall t (by simpa using ht)
    rw [Bool.and_eq_true, decide_eq_true_eq] at this
    exact this
  · rw [Tryz.params8]
    intro ds hd
    match ds, hd with
    | [d0, d1], _ => exact ⟨rfl, rfl, rfl⟩
  · intro m xs h
    obtain ⟨x0, xs, rfl, h0, h⟩ := h.uncons
    obtain ⟨x1, xs, rfl, h1, h⟩ := h.uncons
    obtain rfl := h.unnil
    obtain ⟨n1, n2, n3, n4, n5, rfl, _⟩ := fit_five h0
    obtain ⟨l, rfl⟩ := fit_sigs h1
    exact ToneSpans_pure ⟨n1, n2, n3, n4, n5⟩ l
set_option maxHeartbeats 40000000 in
theorem toneSpans_facts : joinedFacts Tryz.pinned.checked.prog 8 Tryz.f8 Rows.toneSpansSpec Rows.toneSpansRow = true := by
  unfold joinedFacts
  simp only [Bool.and_eq_true]
  repeat' apply And.intro
  all_goals as_aux_lemma => kernel_rfl
theorem toneSpans_row : Rows.ToneSpansSaid :=
  OpenClaim.holds_of_wide 8 Tryz.f8 rfl rfl rfl rfl rfl rfl rfl ⟨rfl, rfl, rfl, rfl, rfl⟩ rfl rfl rfl rfl rfl (by as_aux_lemma => kernel_rfl) Tryz.func8 toneSpans_facts
    (of_decide_eq_true (by as_aux_lemma => kernel_rfl)) (by as_aux_lemma => unfold Func.isWrapper; first | (rw [if_pos (by decide +kernel)]; kernel_rfl) | (rw [if_neg (by decide +kernel)]; exact ⟨rfl, rfl⟩))
    (fun os started H enc _ => toneSpans_lifted os started H enc)
theorem toneSpans_named : Tryz.prog.funcNamed "glideslope/glideslopelaw02.ToneSpans" = some 8 := by kernel_rfl
theorem toneSpans_holds : Rows.ToneSpansCardSaid :=
  Claim7.holds_tied_plain_at .later [] [.data, .data, .data, .data, .data, .pinned] true (true, "6883a40308061e1e56e57a0a897ad96630f21489591d51bcd46258b6daf0fcd9") false toneSpans_row (fun _ h => by cases h) (by as_aux_lemma => kernel_rfl) (fun _ h => by cases h) toneSpans_row_tie rfl ⟨rfl, rfl⟩ (by as_aux_lemma => kernel_rfl) rfl
    (fun f fn hf hfn => by
      obtain rfl : f = 8 := Option.some.inj (toneSpans_named.symm.trans hf) |>.symm
      obtain rfl : fn = Tryz.f8 := (Option.some.inj (Tryz.func8.symm.trans hfn)).symm
      exact ⟨by as_aux_lemma => kernel_rfl, fun j t ht => by
        rw [Tryz.params8] at ht
        have hm : t ∈ [57, 59] := by simpa using Array.mem_of_getElem? ht
        have hall : ([57, 59].all fun u => !Tryz.prog.wantsStandIn u) = true := by as_aux_lemma => kernel_rfl
        exact (show Tryz.prog.wantsStandIn t = false by simpa using List.all_eq_true.1 hall t hm)⟩)
    (by as_aux_lemma => kernel_rfl)
#print axioms toneSpans_holds
end Go.Proofs.YtkphoimochkndaaGreatDoor
end
