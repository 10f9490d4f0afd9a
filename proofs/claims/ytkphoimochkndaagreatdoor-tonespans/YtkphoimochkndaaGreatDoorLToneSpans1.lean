/- The proof of ToneSpans (see the last theorem): for every input that can be read the law returns true; the listed package-level variables are as the program's text lays them. -/
import Derived.Test.YtkphoimochkndaaGreatDoorK6
section
/- The reference's signals and its follower; the law's lists. -/
set_option maxRecDepth 100000
set_option linter.unusedVariables false
set_option linter.unusedSimpArgs false
namespace Go.Proofs.Ab.Tone2
open Go Go.RowKit Go.Proofs.Ab Go.Proofs.Ab.Tone
theorem checks_drop {xs : List Sg} {k : Nat} (h : k < xs.length) : firstOf ((xs.drop k).map checkE) = if checkE xs[k] = 0 then firstOf ((xs.drop (k + 1)).map checkE) else checkE xs[k] := by
  rw [List.drop_eq_getElem_cons h]
  rfl
theorem refCheckSignal_pure' (s : Sg) : APure Tone.C 18 [.agg (sc s)] (I (checkE s)) := refCheckE_eq s ▸ refCheckSignal_pure s
theorem checkL_small {xs : List Sg} (h0 : ¬ ((xs.map sc).length : Int) = 0) (h1 : ¬ 256 < ((xs.map sc).length : Int)) : checkL xs = firstOf (xs.map checkE) := by
  have e0 : (xs.map sc).length = xs.length := by simp
  rw [e0] at h0 h1
  have hz : sizedE xs.length 256 = 0 := by
    unfold sizedE
    rw [if_neg (by omega), if_neg (by omega)]
  unfold checkL
  rw [hz]
  simp only [firstOf]
  by_cases h : firstOf (xs.map checkE) = 0 <;> simp [h]
theorem checkL_big {xs : List Sg} (h1 : 256 < ((xs.map sc).length : Int)) : checkL xs = 5 := by
  have e0 : (xs.map sc).length = xs.length := by simp
  rw [e0] at h1
  have hz : sizedE xs.length 256 = 5 := by
    unfold sizedE
    rw [if_neg (by omega), if_pos (by omega)]
  unfold checkL
  rw [hz]
  simp [firstOf]
theorem checkL_none {xs : List Sg} (h1 : ((xs.map sc).length : Int) = 0) : checkL xs = 12 := by
  have e0 : (xs.map sc).length = xs.length := by simp
  rw [e0] at h1
  have hz : sizedE xs.length 256 = 12 := by
    unfold sizedE
    rw [if_pos (by omega)]
  unfold checkL
  rw [hz]
  simp [firstOf]
theorem refSignals_pure {m : Int} (xs : List Sg) (hl : xs.length ≤ 1000000) : APure (C m) 44 [.seq 6 (xs.map sc)] (I (checkL xs)) := by
  have e0 : (xs.map sc).length = xs.length := by simp
  refine APure.of_body good [] (fn := Tryz.f44) (by kernel_rfl) (by kernel_rfl) rfl rfl (by kernel_rfl) rfl (by kernel_rfl) ?_
  conv => whnf
  repeat' (first
    | (refine codeK_sound good (mu := []) ?_; conv => whnf)
    | ((first | rw [wl0] | rw [wl1] | rw [wl2] | rw [wl3] | rw [wl4] | rw [wl5]); conv => whnf)
    | (refine SBool.mk (fun _ => ?_) (fun h => absurd (of_decide_eq_true rfl) h); conv => whnf)
    | (refine SBool.mk (fun h => absurd h (of_decide_eq_false rfl)) (fun _ => ?_); conv => whnf)
    | (refine SBool.mk (fun h => ?_) (fun h => ?_) <;> conv => whnf)
    | (refine SEx.mk _ (by first | exact up (refWhen_pure _ _) | exact up (refFirst2_pure _ _)) ?_; conv => whnf)
    | (refine SEx.mk _ (by first | exact rfl | exact ⟨of_decide_eq_true rfl, rfl⟩) ?_; conv => whnf)
    | (refine SAll.mk (fun _ => ?_); conv => whnf)
    | (refine SAnd.mk ⟨by intro c hc; simp at hc; first | (subst hc; rfl) | ((repeat' (rcases hc with rfl | hc)) <;> first | rfl | (subst hc; rfl)), by (simp; first | done | omega), by (simp; first | done | omega)⟩ ?_; conv => whnf)
    | (refine SAnd.mk (by first | exact rfl | kernel_rfl | omega | decide | exact up (refWhen_pure _ _) | exact up (refFirst2_pure _ _)) ?_; conv => whnf)
    | fail)
  · rename_i h0 h1
    exact absurd h1 (by omega)
  · rename_i h0 h1
    exact ⟨PLe.of_eq (by rw [checkL_none h0]; rfl)⟩
  · rename_i h0 h1
    exact ⟨PLe.of_eq (by rw [checkL_big h]; rfl)⟩
  · rename_i h0 h1
    have hc := checkL_small h0 h
    refine ⟨AWp.loop (ι := { k : Nat // k ≤ xs.length ∧ firstOf (xs.map checkE) = firstOf ((xs.drop k).map checkE) }) (fun k => ⟨[(4, .p (I k.1)), (0, .p (.seq 6 (xs.map sc)))], [], [], 0, [], [], []⟩) (fun k => xs.length - k.1) ⟨0, by simp⟩ ?_ ?_⟩
    · skip
      · refine SLe.of [] [] rfl rfl ?_
        conv => whnf
        repeat' (first
        | exact True.intro
        | (refine SAnd.mk (PLe.of_eq (by simp only [wrapK]; rw [wrap_id (by first | omega | (simp only; done) | (simp only; omega) | simp) (by first | omega | (simp only; done) | (simp only; omega) | simp)]; simp)) ?_; conv => whnf)
        | (refine SAnd.mk (PLe.refl _) ?_; conv => whnf)
        | (refine SAnd.mk (PLeL.refl _) ?_; conv => whnf)
        | (refine SAnd.mk (PLe.of_eq (by simp)) ?_; conv => whnf)
        | (refine SAnd.mk rfl ?_; conv => whnf)
        | (refine SAnd.mk ⟨rfl, rfl⟩ ?_; conv => whnf)
        | (refine SAnd.mk ⟨rfl, rfl, rfl⟩ ?_; conv => whnf))
    · rintro ⟨k, hk, he⟩
      refine codeK_sound good (mu := []) ?_
      conv => whnf
      refine SBool.mk (fun hq => ?_) (fun hq => ?_)
      · conv => whnf
        have hkl : k < xs.length := by simpa using hq
        refine SEx.mk (sc xs[k]) (by simp [hkl]) ?_
        conv => whnf
        conv => whnf
        repeat' (first
          | (refine codeK_sound good (mu := []) ?_; conv => whnf)
          | ((first | rw [wl0] | rw [wl1] | rw [wl2] | rw [wl3] | rw [wl4] | rw [wl5]); conv => whnf)
          | (refine SBool.mk (fun _ => ?_) (fun h => absurd (of_decide_eq_true rfl) h); conv => whnf)
          | (refine SBool.mk (fun h => absurd h (of_decide_eq_false rfl)) (fun _ => ?_); conv => whnf)
          | (refine SBool.mk (fun h => ?_) (fun h => ?_) <;> conv => whnf)
          | (refine SEx.mk _ (by first | exact up (refCheckSignal_pure' xs[k])) ?_; conv => whnf)
          | (refine SEx.mk _ (by first | exact rfl | exact ⟨of_decide_eq_true rfl, rfl⟩) ?_; conv => whnf)
          | (refine SAll.mk (fun _ => ?_); conv => whnf)
          | (refine SAnd.mk ⟨by intro c hc; simp at hc; first | (subst hc; rfl) | ((repeat' (rcases hc with rfl | hc)) <;> first | rfl | (subst hc; rfl)), by (simp; first | done | omega), by (simp; first | done | omega)⟩ ?_; conv => whnf)
          | (refine SAnd.mk (by first | exact rfl | kernel_rfl | omega | decide | exact up (refCheckSignal_pure' xs[k])) ?_; conv => whnf)
          | fail)
        · refine ⟨⟨k + 1, by omega, by rw [he, checks_drop hkl, if_pos h]⟩, by simp only; omega, ?_⟩
          skip
          · refine SLe.of [] [] rfl rfl ?_
            conv => whnf
            repeat' (first
            | exact True.intro
            | (refine SAnd.mk (PLe.of_eq (by simp only [wrapK]; rw [wrap_id (by first | omega | (simp only; done) | (simp only; omega) | simp) (by first | omega | (simp only; done) | (simp only; omega) | simp)]; simp)) ?_; conv => whnf)
            | (refine SAnd.mk (PLe.refl _) ?_; conv => whnf)
            | (refine SAnd.mk (PLeL.refl _) ?_; conv => whnf)
            | (refine SAnd.mk (PLe.of_eq (by simp)) ?_; conv => whnf)
            | (refine SAnd.mk rfl ?_; conv => whnf)
            | (refine SAnd.mk ⟨rfl, rfl⟩ ?_; conv => whnf)
            | (refine SAnd.mk ⟨rfl, rfl, rfl⟩ ?_; conv => whnf))
        · exact ⟨PLe.of_eq (by rw [hc, he, checks_drop hkl, if_neg h])⟩
      · conv => whnf
        have : k = xs.length := by simp at hq; omega
        exact ⟨PLe.of_eq (by rw [hc, he, this]; simp [firstOf])⟩
theorem refFollowed_pure {m : Int} (r : Rx) (hr : RxOk r) (lag start : Int) (hlag : 1 ≤ lag) (hs : -1000 ≤ start ∧ start ≤ 1000) (xs : List Sg) (hl : xs.length ≤ 1000000) (hx : ∀ s ∈ xs, Ok s) :
    APure (C m) 45 [.agg (xc r), I lag, I start, .seq 6 (xs.map sc)] (.seq 1 (cells1 (followL r lag start xs xs.length))) := by
  refine APure.of_body good [] (fn := Tryz.f45) (by kernel_rfl) (by kernel_rfl) rfl rfl (by kernel_rfl) rfl (by kernel_rfl) ?_
  conv => whnf
  repeat' (first
    | (refine codeK_sound good (mu := []) ?_; conv => whnf)
    | ((first | rw [wl0] | rw [wl1] | rw [wl2] | rw [wl3] | rw [wl4] | rw [wl5]); conv => whnf)
    | (refine SBool.mk (fun _ => ?_) (fun h => absurd (of_decide_eq_true rfl) h); conv => whnf)
    | (refine SBool.mk (fun h => absurd h (of_decide_eq_false rfl)) (fun _ => ?_); conv => whnf)
    | (refine SBool.mk (fun h => ?_) (fun h => ?_) <;> conv => whnf)
    | (refine SEx.mk _ (by first | exact rfl | exact ⟨of_decide_eq_true rfl, rfl⟩) ?_; conv => whnf)
    | (refine SAll.mk (fun _ => ?_); conv => whnf)
    | (refine SAnd.mk ⟨by intro c hc; simp at hc; first | (subst hc; rfl) | ((repeat' (rcases hc with rfl | hc)) <;> first | rfl | (subst hc; rfl)), by (simp; first | done | omega), by (simp; first | done | omega)⟩ ?_; conv => whnf)
    | (refine SAnd.mk (by first | exact rfl | kernel_rfl | omega | decide) ?_; conv => whnf)
    | fail)
  refine ⟨AWp.loop (ι := { k : Nat // k ≤ xs.length }) (fun k => ⟨[(11, .p (I k.1)), (10, .p (I (needleAt r lag start xs k.1))), (9, .own 0), (4, .p (.ref (xc r))), (1, .p (I lag)), (3, .p (.seq 6 (xs.map sc)))], [], [(0, (3, 1, cells1 (followL r lag start xs k.1)))], 1, [], [], []⟩) (fun k => xs.length - k.1) ⟨0, by simp⟩ ?_ ?_⟩
  · refine SLe.row 9 3 1 ?_
    conv => whnf
    skip
    · refine SLe.of [] [(0, 0)] rfl rfl ?_
      conv => whnf
      repeat' (first
      | exact True.intro
      | (refine SAnd.mk (PLe.of_eq (by simp only [wrapK]; rw [wrap_id (by first | omega | (simp only; done) | (simp only; omega) | simp) (by first | omega | (simp only; done) | (simp only; omega) | simp)]; simp)) ?_; conv => whnf)
      | (refine SAnd.mk (PLe.refl _) ?_; conv => whnf)
      | (refine SAnd.mk (PLeL.refl _) ?_; conv => whnf)
      | (refine SAnd.mk (PLe.of_eq (by simp)) ?_; conv => whnf)
      | (refine SAnd.mk rfl ?_; conv => whnf)
      | (refine SAnd.mk ⟨rfl, rfl⟩ ?_; conv => whnf)
      | (refine SAnd.mk ⟨rfl, rfl, rfl⟩ ?_; conv => whnf))
  · rintro ⟨k, hk⟩
    refine codeK_sound good (mu := []) ?_
    conv => whnf
    refine SBool.mk (fun hc => ?_) (fun hc => ?_)
    · conv => whnf
      have hkl : k < xs.length := by simpa using hc
      have hnb := needle_bound hr hlag hs (xs := xs) k hk
      have htb := toldI_bound hr xs[k]
      have hsb := step_bound hlag htb hnb
      have w1 : wrapK IntKind.i64 (toldI r xs[k] - needleAt r lag start xs k) = toldI r xs[k] - needleAt r lag start xs k := w64 (by omega)
      have w2 : wrapK IntKind.i64 (needleAt r lag start xs k + (toldI r xs[k] - needleAt r lag start xs k) / lag) = needleAt r lag start xs k + (toldI r xs[k] - needleAt r lag start xs k) / lag := w64 (by omega)
      have hsome : 0 ≤ (k : Int) ∧ (xs.map sc)[((k : Int)).toNat]? = some (sc xs[k]) := ⟨by omega, by show (xs.map sc)[k]? = _; simp [hkl]⟩
      conv => whnf
      repeat' (first
        | (refine codeK_sound good (mu := []) ?_; conv => whnf)
        | ((first | rw [wl0] | rw [wl1] | rw [wl2] | rw [wl3] | rw [wl4] | rw [wl5]); conv => whnf)
        | (rw [w2]; conv => whnf)
        | (rw [w1]; conv => whnf)
        | (refine SBool.mk (fun _ => ?_) (fun h => absurd (of_decide_eq_true rfl) h); conv => whnf)
        | (refine SBool.mk (fun h => absurd h (of_decide_eq_false rfl)) (fun _ => ?_); conv => whnf)
        | (refine SBool.mk (fun h => ?_) (fun h => ?_) <;> conv => whnf)
        | (refine SEx.mk _ (by first | exact hsome | exact up (refTold_pure r xs[k] hr (hx _ (List.getElem_mem hkl))) | exact eql_string _ _ _ | exact up (refFloor_pure _ _ (by omega) (by omega))) ?_; conv => whnf)
        | (refine SEx.mk _ (by first | exact rfl | exact ⟨of_decide_eq_true rfl, rfl⟩) ?_; conv => whnf)
        | (refine SAll.mk (fun _ => ?_); conv => whnf)
        | (refine SAnd.mk (by first | exact hsome) ?_; conv => whnf)
        | (refine SAnd.mk ⟨by intro c hc; simp at hc; first | (subst hc; rfl) | ((repeat' (rcases hc with rfl | hc)) <;> first | rfl | (subst hc; rfl)), by (simp; first | done | omega), by (simp; first | done | omega)⟩ ?_; conv => whnf)
        | (refine SAnd.mk (by first | exact rfl | kernel_rfl | omega | decide | exact hsome | exact up (refTold_pure r xs[k] hr (hx _ (List.getElem_mem hkl))) | exact eql_string _ _ _ | exact up (refFloor_pure _ _ (by omega) (by omega))) ?_; conv => whnf)
        | fail)
      · have hz : flagB r xs[k] = bNone := of_decide_eq_true h
        have hstep : stepN r lag (needleAt r lag start xs k) xs[k] = needleAt r lag start xs k + (toldI r xs[k] - needleAt r lag start xs k) / lag := by unfold stepN; rw [if_pos hz]
        refine SAnd.mk ⟨by intro c hc; simp at hc; subst hc; rfl, by simp [cells1, followL]; omega, by simp [cells1, followL]; omega⟩ ?_
        conv => whnf
        refine ⟨⟨k + 1, by omega⟩, by simp only; omega, ?_⟩
        skip
        · refine SLe.of [] [(0, 11)] rfl rfl ?_
          conv => whnf
          repeat' (first
          | exact True.intro
          | (refine SAnd.mk (PLe.of_eq (by simp only; rw [needleAt_succ hkl, hstep])) ?_; conv => whnf)
          | (refine SAnd.mk ((by simp only; rw [followL_succ, needleAt_succ hkl, hstep])) ?_; conv => whnf)
          | (refine SAnd.mk (PLe.of_eq (by simp only [wrapK]; rw [wrap_id (by first | omega | (simp only; done) | (simp only; omega) | simp) (by first | omega | (simp only; done) | (simp only; omega) | simp)]; simp)) ?_; conv => whnf)
          | (refine SAnd.mk (PLe.refl _) ?_; conv => whnf)
          | (refine SAnd.mk (PLeL.refl _) ?_; conv => whnf)
          | (refine SAnd.mk (PLe.of_eq (by simp)) ?_; conv => whnf)
          | (refine SAnd.mk rfl ?_; conv => whnf)
          | (refine SAnd.mk ⟨rfl, rfl⟩ ?_; conv => whnf)
          | (refine SAnd.mk ⟨rfl, rfl, rfl⟩ ?_; conv => whnf))
      · have hz : ¬ flagB r xs[k] = bNone := of_decide_eq_false (by simpa using h)
        have hstep : stepN r lag (needleAt r lag start xs k) xs[k] = needleAt r lag start xs k := by unfold stepN; rw [if_neg hz]
        refine SAnd.mk ⟨by intro c hc; simp at hc; subst hc; rfl, by simp [cells1, followL]; omega, by simp [cells1, followL]; omega⟩ ?_
        conv => whnf
        refine ⟨⟨k + 1, by omega⟩, by simp only; omega, ?_⟩
        skip
        · refine SLe.of [] [(0, 11)] rfl rfl ?_
          conv => whnf
          repeat' (first
          | exact True.intro
          | (refine SAnd.mk (PLe.of_eq (by simp only; rw [needleAt_succ hkl, hstep])) ?_; conv => whnf)
          | (refine SAnd.mk ((by simp only; rw [followL_succ, needleAt_succ hkl, hstep])) ?_; conv => whnf)
          | (refine SAnd.mk (PLe.of_eq (by simp only [wrapK]; rw [wrap_id (by first | omega | (simp only; done) | (simp only; omega) | simp) (by first | omega | (simp only; done) | (simp only; omega) | simp)]; simp)) ?_; conv => whnf)
          | (refine SAnd.mk (PLe.refl _) ?_; conv => whnf)
          | (refine SAnd.mk (PLeL.refl _) ?_; conv => whnf)
          | (refine SAnd.mk (PLe.of_eq (by simp)) ?_; conv => whnf)
          | (refine SAnd.mk rfl ?_; conv => whnf)
          | (refine SAnd.mk ⟨rfl, rfl⟩ ?_; conv => whnf)
          | (refine SAnd.mk ⟨rfl, rfl, rfl⟩ ?_; conv => whnf))
    · conv => whnf
      have : k = xs.length := by simp at hc; omega
      subst this
      exact ⟨PLe.refl _⟩
/-- The law's list of signals as the program's. -/
theorem signals_pure {m : Int} (xs : List Sg) (hl : xs.length ≤ 1000000) : APure (C m) 42 [.seq 6 (xs.map sc)] (.seq 6 (xs.map sc)) := by
  refine APure.of_body good [] (fn := Tryz.f42) (by kernel_rfl) (by kernel_rfl) rfl rfl (by kernel_rfl) rfl (by kernel_rfl) ?_
  conv => whnf
  repeat' (first
    | (refine codeK_sound good (mu := []) ?_; conv => whnf)
    | ((first | rw [wl0] | rw [wl1] | rw [wl2] | rw [wl3] | rw [wl4] | rw [wl5]); conv => whnf)
    | (refine SBool.mk (fun _ => ?_) (fun h => absurd (of_decide_eq_true rfl) h); conv => whnf)
    | (refine SBool.mk (fun h => absurd h (of_decide_eq_false rfl)) (fun _ => ?_); conv => whnf)
    | (refine SBool.mk (fun h => ?_) (fun h => ?_) <;> conv => whnf)
    | (refine SEx.mk _ (by first | exact rfl | exact ⟨of_decide_eq_true rfl, rfl⟩) ?_; conv => whnf)
    | (refine SAll.mk (fun _ => ?_); conv => whnf)
    | (refine SAnd.mk ⟨by intro c hc; simp at hc; first | (subst hc; rfl) | ((repeat' (rcases hc with rfl | hc)) <;> first | rfl | (subst hc; rfl)), by (simp; first | done | omega), by (simp; first | done | omega)⟩ ?_; conv => whnf)
    | (refine SAnd.mk (by first | exact rfl | kernel_rfl | omega | decide) ?_; conv => whnf)
    | fail)
  refine ⟨AWp.loop (ι := { k : Nat // k ≤ xs.length }) (fun k => ⟨[(8, .p (I k.1)), (7, .p (I xs.length)), (6, .p (.seq 6 (xs.map sc))), (3, .own 0)], [], [(0, (32, 6, (xs.take k.1).map sc))], 1, [], [], []⟩) (fun k => xs.length - k.1) ⟨0, by simp⟩ ?_ ?_⟩
  · refine SLe.row 3 32 6 ?_
    conv => whnf
    skip
    · refine SLe.of [] [(0, 0)] rfl rfl ?_
      conv => whnf
      repeat' (first
      | exact True.intro
      | (refine SAnd.mk (PLe.of_eq (by simp only [wrapK]; rw [wrap_id (by first | omega | (simp only; done) | (simp only; omega) | simp) (by first | omega | (simp only; done) | (simp only; omega) | simp)]; simp)) ?_; conv => whnf)
      | (refine SAnd.mk (PLe.refl _) ?_; conv => whnf)
      | (refine SAnd.mk (PLeL.refl _) ?_; conv => whnf)
      | (refine SAnd.mk (PLe.of_eq (by simp)) ?_; conv => whnf)
      | (refine SAnd.mk rfl ?_; conv => whnf)
      | (refine SAnd.mk ⟨rfl, rfl⟩ ?_; conv => whnf)
      | (refine SAnd.mk ⟨rfl, rfl, rfl⟩ ?_; conv => whnf))
  · rintro ⟨k, hk⟩
    refine codeK_sound good (mu := []) ?_
    conv => whnf
    refine SBool.mk (fun hc => ?_) (fun hc => ?_)
    · conv => whnf
      have hkl : k < xs.length := by simpa using hc
      have hsome : 0 ≤ (k : Int) ∧ (xs.map sc)[((k : Int)).toNat]? = some (sc xs[k]) := ⟨by omega, by show (xs.map sc)[k]? = _; simp [hkl]⟩
      conv => whnf
      repeat' (first
        | (refine codeK_sound good (mu := []) ?_; conv => whnf)
        | ((first | rw [wl0] | rw [wl1] | rw [wl2] | rw [wl3] | rw [wl4] | rw [wl5]); conv => whnf)
        | (refine SBool.mk (fun _ => ?_) (fun h => absurd (of_decide_eq_true rfl) h); conv => whnf)
        | (refine SBool.mk (fun h => absurd h (of_decide_eq_false rfl)) (fun _ => ?_); conv => whnf)
        | (refine SBool.mk (fun h => ?_) (fun h => ?_) <;> conv => whnf)
        | (refine SEx.mk _ (by first | exact hsome) ?_; conv => whnf)
        | (refine SEx.mk _ (by first | exact rfl | exact ⟨of_decide_eq_true rfl, rfl⟩) ?_; conv => whnf)
        | (refine SAll.mk (fun _ => ?_); conv => whnf)
        | (refine SAnd.mk (by first | exact hsome) ?_; conv => whnf)
        | (refine SAnd.mk ⟨by intro c hc; simp at hc; first | (subst hc; rfl) | ((repeat' (rcases hc with rfl | hc)) <;> first | rfl | (subst hc; rfl)), by (simp; first | done | omega), by (simp; first | done | omega)⟩ ?_; conv => whnf)
        | (refine SAnd.mk (by first | exact rfl | kernel_rfl | omega | decide | exact hsome) ?_; conv => whnf)
        | fail)
      refine ⟨⟨k + 1, by omega⟩, by simp only; omega, ?_⟩
      skip
      · refine SLe.of [] [(0, 2)] rfl rfl ?_
        conv => whnf
        repeat' (first
        | exact True.intro
        | (refine SAnd.mk ((take_map_succ hkl _).symm) ?_; conv => whnf)
        | (refine SAnd.mk (PLe.of_eq (by simp only [wrapK]; rw [wrap_id (by first | omega | (simp only; done) | (simp only; omega) | simp) (by first | omega | (simp only; done) | (simp only; omega) | simp)]; simp)) ?_; conv => whnf)
        | (refine SAnd.mk (PLe.refl _) ?_; conv => whnf)
        | (refine SAnd.mk (PLeL.refl _) ?_; conv => whnf)
        | (refine SAnd.mk (PLe.of_eq (by simp)) ?_; conv => whnf)
        | (refine SAnd.mk rfl ?_; conv => whnf)
        | (refine SAnd.mk ⟨rfl, rfl⟩ ?_; conv => whnf)
        | (refine SAnd.mk ⟨rfl, rfl, rfl⟩ ?_; conv => whnf))
    · conv => whnf
      have : k = xs.length := by simp at hc; omega
      subst this
      exact ⟨PLe.of_eq (by simp)⟩
end Go.Proofs.Ab.Tone2
end
section
/- The reference's crossings as a list, and that it is the program's. -/
set_option maxRecDepth 100000
set_option linter.unusedVariables false
set_option linter.unusedSimpArgs false
namespace Go.Proofs.Ab.Tone2
open Go Go.RowKit Go.Proofs.Ab Go.Proofs.Ab.Tone
/-- One more zero at index k. -/
def refZ (xs : List Sg) (ys : List Sp) (k : Nat) : List Sp :=
  if zeroP xs k then (if decide (0 < k) && zeroP xs (k - 1) then ys.dropLast ++ [((ys.getLast?.map (·.1)).getD 0, (k : Int) + 1)] else ys ++ [((k : Int), (k : Int) + 1)]) else ys
def refC (xs : List Sg) : Nat → List Sp
  | 0 => []
  | k + 1 => if crossB xs (k + 1) then refZ xs (refC xs k) k ++ [((k : Int), (k : Int) + 2)] else refZ xs (refC xs k) k
theorem spans_last (p : Nat → Bool) : ∀ k, match (spans p k).getLast? with
    | some q => q.2 ≤ (k : Int) ∧ (q.2 = (k : Int) ↔ 0 < k ∧ p (k - 1) = true)
    | none => ¬ (0 < k ∧ p (k - 1) = true)
  | 0 => by simp [spans]
  | k + 1 => by
    have ih := spans_last p k
    unfold spans
    cases hp : p k with
    | true =>
      simp only [if_true]
      unfold joinP
      cases hl : (spans p k).getLast? with
      | none => simp [hp]
      | some q =>
        by_cases hq : q.2 = (k : Int)
        · simp [hq, hp]
        · simp [hq, hp]
    | false =>
      simp only [Bool.false_eq_true, if_false]
      cases hl : (spans p k).getLast? with
      | none => simp [hp]
      | some q =>
        rw [hl] at ih
        simp only at ih ⊢
        refine ⟨by omega, ?_⟩
        simp [hp]
        omega
theorem crossP_succ (xs : List Sg) (k : Nat) : crossP xs (k + 2) = if crossB xs (k + 1) then crossP xs (k + 1) ++ [((k : Int), (k : Int) + 2)] else crossP xs (k + 1) := by
  show (if crossB xs (k + 1) then crossP xs (k + 1) ++ [(((k + 1 : Nat) : Int) - 1, ((k + 1 : Nat) : Int) + 1)] else crossP xs (k + 1)) = _
  rw [show (((k + 1 : Nat) : Int) - 1) = (k : Int) by omega, show (((k + 1 : Nat) : Int) + 1) = (k : Int) + 2 by omega]
theorem perm_snoc {a b c : List Sp} {x : Sp} (h : a.Perm (b ++ c)) : (a ++ [x]).Perm (b ++ [x] ++ c) := by
  have h1 := h.append_right [x]
  rw [List.append_assoc] at h1 ⊢
  refine h1.trans ?_
  exact List.Perm.append_left b List.perm_append_comm
theorem sorted_snoc {a : List Sp} {x : Sp} (h : a.Pairwise fun x y => x.1 ≤ y.1) (hx : ∀ q ∈ a, q.1 ≤ x.1) : (a ++ [x]).Pairwise fun x y => x.1 ≤ y.1 := by
  rw [List.pairwise_append]
  refine ⟨h, by simp, fun p hp q hq => ?_⟩
  simp at hq
  subst hq
  exact hx p hp
structure RefI (xs : List Sg) (k : Nat) : Prop where
  perm : (refC xs k).Perm (crossP xs (k + 1) ++ spans (zeroP xs) k)
  sort : (refC xs k).Pairwise fun x y => x.1 ≤ y.1
  lt : ∀ q ∈ refC xs k, q.1 < (k : Int)
  last : 0 < k → zeroP xs (k - 1) = true → ∃ a z q, refC xs k = a ++ [q] ∧ spans (zeroP xs) k = z ++ [q] ∧ q.2 = (k : Int) ∧ a.Perm (crossP xs (k + 1) ++ z)
theorem refI (xs : List Sg) : ∀ k, RefI xs k
  | 0 => ⟨by simp [refC, crossP, spans, crossB], by simp [refC], by simp [refC], fun h => absurd h (by decide)⟩
  | k + 1 => by
    have ih := refI xs k
    have hsl := spans_last (zeroP xs) k
    have hs1 : spans (zeroP xs) (k + 1) = if zeroP xs k then joinP (spans (zeroP xs) k) k else spans (zeroP xs) k := rfl
    have hc1 : refC xs (k + 1) = if crossB xs (k + 1) then refZ xs (refC xs k) k ++ [((k : Int), (k : Int) + 2)] else refZ xs (refC xs k) k := rfl
    have hp1 := crossP_succ xs k
    cases hz : zeroP xs k with
    | true =>
      have hcb : crossB xs (k + 1) = false := by
        cases hb : crossB xs (k + 1) with
        | false => rfl
        | true => have := cross_zero hb; rw [hz] at this; cases this
      rw [hcb] at hc1 hp1
      rw [hz] at hs1
      simp only [Bool.false_eq_true, if_false, if_true] at hc1 hp1 hs1
      by_cases hk : 0 < k ∧ zeroP xs (k - 1) = true
      · obtain ⟨a, z, q, e1, e2, e3, e4⟩ := ih.last hk.1 hk.2
        have er : refC xs (k + 1) = a ++ [(q.1, (k : Int) + 1)] := by
          rw [hc1]; unfold refZ; rw [hz, if_pos rfl, if_pos (by simp [hk]), e1]; simp
        have es : spans (zeroP xs) (k + 1) = z ++ [(q.1, (k : Int) + 1)] := by
          rw [hs1, e2]; unfold joinP; simp [e3]
        have hso := ih.sort
        have hlt := ih.lt
        rw [e1] at hso hlt
        have hq := hlt q (by simp)
        refine ⟨?_, ?_, ?_, fun _ _ => ⟨a, z, _, er, es, by simp, by rw [hp1]; exact e4⟩⟩
        · rw [er, es, hp1, ← List.append_assoc]; exact e4.append_right _
        · rw [er]
          rw [List.pairwise_append] at hso ⊢
          refine ⟨hso.1, by simp, fun p hp y hy => ?_⟩
          simp at hy
          subst hy
          exact hso.2.2 p hp q (by simp)
        · rw [er]
          intro y hy
          rcases List.mem_append.1 hy with hy | hy
          · have := hlt y (List.mem_append_left _ hy); omega
          · simp at hy; subst hy; simp only; omega
      · have er : refC xs (k + 1) = refC xs k ++ [((k : Int), (k : Int) + 1)] := by
          rw [hc1]; unfold refZ; rw [hz, if_pos rfl, if_neg (by simpa using hk)]
        have es : spans (zeroP xs) (k + 1) = spans (zeroP xs) k ++ [((k : Int), (k : Int) + 1)] := by
          rw [hs1]; unfold joinP
          cases hl : (spans (zeroP xs) k).getLast? with
          | none => rfl
          | some q =>
            rw [hl] at hsl
            simp only at hsl ⊢
            rw [if_neg (fun e => hk (hsl.2.1 e))]
        refine ⟨?_, ?_, ?_, fun _ _ => ⟨refC xs k, spans (zeroP xs) k, _, er, es, by simp, by rw [hp1]; exact ih.perm⟩⟩
        · rw [er, es, hp1, ← List.append_assoc]; exact ih.perm.append_right _
        · rw [er]; exact sorted_snoc ih.sort fun q hq => by have := ih.lt q hq; simp only; omega
        · rw [er]
          intro y hy
          rcases List.mem_append.1 hy with hy | hy
          · have := ih.lt y hy; omega
          · simp at hy; subst hy; simp only; omega
    | false =>
      have ez : refZ xs (refC xs k) k = refC xs k := by unfold refZ; rw [hz]; rfl
      rw [hz] at hs1
      rw [ez] at hc1
      simp only [Bool.false_eq_true, if_false] at hs1
      have hl : ¬ zeroP xs (k + 1 - 1) = true := by simp [hz]
      cases hb : crossB xs (k + 1) with
      | true =>
        rw [hb] at hc1 hp1
        simp only [if_true] at hc1 hp1
        refine ⟨?_, ?_, ?_, fun _ h => absurd h hl⟩
        · rw [hc1, hp1, hs1]; exact perm_snoc ih.perm
        · rw [hc1]; exact sorted_snoc ih.sort fun q hq => by have := ih.lt q hq; simp only; omega
        · rw [hc1]
          intro y hy
          rcases List.mem_append.1 hy with hy | hy
          · have := ih.lt y hy; omega
          · simp at hy; subst hy; simp only; omega
      | false =>
        rw [hb] at hc1 hp1
        simp only [Bool.false_eq_true, if_false] at hc1 hp1
        refine ⟨?_, ?_, ?_, fun _ h => absurd h hl⟩
        · rw [hc1, hp1, hs1]; exact ih.perm
        · rw [hc1]; exact ih.sort
        · rw [hc1]; intro y hy; have := ih.lt y hy; omega
theorem crossB_out (xs : List Sg) : crossB xs xs.length = false := by
  unfold crossB
  simp
theorem refC_eq (xs : List Sg) : refC xs xs.length = crossL xs := by
  have h := refI xs xs.length
  refine crossL_of ?_ h.sort
  have e : crossP xs (xs.length + 1) = crossP xs xs.length := by
    show (if crossB xs xs.length then _ else crossP xs xs.length) = _
    rw [crossB_out]
    rfl
  rw [← e]
  exact h.perm
theorem refC_len (xs : List Sg) : ∀ k, (refC xs k).length ≤ 2 * k
  | 0 => by simp [refC]
  | k + 1 => by
    have ih := refC_len xs k
    have hz : (refZ xs (refC xs k) k).length ≤ (refC xs k).length + 1 := by
      unfold refZ
      split
      · split
        · simp; try omega
        · simp
      · omega
    unfold refC
    split
    · simp; omega
    · omega
theorem refSign_pure {m : Int} (s : Sg) (h : s.Fit 10000) : APure (C m) 135 [.agg (sc s)] (I (sgn s)) := by
  refine APure.of_body good [] (fn := Tryz.f135) (by kernel_rfl) (by kernel_rfl) rfl rfl (by kernel_rfl) rfl (by kernel_rfl) ?_
  conv => whnf
  repeat' (first
    | (refine codeK_sound good (mu := []) ?_; conv => whnf)
    | ((first | rw [wl0] | rw [wl1] | rw [wl2] | rw [wl3] | rw [wl4] | rw [wl5]); conv => whnf)
    | (refine SBool.mk (fun _ => ?_) (fun h => absurd (of_decide_eq_true rfl) h); conv => whnf)
    | (refine SBool.mk (fun h => absurd h (of_decide_eq_false rfl)) (fun _ => ?_); conv => whnf)
    | (refine SBool.mk (fun h => ?_) (fun h => ?_) <;> conv => whnf)
    | (refine SEx.mk _ (by first | exact up (refDifference_pure s h)) ?_; conv => whnf)
    | (refine SEx.mk _ (by first | exact rfl | exact ⟨of_decide_eq_true rfl, rfl⟩) ?_; conv => whnf)
    | (refine SAll.mk (fun _ => ?_); conv => whnf)
    | (refine SAnd.mk ⟨by intro c hc; simp at hc; first | (subst hc; rfl) | ((repeat' (rcases hc with rfl | hc)) <;> first | rfl | (subst hc; rfl)), by (simp; first | done | omega), by (simp; first | done | omega)⟩ ?_; conv => whnf)
    | (refine SAnd.mk (by first | exact rfl | kernel_rfl | omega | decide | exact up (refDifference_pure s h)) ?_; conv => whnf)
    | fail)
  · exact ⟨PLe.of_eq (by unfold sgn cmp3; rw [if_neg (by omega), if_pos (by assumption)])⟩
  · exact ⟨PLe.of_eq (by unfold sgn cmp3; rw [if_pos (by assumption)])⟩
  · exact ⟨PLe.of_eq (by unfold sgn cmp3; rw [if_neg (by assumption), if_neg (by assumption)])⟩
theorem refFlagged_pure {m : Int} (r : Rx) (hr : RxOk r) (xs : List Sg) (hl : xs.length ≤ 1000000) (hx : ∀ s ∈ xs, Ok s) : APure (C m) 61 [.agg (xc r), .seq 6 (xs.map sc)] (seqP (spans (flagP r xs) xs.length)) := by
  refine APure.of_body good [] (fn := Tryz.f61) (by kernel_rfl) (by kernel_rfl) rfl rfl (by kernel_rfl) rfl (by kernel_rfl) ?_
  conv => whnf
  repeat' (first
    | (refine codeK_sound good (mu := []) ?_; conv => whnf)
    | ((first | rw [wl0] | rw [wl1] | rw [wl2] | rw [wl3] | rw [wl4] | rw [wl5]); conv => whnf)
    | (refine SBool.mk (fun _ => ?_) (fun h => absurd (of_decide_eq_true rfl) h); conv => whnf)
    | (refine SBool.mk (fun h => absurd h (of_decide_eq_false rfl)) (fun _ => ?_); conv => whnf)
    | (refine SBool.mk (fun h => ?_) (fun h => ?_) <;> conv => whnf)
    | (refine SEx.mk _ (by first | exact rfl | exact ⟨of_decide_eq_true rfl, rfl⟩) ?_; conv => whnf)
    | (refine SAll.mk (fun _ => ?_); conv => whnf)
    | (refine SAnd.mk ⟨by intro c hc; simp at hc; first | (subst hc; rfl) | ((repeat' (rcases hc with rfl | hc)) <;> first | rfl | (subst hc; rfl)), by (simp; first | done | omega), by (simp; first | done | omega)⟩ ?_; conv => whnf)
    | (refine SAnd.mk (by first | exact rfl | kernel_rfl | omega | decide) ?_; conv => whnf)
    | fail)
  refine ⟨AWp.loop (ι := { k : Nat // k ≤ xs.length }) (fun k => ⟨[(6, .p (I k.1)), (5, .own 0), (2, .p (.ref (xc r))), (1, .p (.seq 6 (xs.map sc)))], [], [(0, (143, 2, cellsP (spans (flagP r xs) k.1)))], 1, [], [], []⟩) (fun k => xs.length - k.1) ⟨0, by simp⟩ ?_ ?_⟩
  · refine SLe.row 5 143 2 ?_
    conv => whnf
    skip
    · refine SLe.of [] [(0, 0)] rfl rfl ?_
      conv => whnf
      repeat' (first
      | exact True.intro
      | (refine SAnd.mk (PLe.of_eq (by simp only [wrapK]; rw [wrap_id (by first | omega | (simp only; done) | (simp only; omega) | simp) (by first | omega | (simp only; done) | (simp only; omega) | simp)]; simp)) ?_; conv => whnf)
      | (refine SAnd.mk (PLe.refl _) ?_; conv => whnf)
      | (refine SAnd.mk (PLeL.refl _) ?_; conv => whnf)
      | (refine SAnd.mk (PLe.of_eq (by simp)) ?_; conv => whnf)
      | (refine SAnd.mk rfl ?_; conv => whnf)
      | (refine SAnd.mk ⟨rfl, rfl⟩ ?_; conv => whnf)
      | (refine SAnd.mk ⟨rfl, rfl, rfl⟩ ?_; conv => whnf))
  · rintro ⟨k, hk⟩
    refine codeK_sound good (mu := []) ?_
    conv => whnf
    refine SBool.mk (fun hc => ?_) (fun hc => ?_)
    · conv => whnf
      have hkl : k < xs.length := by simpa using hc
      have hsome : 0 ≤ (k : Int) ∧ (xs.map sc)[((k : Int)).toNat]? = some (sc xs[k]) := ⟨by omega, by show (xs.map sc)[k]? = _; simp [hkl]⟩
      have hPk : flagP r xs k = decide (flagB r xs[k] ≠ bNone) := by simp [flagP, hkl]
      have hsl := spans_len (flagP r xs) k
      have wk : wrapK IntKind.i64 ((k : Int) + 1) = k + 1 := w64 (by omega)
      have hfl := refFlag_pure r xs[k] hr (hx _ (List.getElem_mem hkl))
      obtain ⟨b, hb⟩ : ∃ b, flagB r xs[k] = b := ⟨_, rfl⟩
      rw [hb] at hfl hPk
      by_cases hb0 : b = bNone
      · have hP : flagP r xs k = false := by rw [hPk]; simp [hb0]
        subst hb0
        conv => whnf
        repeat' (first
          | (refine codeK_sound good (mu := []) ?_; conv => whnf)
          | ((first | rw [wl0] | rw [wl1] | rw [wl2] | rw [wl3] | rw [wl4] | rw [wl5]); conv => whnf)
          | (refine SBool.mk (fun _ => ?_) (fun h => absurd (of_decide_eq_true rfl) h); conv => whnf)
          | (refine SBool.mk (fun h => absurd h (of_decide_eq_false rfl)) (fun _ => ?_); conv => whnf)
          | (refine SBool.mk (fun h => ?_) (fun h => ?_) <;> conv => whnf)
          | (refine SEx.mk _ (by first | exact hsome | exact up hfl | exact eql_string _ _ _) ?_; conv => whnf)
          | (refine SEx.mk _ (by first | exact rfl | exact ⟨of_decide_eq_true rfl, rfl⟩) ?_; conv => whnf)
          | (refine SAll.mk (fun _ => ?_); conv => whnf)
          | (refine SAnd.mk (by first | exact hsome) ?_; conv => whnf)
          | (refine SAnd.mk ⟨by intro c hc; simp at hc; first | (subst hc; rfl) | ((repeat' (rcases hc with rfl | hc)) <;> first | rfl | (subst hc; rfl)), by (simp; first | done | omega), by (simp; first | done | omega)⟩ ?_; conv => whnf)
          | (refine SAnd.mk (by first | exact rfl | kernel_rfl | omega | decide | exact hsome | exact up hfl | exact eql_string _ _ _) ?_; conv => whnf)
          | fail)
        refine ⟨⟨k + 1, by omega⟩, by simp only; omega, ?_⟩
        skip
        · refine SLe.of [] [(0, 0)] rfl rfl ?_
          conv => whnf
          repeat' (first
          | exact True.intro
          | (refine SAnd.mk (show _ = (_ : List (List PV)) from by simp [spans, hP]) ?_; conv => whnf)
          | (refine SAnd.mk (PLe.of_eq (by simp only [wrapK]; rw [wrap_id (by first | omega | (simp only; done) | (simp only; omega) | simp) (by first | omega | (simp only; done) | (simp only; omega) | simp)]; simp)) ?_; conv => whnf)
          | (refine SAnd.mk (PLe.refl _) ?_; conv => whnf)
          | (refine SAnd.mk (PLeL.refl _) ?_; conv => whnf)
          | (refine SAnd.mk (PLe.of_eq (by simp)) ?_; conv => whnf)
          | (refine SAnd.mk rfl ?_; conv => whnf)
          | (refine SAnd.mk ⟨rfl, rfl⟩ ?_; conv => whnf)
          | (refine SAnd.mk ⟨rfl, rfl, rfl⟩ ?_; conv => whnf))
      · have hP : flagP r xs k = true := by rw [hPk]; simp [hb0]
        have heq : ∀ t w, (binOp .eql t (.string b) (.string bNone)).run Tone.C.P w = .ok (.bool false) w := fun t w => by
          have := eql_string t b bNone w
          rwa [decide_eq_false hb0] at this
        obtain ⟨ys, hys⟩ : ∃ ys, ys = spans (flagP r xs) k := ⟨_, rfl⟩
        have hstep : spans (flagP r xs) (k + 1) = joinP ys k := by simp [spans, hP, hys]
        rw [← hys] at hsl ⊢
        rcases List.eq_nil_or_concat ys with rfl | ⟨zs, q, rfl⟩
        · skip
          conv => whnf
          repeat' (first
            | (refine codeK_sound good (mu := []) ?_; conv => whnf)
            | ((first | rw [wl0] | rw [wl1] | rw [wl2] | rw [wl3] | rw [wl4] | rw [wl5]); conv => whnf)
            | (refine SBool.mk (fun _ => ?_) (fun h => absurd (of_decide_eq_true rfl) h); conv => whnf)
            | (refine SBool.mk (fun h => absurd h (of_decide_eq_false rfl)) (fun _ => ?_); conv => whnf)
            | (refine SBool.mk (fun h => ?_) (fun h => ?_) <;> conv => whnf)
            | (refine SEx.mk _ (by first | exact hsome | exact up hfl | exact heq _) ?_; conv => whnf)
            | (refine SEx.mk _ (by first | exact rfl | exact ⟨of_decide_eq_true rfl, rfl⟩) ?_; conv => whnf)
            | (refine SAll.mk (fun _ => ?_); conv => whnf)
            | (refine SAnd.mk (by first | exact hsome) ?_; conv => whnf)
            | (refine SAnd.mk ⟨by intro c hc; simp at hc; first | (subst hc; rfl) | ((repeat' (rcases hc with rfl | hc)) <;> first | rfl | (subst hc; rfl)), by (simp; first | done | omega), by (simp; first | done | omega)⟩ ?_; conv => whnf)
            | (refine SAnd.mk (by first | exact rfl | kernel_rfl | omega | decide | exact hsome | exact up hfl | exact heq _) ?_; conv => whnf)
            | fail)
          refine ⟨⟨k + 1, by omega⟩, by simp only; omega, ?_⟩
          skip
          · refine SLe.of [] [(0, 6)] rfl rfl ?_
            conv => whnf
            repeat' (first
            | exact True.intro
            | (refine SAnd.mk (show _ = (_ : List (List PV)) from by simp only [hstep, wk]; simp [joinP]) ?_; conv => whnf)
            | (refine SAnd.mk (PLe.of_eq (by simp only [wrapK]; rw [wrap_id (by first | omega | (simp only; done) | (simp only; omega) | simp) (by first | omega | (simp only; done) | (simp only; omega) | simp)]; simp)) ?_; conv => whnf)
            | (refine SAnd.mk (PLe.refl _) ?_; conv => whnf)
            | (refine SAnd.mk (PLeL.refl _) ?_; conv => whnf)
            | (refine SAnd.mk (PLe.of_eq (by simp)) ?_; conv => whnf)
            | (refine SAnd.mk rfl ?_; conv => whnf)
            | (refine SAnd.mk ⟨rfl, rfl⟩ ?_; conv => whnf)
            | (refine SAnd.mk ⟨rfl, rfl, rfl⟩ ?_; conv => whnf))
        · rw [List.concat_eq_append] at *
          have hl1 : (zs ++ [q]).length = zs.length + 1 := by simp
          have hl2 : (cellsP (zs ++ [q])).length = zs.length + 1 := by simp
          have hw1 : wrapK IntKind.i64 ((((143, 2, cellsP (zs ++ [q])) : Nat × Nat × List (List PV)).snd.snd.length : Int) - 1) = zs.length := by
            show wrapK IntKind.i64 ((((cellsP (zs ++ [q])).length : Nat) : Int) - 1) = zs.length
            rw [hl2, show (((zs.length + 1 : Nat) : Int) - 1) = zs.length by omega]
            exact w64 (by omega)
          have hpos : 0 < ((((143, 2, cellsP (zs ++ [q])) : Nat × Nat × List (List PV)).snd.snd.length : Nat) : Int) := by
            show 0 < (((cellsP (zs ++ [q])).length : Nat) : Int)
            rw [hl2]; omega
          have hin : 0 ≤ (zs.length : Int) ∧ (zs.length : Int) < (((143, 2, cellsP (zs ++ [q])) : Nat × Nat × List (List PV)).snd.snd.length : Int) := ⟨by omega, by
            show (zs.length : Int) < (((cellsP (zs ++ [q])).length : Nat) : Int)
            rw [hl2]; omega⟩
          have hdk : ∀ K : List PV → Prop, K [I q.2] → dropK ((143, 2, cellsP (zs ++ [q])) : Nat × Nat × List (List PV)).snd.snd.flatten (((zs.length : Int)).toNat * 2 + 1) K := fun K hk => dropK_of (r := [I q.2]) (by show zs.length * 2 + 1 ≤ (cellsP (zs ++ [q])).flatten.length; rw [flatP_len, hl1]; omega) (flatP_drop zs q) hk
          conv => whnf
          repeat' (first
            | (refine codeK_sound good (mu := []) ?_; conv => whnf)
            | ((first | rw [wl0] | rw [wl1] | rw [wl2] | rw [wl3] | rw [wl4] | rw [wl5]); conv => whnf)
            | (rw [hw1]; conv => whnf)
            | (refine SBool.mk (fun _ => ?_) (fun h => absurd (of_decide_eq_true rfl) h); conv => whnf)
            | (refine SBool.mk (fun h => absurd h (of_decide_eq_false rfl)) (fun _ => ?_); conv => whnf)
            | (refine SBool.mk (fun h => ?_) (fun h => ?_) <;> conv => whnf)
            | (refine hdk _ ?_; conv => whnf)
            | (refine SEx.mk _ (by first | exact hsome | exact up hfl | exact heq _ | exact hin | exact storeP zs q _) ?_; conv => whnf)
            | (refine SEx.mk _ (by first | exact rfl | exact ⟨of_decide_eq_true rfl, rfl⟩) ?_; conv => whnf)
            | (refine SAll.mk (fun _ => ?_); conv => whnf)
            | (refine SAnd.mk (by first | exact hsome | exact hin | exact storeP zs q _) ?_; conv => whnf)
            | (refine SAnd.mk ⟨by intro c hc; simp at hc; first | (subst hc; rfl) | ((repeat' (rcases hc with rfl | hc)) <;> first | rfl | (subst hc; rfl)), by (simp; first | done | omega), by (simp; first | done | omega)⟩ ?_; conv => whnf)
            | (refine SAnd.mk (by first | exact rfl | kernel_rfl | omega | decide | exact hsome | exact up hfl | exact heq _ | exact hin | exact storeP zs q _) ?_; conv => whnf)
            | fail)
          · have hq : q.2 = (k : Int) := h
            refine ⟨⟨k + 1, by omega⟩, by simp only; omega, ?_⟩
            skip
            · refine SLe.of [] [(0, 0)] rfl rfl ?_
              conv => whnf
              repeat' (first
              | exact True.intro
              | (refine SAnd.mk (show _ = (_ : List (List PV)) from by simp only [hstep, hq, wk]; simp [joinP, hq]) ?_; conv => whnf)
              | (refine SAnd.mk (PLe.of_eq (by simp only [wrapK]; rw [wrap_id (by first | omega | (simp only; done) | (simp only; omega) | simp) (by first | omega | (simp only; done) | (simp only; omega) | simp)]; simp)) ?_; conv => whnf)
              | (refine SAnd.mk (PLe.refl _) ?_; conv => whnf)
              | (refine SAnd.mk (PLeL.refl _) ?_; conv => whnf)
              | (refine SAnd.mk (PLe.of_eq (by simp)) ?_; conv => whnf)
              | (refine SAnd.mk rfl ?_; conv => whnf)
              | (refine SAnd.mk ⟨rfl, rfl⟩ ?_; conv => whnf)
              | (refine SAnd.mk ⟨rfl, rfl, rfl⟩ ?_; conv => whnf))
          · have hq : ¬ q.2 = (k : Int) := h
            refine ⟨⟨k + 1, by omega⟩, by simp only; omega, ?_⟩
            skip
            · refine SLe.of [] [(0, 6)] rfl rfl ?_
              conv => whnf
              repeat' (first
              | exact True.intro
              | (refine SAnd.mk (show _ = (_ : List (List PV)) from by simp only [hstep, wk]; simp [joinP, hq]) ?_; conv => whnf)
              | (refine SAnd.mk (PLe.of_eq (by simp only [wrapK]; rw [wrap_id (by first | omega | (simp only; done) | (simp only; omega) | simp) (by first | omega | (simp only; done) | (simp only; omega) | simp)]; simp)) ?_; conv => whnf)
              | (refine SAnd.mk (PLe.refl _) ?_; conv => whnf)
              | (refine SAnd.mk (PLeL.refl _) ?_; conv => whnf)
              | (refine SAnd.mk (PLe.of_eq (by simp)) ?_; conv => whnf)
              | (refine SAnd.mk rfl ?_; conv => whnf)
              | (refine SAnd.mk ⟨rfl, rfl⟩ ?_; conv => whnf)
              | (refine SAnd.mk ⟨rfl, rfl, rfl⟩ ?_; conv => whnf))
          · exact absurd hpos (by assumption)
    · have : k = xs.length := by simp at hc; omega
      subst this
      conv => whnf
      repeat' (first
        | (refine codeK_sound good (mu := []) ?_; conv => whnf)
        | ((first | rw [wl0] | rw [wl1] | rw [wl2] | rw [wl3] | rw [wl4] | rw [wl5]); conv => whnf)
        | (refine SBool.mk (fun _ => ?_) (fun h => absurd (of_decide_eq_true rfl) h); conv => whnf)
        | (refine SBool.mk (fun h => absurd h (of_decide_eq_false rfl)) (fun _ => ?_); conv => whnf)
        | (refine SBool.mk (fun h => ?_) (fun h => ?_) <;> conv => whnf)
        | (refine SEx.mk _ (by first | exact rfl | exact ⟨of_decide_eq_true rfl, rfl⟩) ?_; conv => whnf)
        | (refine SAll.mk (fun _ => ?_); conv => whnf)
        | (refine SAnd.mk ⟨by intro c hc; simp at hc; first | (subst hc; rfl) | ((repeat' (rcases hc with rfl | hc)) <;> first | rfl | (subst hc; rfl)), by (simp; first | done | omega), by (simp; first | done | omega)⟩ ?_; conv => whnf)
        | (refine SAnd.mk (by first | exact rfl | kernel_rfl | omega | decide) ?_; conv => whnf)
        | fail)
      exact ⟨PLe.refl _⟩
end Go.Proofs.Ab.Tone2
end
section
/- The reference's crossings. -/
set_option maxRecDepth 100000
set_option linter.unusedVariables false
set_option linter.unusedSimpArgs false
namespace Go.Proofs.Ab.Tone2
open Go Go.RowKit Go.Proofs.Ab Go.Proofs.Ab.Tone
set_option maxHeartbeats 8000000 in
theorem refCrossings_pure {m : Int} (xs : List Sg) (hl : xs.length ≤ 1000000) (hx : ∀ s ∈ xs, Ok s) : APure (C m) 60 [.seq 6 (xs.map sc)] (seqP (refC xs xs.length)) := by
  have hsg : ∀ (i : Nat) (h : i < xs.length), APure (C m) 135 [.agg (sc xs[i])] (I (sgn xs[i])) := fun i h => refSign_pure xs[i] (hx _ (List.getElem_mem h)).fit
  have e0 : (xs.map sc).length = xs.length := by simp
  refine APure.of_body good [] (fn := Tryz.f60) (by kernel_rfl) (by kernel_rfl) rfl rfl (by kernel_rfl) rfl (by kernel_rfl) ?_
  conv => whnf
  repeat' (first
    | (refine codeK_sound good (mu := []) ?_; conv => whnf)
    | ((first | rw [wl0] | rw [wl1] | rw [wl2] | rw [wl3] | rw [wl4] | rw [wl5]); conv => whnf)
    | (refine SBool.mk (fun _ => ?_) (fun h => absurd (of_decide_eq_true rfl) h); conv => whnf)
    | (refine SBool.mk (fun h => absurd h (of_decide_eq_false rfl)) (fun _ => ?_); conv => whnf)
    | (refine SBool.mk (fun h => ?_) (fun h => ?_) <;> conv => whnf)
    | (refine SEx.mk _ (by first | exact rfl | exact ⟨of_decide_eq_true rfl, rfl⟩) ?_; conv => whnf)
    | (refine SAll.mk (fun _ => ?_); conv => whnf)
    | (refine SAnd.mk ⟨by intro c hc; simp at hc; first | (subst hc; rfl) | ((repeat' (rcases hc with rfl | hc)) <;> first | rfl | (subst hc; rfl)), by (simp; first | done | omega), by (simp; first | done | omega)⟩ ?_; conv => whnf)
    | (refine SAnd.mk (by first | exact rfl | kernel_rfl | omega | decide) ?_; conv => whnf)
    | fail)
  refine ⟨AWp.loop (ι := { k : Nat // k ≤ xs.length }) (fun k => ⟨[(4, .p (I k.1)), (3, .own 0), (0, .p (.seq 6 (xs.map sc)))], [], [(0, (143, 2, cellsP (refC xs k.1)))], 1, [], [], []⟩) (fun k => xs.length - k.1) ⟨0, by simp⟩ ?_ ?_⟩
  · refine SLe.row 3 143 2 ?_
    conv => whnf
    skip
    · refine SLe.of [] [(0, 0)] rfl rfl ?_
      conv => whnf
      repeat' (first
      | exact True.intro
      | (refine SAnd.mk (PLe.of_eq (by simp only [wrapK]; rw [wrap_id (by first | omega | (simp only; done) | (simp only; omega) | simp) (by first | omega | (simp only; done) | (simp only; omega) | simp)]; simp)) ?_; conv => whnf)
      | (refine SAnd.mk (PLe.refl _) ?_; conv => whnf)
      | (refine SAnd.mk (PLeL.refl _) ?_; conv => whnf)
      | (refine SAnd.mk (PLe.of_eq (by simp)) ?_; conv => whnf)
      | (refine SAnd.mk rfl ?_; conv => whnf)
      | (refine SAnd.mk ⟨rfl, rfl⟩ ?_; conv => whnf)
      | (refine SAnd.mk ⟨rfl, rfl, rfl⟩ ?_; conv => whnf))
  · rintro ⟨k, hk⟩
    refine codeK_sound good (mu := []) ?_
    conv => whnf
    refine SBool.mk (fun hc => ?_) (fun hc => ?_)
    · conv => whnf
      have hkl : k < xs.length := by simpa using hc
      have hsome : 0 ≤ (k : Int) ∧ (xs.map sc)[((k : Int)).toNat]? = some (sc xs[k]) := ⟨by omega, by show (xs.map sc)[k]? = _; simp [hkl]⟩
      have hzk : zeroP xs k = decide (sgn xs[k] = 0) := by simp [zeroP, hkl]
      have hsl := refC_len xs k
      have hI := refI xs k
      have wk : wrapK IntKind.i64 ((k : Int) + 1) = k + 1 := w64 (by omega)
      have wk2 : wrapK IntKind.i64 ((k : Int) + 2) = k + 2 := w64 (by omega)
      have wn : wrapK IntKind.i64 (((xs.map sc).length : Int) - 1) = (xs.length : Int) - 1 := by rw [e0]; exact w64 (by omega)
      have c0 := hsg k hkl
      have hstep : refC xs (k + 1) = if crossB xs (k + 1) then refZ xs (refC xs k) k ++ [((k : Int), (k : Int) + 2)] else refZ xs (refC xs k) k := rfl
      have hmul0 : ∀ z : Int, wrapK IntKind.i64 (0 * z) = 0 := fun z => by rw [Int.zero_mul]; kernel_rfl
      have hmulb : ∀ i j : Nat, ∀ (hi : i < xs.length) (hj : j < xs.length), wrapK IntKind.i64 (sgn xs[i] * sgn xs[j]) = sgn xs[i] * sgn xs[j] := fun i j hi hj => by
        rcases sgn_cases xs[i] with h | h | h <;> rcases sgn_cases xs[j] with h' | h' | h' <;> rw [h, h'] <;> kernel_rfl
      by_cases h0 : sgn xs[k] = 0
      · have hz : zeroP xs k = true := by rw [hzk]; simp [h0]
        have hcb : crossB xs (k + 1) = false := by
          cases hb : crossB xs (k + 1) with
          | false => rfl
          | true => have := cross_zero hb; rw [hz] at this; cases this
        rw [hcb] at hstep
        simp only [Bool.false_eq_true, if_false] at hstep
        rw [h0] at c0
        by_cases hkz : 0 < k ∧ zeroP xs (k - 1) = true
        · obtain ⟨zs, q, hys⟩ : ∃ zs q, refC xs k = zs ++ [q] := by
            obtain ⟨a, z, q, e1, _⟩ := hI.last hkz.1 hkz.2
            exact ⟨a, q, e1⟩
          have hkm : k - 1 < xs.length := by omega
          have hst : refC xs (k + 1) = zs ++ [(q.1, (k : Int) + 1)] := by
            rw [hstep]; unfold refZ; rw [hz, if_pos rfl, if_pos (by simp [hkz]), hys]; simp
          have hsm : sgn xs[k - 1] = 0 := by
            have := hkz.2
            unfold zeroP at this
            rw [List.getElem?_eq_getElem hkm] at this
            simpa using this
          have cm := hsg (k - 1) hkm
          rw [hsm] at cm
          have hmax : wrapK IntKind.i64 (max (k : Int) 1 - 1) = (k : Int) - 1 := by rw [Int.max_eq_left (by omega)]; exact w64 (by omega)
          have hsomem : 0 ≤ (k : Int) - 1 ∧ (xs.map sc)[((k : Int) - 1).toNat]? = some (sc xs[k - 1]) := ⟨by omega, by rw [show ((k : Int) - 1).toNat = k - 1 by omega]; simp [hkm]⟩
          rw [hys] at hsl ⊢
          have hl1 : (zs ++ [q]).length = zs.length + 1 := by simp
          have hl2 : (cellsP (zs ++ [q])).length = zs.length + 1 := by simp
          have hw1 : wrapK IntKind.i64 ((((143, 2, cellsP (zs ++ [q])) : Nat × Nat × List (List PV)).snd.snd.length : Int) - 1) = zs.length := by
            show wrapK IntKind.i64 ((((cellsP (zs ++ [q])).length : Nat) : Int) - 1) = zs.length
            rw [hl2, show (((zs.length + 1 : Nat) : Int) - 1) = zs.length by omega]
            exact w64 (by omega)
          have hin : 0 ≤ (zs.length : Int) ∧ (zs.length : Int) < (((143, 2, cellsP (zs ++ [q])) : Nat × Nat × List (List PV)).snd.snd.length : Int) := ⟨by omega, by
            show (zs.length : Int) < (((cellsP (zs ++ [q])).length : Nat) : Int)
            rw [hl2]; omega⟩
          by_cases hk1 : k + 1 < xs.length
          · have hsome1 : 0 ≤ (k : Int) + 1 ∧ (xs.map sc)[((k : Int) + 1).toNat]? = some (sc xs[k + 1]) := ⟨by omega, by rw [show ((k : Int) + 1).toNat = k + 1 by omega]; simp [hk1]⟩
            have c1 := hsg (k + 1) hk1
            have hmin : min ((k : Int) + 1) ((xs.length : Int) - 1) = (k : Int) + 1 := by omega
            conv => whnf
            repeat' (first
              | (refine codeK_sound good (mu := []) ?_; conv => whnf)
              | ((first | rw [wl0] | rw [wl1] | rw [wl2] | rw [wl3] | rw [wl4] | rw [wl5]); conv => whnf)
              | (rw [wk]; conv => whnf)
              | (rw [wn]; conv => whnf)
              | (rw [hmin]; conv => whnf)
              | (rw [hmul0]; conv => whnf)
              | (rw [hw1]; conv => whnf)
              | (rw [hmax]; conv => whnf)
              | (refine SBool.mk (fun _ => ?_) (fun h => absurd (of_decide_eq_true rfl) h); conv => whnf)
              | (refine SBool.mk (fun h => absurd h (of_decide_eq_false rfl)) (fun _ => ?_); conv => whnf)
              | (refine SBool.mk (fun h => ?_) (fun h => ?_) <;> conv => whnf)
              | (refine SEx.mk _ (by first | exact hsome | exact hsome1 | exact hsomem | exact c0 | exact c1 | exact cm | exact hin | exact storeP zs q _) ?_; conv => whnf)
              | (refine SEx.mk _ (by first | exact rfl | exact ⟨of_decide_eq_true rfl, rfl⟩) ?_; conv => whnf)
              | (refine SAll.mk (fun _ => ?_); conv => whnf)
              | (refine SAnd.mk (by first | exact hsome | exact hsome1 | exact hsomem | exact hin | exact storeP zs q _) ?_; conv => whnf)
              | (refine SAnd.mk ⟨by intro c hc; simp at hc; first | (subst hc; rfl) | ((repeat' (rcases hc with rfl | hc)) <;> first | rfl | (subst hc; rfl)), by (simp; first | done | omega), by (simp; first | done | omega)⟩ ?_; conv => whnf)
              | (refine SAnd.mk (by first | exact rfl | kernel_rfl | omega | decide | exact hsome | exact hsome1 | exact hsomem | exact c0 | exact c1 | exact cm | exact hin | exact storeP zs q _) ?_; conv => whnf)
              | fail)
            any_goals (first
              | exact absurd (show (0 : Int) < (k : Int) by omega) (by assumption)
              | exact absurd (show (k : Int) + 1 < ((xs.map sc).length : Int) by rw [e0]; omega) (by assumption)
              | exact absurd (show ((k : Nat) : Int) + 1 < ((xs.map sc).length : Int) by assumption) (by rw [e0]; omega)
              | exact absurd (show (0 : Int) < (k : Int) by assumption) (by omega)
              | exact absurd (show sgn xs[k - 1] = 0 by assumption) (by assumption)
              | exact absurd (show sgn xs[k] = 0 by assumption) (by assumption)
              | exact absurd rfl (by assumption))
            · refine ⟨⟨k + 1, by omega⟩, by simp only; omega, ?_⟩
              skip
              · refine SLe.of [] [(0, 0)] rfl rfl ?_
                conv => whnf
                repeat' (first
                | exact True.intro
                | (refine SAnd.mk (show _ = (_ : List (List PV)) from by simp only [hst]) ?_; conv => whnf)
                | (refine SAnd.mk (PLe.of_eq (by simp only [wrapK]; rw [wrap_id (by first | omega | (simp only; done) | (simp only; omega) | simp) (by first | omega | (simp only; done) | (simp only; omega) | simp)]; simp)) ?_; conv => whnf)
                | (refine SAnd.mk (PLe.refl _) ?_; conv => whnf)
                | (refine SAnd.mk (PLeL.refl _) ?_; conv => whnf)
                | (refine SAnd.mk (PLe.of_eq (by simp)) ?_; conv => whnf)
                | (refine SAnd.mk rfl ?_; conv => whnf)
                | (refine SAnd.mk ⟨rfl, rfl⟩ ?_; conv => whnf)
                | (refine SAnd.mk ⟨rfl, rfl, rfl⟩ ?_; conv => whnf))
          · skip
            conv => whnf
            repeat' (first
              | (refine codeK_sound good (mu := []) ?_; conv => whnf)
              | ((first | rw [wl0] | rw [wl1] | rw [wl2] | rw [wl3] | rw [wl4] | rw [wl5]); conv => whnf)
              | (rw [wk]; conv => whnf)
              | (rw [wn]; conv => whnf)
              | (rw [hw1]; conv => whnf)
              | (rw [hmax]; conv => whnf)
              | (refine SBool.mk (fun _ => ?_) (fun h => absurd (of_decide_eq_true rfl) h); conv => whnf)
              | (refine SBool.mk (fun h => absurd h (of_decide_eq_false rfl)) (fun _ => ?_); conv => whnf)
              | (refine SBool.mk (fun h => ?_) (fun h => ?_) <;> conv => whnf)
              | (refine SEx.mk _ (by first | exact hsome | exact hsomem | exact c0 | exact cm | exact hin | exact storeP zs q _) ?_; conv => whnf)
              | (refine SEx.mk _ (by first | exact rfl | exact ⟨of_decide_eq_true rfl, rfl⟩) ?_; conv => whnf)
              | (refine SAll.mk (fun _ => ?_); conv => whnf)
              | (refine SAnd.mk (by first | exact hsome | exact hsomem | exact hin | exact storeP zs q _) ?_; conv => whnf)
              | (refine SAnd.mk ⟨by intro c hc; simp at hc; first | (subst hc; rfl) | ((repeat' (rcases hc with rfl | hc)) <;> first | rfl | (subst hc; rfl)), by (simp; first | done | omega), by (simp; first | done | omega)⟩ ?_; conv => whnf)
              | (refine SAnd.mk (by first | exact rfl | kernel_rfl | omega | decide | exact hsome | exact hsomem | exact c0 | exact cm | exact hin | exact storeP zs q _) ?_; conv => whnf)
              | fail)
            any_goals (first
              | exact absurd (show (0 : Int) < (k : Int) by omega) (by assumption)
              | exact absurd (show (k : Int) + 1 < ((xs.map sc).length : Int) by rw [e0]; omega) (by assumption)
              | exact absurd (show ((k : Nat) : Int) + 1 < ((xs.map sc).length : Int) by assumption) (by rw [e0]; omega)
              | exact absurd (show (0 : Int) < (k : Int) by assumption) (by omega)
              | exact absurd (show sgn xs[k - 1] = 0 by assumption) (by assumption)
              | exact absurd (show sgn xs[k] = 0 by assumption) (by assumption)
              | exact absurd rfl (by assumption))
            · refine ⟨⟨k + 1, by omega⟩, by simp only; omega, ?_⟩
              skip
              · refine SLe.of [] [(0, 0)] rfl rfl ?_
                conv => whnf
                repeat' (first
                | exact True.intro
                | (refine SAnd.mk (show _ = (_ : List (List PV)) from by simp only [hst]) ?_; conv => whnf)
                | (refine SAnd.mk (PLe.of_eq (by simp only [wrapK]; rw [wrap_id (by first | omega | (simp only; done) | (simp only; omega) | simp) (by first | omega | (simp only; done) | (simp only; omega) | simp)]; simp)) ?_; conv => whnf)
                | (refine SAnd.mk (PLe.refl _) ?_; conv => whnf)
                | (refine SAnd.mk (PLeL.refl _) ?_; conv => whnf)
                | (refine SAnd.mk (PLe.of_eq (by simp)) ?_; conv => whnf)
                | (refine SAnd.mk rfl ?_; conv => whnf)
                | (refine SAnd.mk ⟨rfl, rfl⟩ ?_; conv => whnf)
                | (refine SAnd.mk ⟨rfl, rfl, rfl⟩ ?_; conv => whnf))
        · have hst : refC xs (k + 1) = refC xs k ++ [((k : Int), (k : Int) + 1)] := by
            rw [hstep]; unfold refZ; rw [hz, if_pos rfl, if_neg (by simpa using hkz)]
          by_cases hk0 : k = 0
          · by_cases hk1 : k + 1 < xs.length
            · have hsome1 : 0 ≤ (k : Int) + 1 ∧ (xs.map sc)[((k : Int) + 1).toNat]? = some (sc xs[k + 1]) := ⟨by omega, by rw [show ((k : Int) + 1).toNat = k + 1 by omega]; simp [hk1]⟩
              have c1 := hsg (k + 1) hk1
              have hmin : min ((k : Int) + 1) ((xs.length : Int) - 1) = (k : Int) + 1 := by omega
              conv => whnf
              repeat' (first
                | (refine codeK_sound good (mu := []) ?_; conv => whnf)
                | ((first | rw [wl0] | rw [wl1] | rw [wl2] | rw [wl3] | rw [wl4] | rw [wl5]); conv => whnf)
                | (rw [wk]; conv => whnf)
                | (rw [wn]; conv => whnf)
                | (rw [hmin]; conv => whnf)
                | (rw [hmul0]; conv => whnf)
                | (refine SBool.mk (fun _ => ?_) (fun h => absurd (of_decide_eq_true rfl) h); conv => whnf)
                | (refine SBool.mk (fun h => absurd h (of_decide_eq_false rfl)) (fun _ => ?_); conv => whnf)
                | (refine SBool.mk (fun h => ?_) (fun h => ?_) <;> conv => whnf)
                | (refine SEx.mk _ (by first | exact hsome | exact hsome1 | exact c0 | exact c1) ?_; conv => whnf)
                | (refine SEx.mk _ (by first | exact rfl | exact ⟨of_decide_eq_true rfl, rfl⟩) ?_; conv => whnf)
                | (refine SAll.mk (fun _ => ?_); conv => whnf)
                | (refine SAnd.mk (by first | exact hsome | exact hsome1) ?_; conv => whnf)
                | (refine SAnd.mk ⟨by intro c hc; simp at hc; first | (subst hc; rfl) | ((repeat' (rcases hc with rfl | hc)) <;> first | rfl | (subst hc; rfl)), by (simp; first | done | omega), by (simp; first | done | omega)⟩ ?_; conv => whnf)
                | (refine SAnd.mk (by first | exact rfl | kernel_rfl | omega | decide | exact hsome | exact hsome1 | exact c0 | exact c1) ?_; conv => whnf)
                | fail)
              any_goals (first
                | exact absurd (show (0 : Int) < (k : Int) by omega) (by assumption)
                | exact absurd (show (k : Int) + 1 < ((xs.map sc).length : Int) by rw [e0]; omega) (by assumption)
                | exact absurd (show ((k : Nat) : Int) + 1 < ((xs.map sc).length : Int) by assumption) (by rw [e0]; omega)
                | exact absurd (show (0 : Int) < (k : Int) by assumption) (by omega)
                | exact absurd (show sgn xs[k - 1] = 0 by assumption) (by assumption)
                | exact absurd (show sgn xs[k] = 0 by assumption) (by assumption)
                | exact absurd rfl (by assumption))
              · refine ⟨⟨k + 1, by omega⟩, by simp only; omega, ?_⟩
                skip
                · refine SLe.of [] [(0, 1)] rfl rfl ?_
                  conv => whnf
                  repeat' (first
                  | exact True.intro
                  | (refine SAnd.mk (show _ = (_ : List (List PV)) from by simp only [hst]; simp) ?_; conv => whnf)
                  | (refine SAnd.mk (PLe.of_eq (by simp only [wrapK]; rw [wrap_id (by first | omega | (simp only; done) | (simp only; omega) | simp) (by first | omega | (simp only; done) | (simp only; omega) | simp)]; simp)) ?_; conv => whnf)
                  | (refine SAnd.mk (PLe.refl _) ?_; conv => whnf)
                  | (refine SAnd.mk (PLeL.refl _) ?_; conv => whnf)
                  | (refine SAnd.mk (PLe.of_eq (by simp)) ?_; conv => whnf)
                  | (refine SAnd.mk rfl ?_; conv => whnf)
                  | (refine SAnd.mk ⟨rfl, rfl⟩ ?_; conv => whnf)
                  | (refine SAnd.mk ⟨rfl, rfl, rfl⟩ ?_; conv => whnf))
            · skip
              conv => whnf
              repeat' (first
                | (refine codeK_sound good (mu := []) ?_; conv => whnf)
                | ((first | rw [wl0] | rw [wl1] | rw [wl2] | rw [wl3] | rw [wl4] | rw [wl5]); conv => whnf)
                | (rw [wk]; conv => whnf)
                | (rw [wn]; conv => whnf)
                | (refine SBool.mk (fun _ => ?_) (fun h => absurd (of_decide_eq_true rfl) h); conv => whnf)
                | (refine SBool.mk (fun h => absurd h (of_decide_eq_false rfl)) (fun _ => ?_); conv => whnf)
                | (refine SBool.mk (fun h => ?_) (fun h => ?_) <;> conv => whnf)
                | (refine SEx.mk _ (by first | exact hsome | exact c0) ?_; conv => whnf)
                | (refine SEx.mk _ (by first | exact rfl | exact ⟨of_decide_eq_true rfl, rfl⟩) ?_; conv => whnf)
                | (refine SAll.mk (fun _ => ?_); conv => whnf)
                | (refine SAnd.mk (by first | exact hsome) ?_; conv => whnf)
                | (refine SAnd.mk ⟨by intro c hc; simp at hc; first | (subst hc; rfl) | ((repeat' (rcases hc with rfl | hc)) <;> first | rfl | (subst hc; rfl)), by (simp; first | done | omega), by (simp; first | done | omega)⟩ ?_; conv => whnf)
                | (refine SAnd.mk (by first | exact rfl | kernel_rfl | omega | decide | exact hsome | exact c0) ?_; conv => whnf)
                | fail)
              any_goals (first
                | exact absurd (show (0 : Int) < (k : Int) by omega) (by assumption)
                | exact absurd (show (k : Int) + 1 < ((xs.map sc).length : Int) by rw [e0]; omega) (by assumption)
                | exact absurd (show ((k : Nat) : Int) + 1 < ((xs.map sc).length : Int) by assumption) (by rw [e0]; omega)
                | exact absurd (show (0 : Int) < (k : Int) by assumption) (by omega)
                | exact absurd (show sgn xs[k - 1] = 0 by assumption) (by assumption)
                | exact absurd (show sgn xs[k] = 0 by assumption) (by assumption)
                | exact absurd rfl (by assumption))
              · refine ⟨⟨k + 1, by omega⟩, by simp only; omega, ?_⟩
                skip
                · refine SLe.of [] [(0, 1)] rfl rfl ?_
                  conv => whnf
                  repeat' (first
                  | exact True.intro
                  | (refine SAnd.mk (show _ = (_ : List (List PV)) from by simp only [hst]; simp) ?_; conv => whnf)
                  | (refine SAnd.mk (PLe.of_eq (by simp only [wrapK]; rw [wrap_id (by first | omega | (simp only; done) | (simp only; omega) | simp) (by first | omega | (simp only; done) | (simp only; omega) | simp)]; simp)) ?_; conv => whnf)
                  | (refine SAnd.mk (PLe.refl _) ?_; conv => whnf)
                  | (refine SAnd.mk (PLeL.refl _) ?_; conv => whnf)
                  | (refine SAnd.mk (PLe.of_eq (by simp)) ?_; conv => whnf)
                  | (refine SAnd.mk rfl ?_; conv => whnf)
                  | (refine SAnd.mk ⟨rfl, rfl⟩ ?_; conv => whnf)
                  | (refine SAnd.mk ⟨rfl, rfl, rfl⟩ ?_; conv => whnf))
          · have hkm : k - 1 < xs.length := by omega
            have cm := hsg (k - 1) hkm
            have hsm : ¬ sgn xs[k - 1] = 0 := fun e => hkz ⟨by omega, by unfold zeroP; rw [List.getElem?_eq_getElem hkm]; simp [e]⟩
            have hmax : wrapK IntKind.i64 (max (k : Int) 1 - 1) = (k : Int) - 1 := by rw [Int.max_eq_left (by omega)]; exact w64 (by omega)
            have hsomem : 0 ≤ (k : Int) - 1 ∧ (xs.map sc)[((k : Int) - 1).toNat]? = some (sc xs[k - 1]) := ⟨by omega, by rw [show ((k : Int) - 1).toNat = k - 1 by omega]; simp [hkm]⟩
            by_cases hk1 : k + 1 < xs.length
            · have hsome1 : 0 ≤ (k : Int) + 1 ∧ (xs.map sc)[((k : Int) + 1).toNat]? = some (sc xs[k + 1]) := ⟨by omega, by rw [show ((k : Int) + 1).toNat = k + 1 by omega]; simp [hk1]⟩
              have c1 := hsg (k + 1) hk1
              have hmin : min ((k : Int) + 1) ((xs.length : Int) - 1) = (k : Int) + 1 := by omega
              conv => whnf
              repeat' (first
                | (refine codeK_sound good (mu := []) ?_; conv => whnf)
                | ((first | rw [wl0] | rw [wl1] | rw [wl2] | rw [wl3] | rw [wl4] | rw [wl5]); conv => whnf)
                | (rw [wk]; conv => whnf)
                | (rw [wn]; conv => whnf)
                | (rw [hmin]; conv => whnf)
                | (rw [hmul0]; conv => whnf)
                | (rw [hmax]; conv => whnf)
                | (refine SBool.mk (fun _ => ?_) (fun h => absurd (of_decide_eq_true rfl) h); conv => whnf)
                | (refine SBool.mk (fun h => absurd h (of_decide_eq_false rfl)) (fun _ => ?_); conv => whnf)
                | (refine SBool.mk (fun h => ?_) (fun h => ?_) <;> conv => whnf)
                | (refine SEx.mk _ (by first | exact hsome | exact hsome1 | exact hsomem | exact c0 | exact c1 | exact cm) ?_; conv => whnf)
                | (refine SEx.mk _ (by first | exact rfl | exact ⟨of_decide_eq_true rfl, rfl⟩) ?_; conv => whnf)
                | (refine SAll.mk (fun _ => ?_); conv => whnf)
                | (refine SAnd.mk (by first | exact hsome | exact hsome1 | exact hsomem) ?_; conv => whnf)
                | (refine SAnd.mk ⟨by intro c hc; simp at hc; first | (subst hc; rfl) | ((repeat' (rcases hc with rfl | hc)) <;> first | rfl | (subst hc; rfl)), by (simp; first | done | omega), by (simp; first | done | omega)⟩ ?_; conv => whnf)
                | (refine SAnd.mk (by first | exact rfl | kernel_rfl | omega | decide | exact hsome | exact hsome1 | exact hsomem | exact c0 | exact c1 | exact cm) ?_; conv => whnf)
                | fail)
              any_goals (first
                | exact absurd (show (0 : Int) < (k : Int) by omega) (by assumption)
                | exact absurd (show (k : Int) + 1 < ((xs.map sc).length : Int) by rw [e0]; omega) (by assumption)
                | exact absurd (show ((k : Nat) : Int) + 1 < ((xs.map sc).length : Int) by assumption) (by rw [e0]; omega)
                | exact absurd (show (0 : Int) < (k : Int) by assumption) (by omega)
                | exact absurd (show sgn xs[k - 1] = 0 by assumption) (by assumption)
                | exact absurd (show sgn xs[k] = 0 by assumption) (by assumption)
                | exact absurd rfl (by assumption))
              · refine ⟨⟨k + 1, by omega⟩, by simp only; omega, ?_⟩
                skip
                · refine SLe.of [] [(0, 1)] rfl rfl ?_
                  conv => whnf
                  repeat' (first
                  | exact True.intro
                  | (refine SAnd.mk (show _ = (_ : List (List PV)) from by simp only [hst]; simp) ?_; conv => whnf)
                  | (refine SAnd.mk (PLe.of_eq (by simp only [wrapK]; rw [wrap_id (by first | omega | (simp only; done) | (simp only; omega) | simp) (by first | omega | (simp only; done) | (simp only; omega) | simp)]; simp)) ?_; conv => whnf)
                  | (refine SAnd.mk (PLe.refl _) ?_; conv => whnf)
                  | (refine SAnd.mk (PLeL.refl _) ?_; conv => whnf)
                  | (refine SAnd.mk (PLe.of_eq (by simp)) ?_; conv => whnf)
                  | (refine SAnd.mk rfl ?_; conv => whnf)
                  | (refine SAnd.mk ⟨rfl, rfl⟩ ?_; conv => whnf)
                  | (refine SAnd.mk ⟨rfl, rfl, rfl⟩ ?_; conv => whnf))
            · skip
              conv => whnf
              repeat' (first
                | (refine codeK_sound good (mu := []) ?_; conv => whnf)
                | ((first | rw [wl0] | rw [wl1] | rw [wl2] | rw [wl3] | rw [wl4] | rw [wl5]); conv => whnf)
                | (rw [wk]; conv => whnf)
                | (rw [wn]; conv => whnf)
                | (rw [hmax]; conv => whnf)
                | (refine SBool.mk (fun _ => ?_) (fun h => absurd (of_decide_eq_true rfl) h); conv => whnf)
                | (refine SBool.mk (fun h => absurd h (of_decide_eq_false rfl)) (fun _ => ?_); conv => whnf)
                | (refine SBool.mk (fun h => ?_) (fun h => ?_) <;> conv => whnf)
                | (refine SEx.mk _ (by first | exact hsome | exact hsomem | exact c0 | exact cm) ?_; conv => whnf)
                | (refine SEx.mk _ (by first | exact rfl | exact ⟨of_decide_eq_true rfl, rfl⟩) ?_; conv => whnf)
                | (refine SAll.mk (fun _ => ?_); conv => whnf)
                | (refine SAnd.mk (by first | exact hsome | exact hsomem) ?_; conv => whnf)
                | (refine SAnd.mk ⟨by intro c hc; simp at hc; first | (subst hc; rfl) | ((repeat' (rcases hc with rfl | hc)) <;> first | rfl | (subst hc; rfl)), by (simp; first | done | omega), by (simp; first | done | omega)⟩ ?_; conv => whnf)
                | (refine SAnd.mk (by first | exact rfl | kernel_rfl | omega | decide | exact hsome | exact hsomem | exact c0 | exact cm) ?_; conv => whnf)
                | fail)
              any_goals (first
                | exact absurd (show (0 : Int) < (k : Int) by omega) (by assumption)
                | exact absurd (show (k : Int) + 1 < ((xs.map sc).length : Int) by rw [e0]; omega) (by assumption)
                | exact absurd (show ((k : Nat) : Int) + 1 < ((xs.map sc).length : Int) by assumption) (by rw [e0]; omega)
                | exact absurd (show (0 : Int) < (k : Int) by assumption) (by omega)
                | exact absurd (show sgn xs[k - 1] = 0 by assumption) (by assumption)
                | exact absurd (show sgn xs[k] = 0 by assumption) (by assumption)
                | exact absurd rfl (by assumption))
              · refine ⟨⟨k + 1, by omega⟩, by simp only; omega, ?_⟩
                skip
                · refine SLe.of [] [(0, 1)] rfl rfl ?_
                  conv => whnf
                  repeat' (first
                  | exact True.intro
                  | (refine SAnd.mk (show _ = (_ : List (List PV)) from by simp only [hst]; simp) ?_; conv => whnf)
                  | (refine SAnd.mk (PLe.of_eq (by simp only [wrapK]; rw [wrap_id (by first | omega | (simp only; done) | (simp only; omega) | simp) (by first | omega | (simp only; done) | (simp only; omega) | simp)]; simp)) ?_; conv => whnf)
                  | (refine SAnd.mk (PLe.refl _) ?_; conv => whnf)
                  | (refine SAnd.mk (PLeL.refl _) ?_; conv => whnf)
                  | (refine SAnd.mk (PLe.of_eq (by simp)) ?_; conv => whnf)
                  | (refine SAnd.mk rfl ?_; conv => whnf)
                  | (refine SAnd.mk ⟨rfl, rfl⟩ ?_; conv => whnf)
                  | (refine SAnd.mk ⟨rfl, rfl, rfl⟩ ?_; conv => whnf))
      · have hz : zeroP xs k = false := by rw [hzk]; simp [h0]
        have ez : refZ xs (refC xs k) k = refC xs k := by unfold refZ; rw [hz]; rfl
        rw [ez] at hstep
        by_cases hk1 : k + 1 < xs.length
        · have hsome1 : 0 ≤ (k : Int) + 1 ∧ (xs.map sc)[((k : Int) + 1).toNat]? = some (sc xs[k + 1]) := ⟨by omega, by rw [show ((k : Int) + 1).toNat = k + 1 by omega]; simp [hk1]⟩
          have c1 := hsg (k + 1) hk1
          have hmin : min ((k : Int) + 1) ((xs.length : Int) - 1) = (k : Int) + 1 := by omega
          have hmulk := hmulb k (k + 1) hkl hk1
          have hcr : crossB xs (k + 1) = decide (sgn xs[k] * sgn xs[k + 1] < 0) := by
            unfold crossB
            rw [Nat.add_sub_cancel, List.getElem?_eq_getElem hk1, List.getElem?_eq_getElem hkl, Int.mul_comm]
            simp
          conv => whnf
          repeat' (first
            | (refine codeK_sound good (mu := []) ?_; conv => whnf)
            | ((first | rw [wl0] | rw [wl1] | rw [wl2] | rw [wl3] | rw [wl4] | rw [wl5]); conv => whnf)
            | (rw [wk2]; conv => whnf)
            | (rw [wk]; conv => whnf)
            | (rw [wn]; conv => whnf)
            | (rw [hmin]; conv => whnf)
            | (rw [hmulk]; conv => whnf)
            | (refine SBool.mk (fun _ => ?_) (fun h => absurd (of_decide_eq_true rfl) h); conv => whnf)
            | (refine SBool.mk (fun h => absurd h (of_decide_eq_false rfl)) (fun _ => ?_); conv => whnf)
            | (refine SBool.mk (fun h => ?_) (fun h => ?_) <;> conv => whnf)
            | (refine SEx.mk _ (by first | exact hsome | exact hsome1 | exact c0 | exact c1) ?_; conv => whnf)
            | (refine SEx.mk _ (by first | exact rfl | exact ⟨of_decide_eq_true rfl, rfl⟩) ?_; conv => whnf)
            | (refine SAll.mk (fun _ => ?_); conv => whnf)
            | (refine SAnd.mk (by first | exact hsome | exact hsome1) ?_; conv => whnf)
            | (refine SAnd.mk ⟨by intro c hc; simp at hc; first | (subst hc; rfl) | ((repeat' (rcases hc with rfl | hc)) <;> first | rfl | (subst hc; rfl)), by (simp; first | done | omega), by (simp; first | done | omega)⟩ ?_; conv => whnf)
            | (refine SAnd.mk (by first | exact rfl | kernel_rfl | omega | decide | exact hsome | exact hsome1 | exact c0 | exact c1) ?_; conv => whnf)
            | fail)
          any_goals (first
            | exact absurd (show (0 : Int) < (k : Int) by omega) (by assumption)
            | exact absurd (show (k : Int) + 1 < ((xs.map sc).length : Int) by rw [e0]; omega) (by assumption)
            | exact absurd (show ((k : Nat) : Int) + 1 < ((xs.map sc).length : Int) by assumption) (by rw [e0]; omega)
            | exact absurd (show (0 : Int) < (k : Int) by assumption) (by omega)
            | exact absurd (show sgn xs[k - 1] = 0 by assumption) (by assumption)
            | exact absurd (show sgn xs[k] = 0 by assumption) (by assumption)
            | exact absurd rfl (by assumption))
          · have hst : refC xs (k + 1) = refC xs k ++ [((k : Int), (k : Int) + 2)] := by rw [hstep, hcr, if_pos (decide_eq_true (by assumption))]
            refine ⟨⟨k + 1, by omega⟩, by simp only; omega, ?_⟩
            skip
            · refine SLe.of [] [(0, 21)] rfl rfl ?_
              conv => whnf
              repeat' (first
              | exact True.intro
              | (refine SAnd.mk (show _ = (_ : List (List PV)) from by simp only [hst]; simp) ?_; conv => whnf)
              | (refine SAnd.mk (PLe.of_eq (by simp only [wrapK]; rw [wrap_id (by first | omega | (simp only; done) | (simp only; omega) | simp) (by first | omega | (simp only; done) | (simp only; omega) | simp)]; simp)) ?_; conv => whnf)
              | (refine SAnd.mk (PLe.refl _) ?_; conv => whnf)
              | (refine SAnd.mk (PLeL.refl _) ?_; conv => whnf)
              | (refine SAnd.mk (PLe.of_eq (by simp)) ?_; conv => whnf)
              | (refine SAnd.mk rfl ?_; conv => whnf)
              | (refine SAnd.mk ⟨rfl, rfl⟩ ?_; conv => whnf)
              | (refine SAnd.mk ⟨rfl, rfl, rfl⟩ ?_; conv => whnf))
          · have hst : refC xs (k + 1) = refC xs k := by rw [hstep, hcr, if_neg (by simpa using (by assumption : ¬ sgn xs[k] * sgn xs[k + 1] < 0))]
            refine ⟨⟨k + 1, by omega⟩, by simp only; omega, ?_⟩
            skip
            · refine SLe.of [] [(0, 0)] rfl rfl ?_
              conv => whnf
              repeat' (first
              | exact True.intro
              | (refine SAnd.mk (show _ = (_ : List (List PV)) from by simp only [hst]) ?_; conv => whnf)
              | (refine SAnd.mk (PLe.of_eq (by simp only [wrapK]; rw [wrap_id (by first | omega | (simp only; done) | (simp only; omega) | simp) (by first | omega | (simp only; done) | (simp only; omega) | simp)]; simp)) ?_; conv => whnf)
              | (refine SAnd.mk (PLe.refl _) ?_; conv => whnf)
              | (refine SAnd.mk (PLeL.refl _) ?_; conv => whnf)
              | (refine SAnd.mk (PLe.of_eq (by simp)) ?_; conv => whnf)
              | (refine SAnd.mk rfl ?_; conv => whnf)
              | (refine SAnd.mk ⟨rfl, rfl⟩ ?_; conv => whnf)
              | (refine SAnd.mk ⟨rfl, rfl, rfl⟩ ?_; conv => whnf))
        · have hcr : crossB xs (k + 1) = false := by
            unfold crossB
            rw [List.getElem?_eq_none (by omega)]
            simp
          have hst : refC xs (k + 1) = refC xs k := by rw [hstep, hcr]; rfl
          conv => whnf
          repeat' (first
            | (refine codeK_sound good (mu := []) ?_; conv => whnf)
            | ((first | rw [wl0] | rw [wl1] | rw [wl2] | rw [wl3] | rw [wl4] | rw [wl5]); conv => whnf)
            | (rw [wk]; conv => whnf)
            | (rw [wn]; conv => whnf)
            | (refine SBool.mk (fun _ => ?_) (fun h => absurd (of_decide_eq_true rfl) h); conv => whnf)
            | (refine SBool.mk (fun h => absurd h (of_decide_eq_false rfl)) (fun _ => ?_); conv => whnf)
            | (refine SBool.mk (fun h => ?_) (fun h => ?_) <;> conv => whnf)
            | (refine SEx.mk _ (by first | exact hsome | exact c0) ?_; conv => whnf)
            | (refine SEx.mk _ (by first | exact rfl | exact ⟨of_decide_eq_true rfl, rfl⟩) ?_; conv => whnf)
            | (refine SAll.mk (fun _ => ?_); conv => whnf)
            | (refine SAnd.mk (by first | exact hsome) ?_; conv => whnf)
            | (refine SAnd.mk ⟨by intro c hc; simp at hc; first | (subst hc; rfl) | ((repeat' (rcases hc with rfl | hc)) <;> first | rfl | (subst hc; rfl)), by (simp; first | done | omega), by (simp; first | done | omega)⟩ ?_; conv => whnf)
            | (refine SAnd.mk (by first | exact rfl | kernel_rfl | omega | decide | exact hsome | exact c0) ?_; conv => whnf)
            | fail)
          any_goals (first
            | exact absurd (show (0 : Int) < (k : Int) by omega) (by assumption)
            | exact absurd (show (k : Int) + 1 < ((xs.map sc).length : Int) by rw [e0]; omega) (by assumption)
            | exact absurd (show ((k : Nat) : Int) + 1 < ((xs.map sc).length : Int) by assumption) (by rw [e0]; omega)
            | exact absurd (show (0 : Int) < (k : Int) by assumption) (by omega)
            | exact absurd (show sgn xs[k - 1] = 0 by assumption) (by assumption)
            | exact absurd (show sgn xs[k] = 0 by assumption) (by assumption)
            | exact absurd rfl (by assumption))
          · refine ⟨⟨k + 1, by omega⟩, by simp only; omega, ?_⟩
            skip
            · refine SLe.of [] [(0, 0)] rfl rfl ?_
              conv => whnf
              repeat' (first
              | exact True.intro
              | (refine SAnd.mk (show _ = (_ : List (List PV)) from by simp only [hst]) ?_; conv => whnf)
              | (refine SAnd.mk (PLe.of_eq (by simp only [wrapK]; rw [wrap_id (by first | omega | (simp only; done) | (simp only; omega) | simp) (by first | omega | (simp only; done) | (simp only; omega) | simp)]; simp)) ?_; conv => whnf)
              | (refine SAnd.mk (PLe.refl _) ?_; conv => whnf)
              | (refine SAnd.mk (PLeL.refl _) ?_; conv => whnf)
              | (refine SAnd.mk (PLe.of_eq (by simp)) ?_; conv => whnf)
              | (refine SAnd.mk rfl ?_; conv => whnf)
              | (refine SAnd.mk ⟨rfl, rfl⟩ ?_; conv => whnf)
              | (refine SAnd.mk ⟨rfl, rfl, rfl⟩ ?_; conv => whnf))
    · have : k = xs.length := by simp at hc; omega
      subst this
      conv => whnf
      repeat' (first
        | (refine codeK_sound good (mu := []) ?_; conv => whnf)
        | ((first | rw [wl0] | rw [wl1] | rw [wl2] | rw [wl3] | rw [wl4] | rw [wl5]); conv => whnf)
        | (refine SBool.mk (fun _ => ?_) (fun h => absurd (of_decide_eq_true rfl) h); conv => whnf)
        | (refine SBool.mk (fun h => absurd h (of_decide_eq_false rfl)) (fun _ => ?_); conv => whnf)
        | (refine SBool.mk (fun h => ?_) (fun h => ?_) <;> conv => whnf)
        | (refine SEx.mk _ (by first | exact rfl | exact ⟨of_decide_eq_true rfl, rfl⟩) ?_; conv => whnf)
        | (refine SAll.mk (fun _ => ?_); conv => whnf)
        | (refine SAnd.mk ⟨by intro c hc; simp at hc; first | (subst hc; rfl) | ((repeat' (rcases hc with rfl | hc)) <;> first | rfl | (subst hc; rfl)), by (simp; first | done | omega), by (simp; first | done | omega)⟩ ?_; conv => whnf)
        | (refine SAnd.mk (by first | exact rfl | kernel_rfl | omega | decide) ?_; conv => whnf)
        | fail)
      exact ⟨PLe.refl _⟩
end Go.Proofs.Ab.Tone2
end
section
/- The law of the depths. -/
set_option maxRecDepth 100000
set_option linter.unusedVariables false
set_option linter.unusedSimpArgs false
namespace Go.Proofs.Ab.Tone2
open Go Go.RowKit Go.Proofs.Ab Go.Proofs.Ab.Tone
theorem eq_ratio_self (a b : Int) : EqAgg Tone.C 28 [I a, I b] [I a, I b] true := by
  have h := eq_ratio a b a b
  have e : decide (a = a ∧ b = b) = true := by simp
  rw [e] at h
  exact h
section
attribute [local irreducible] APure
set_option maxHeartbeats 4000000 in
theorem ToneDepths_pure {m : Int} (s : Sg) : APure (C m) 3 [.agg (sc s)] (Bo true) := by
  have c18 : APure (C m) 18 [.agg (sc s)] (I (checkE s)) := by
    have h := refCheckSignal_pure s
    rw [refCheckE_eq] at h
    exact up h
  have c15 := up (m := m) (Depths_pure s)
  have c16 := up (m := m) (Needle_pure s)
  have c17 := up (m := m) (Sum_pure s)
  have c25 := up (m := m) (CheckSignal_pure s)
  by_cases h0 : checkE s = 0
  · have h := h0
    have hv : Ok s := checkE_zero.1 h
    have hf := hv.fit.mono (n := 1000000) (by decide)
    have b1 := dif_bound hv.fit; have b2 := sq_le hv.fit.c; have b3 := hv.sq_pos
    have b4 := tot_bound hv.fit
    have b5 := aga_bound hv.fit.c hv.fit.l
    have b6 := aga_bound hv.fit.c hv.fit.h
    have c19 := up (m := m) (refSquareS_pure s hf.c)
    have c21 := up (m := m) (refLow_pure s hf)
    have c22 := up (m := m) (refHigh_pure s hf)
    have c23 := up (m := m) (refNeedle_pure s hv)
    have c24 := up (m := m) (refTotal_pure s hv.fit)
    have cl1 := up (m := m) (refLowest_pure (aga s s.l) (sq s.c) (by omega) b3 (by omega))
    have cl2 := up (m := m) (refLowest_pure (aga s s.h) (sq s.c) (by omega) b3 (by omega))
    have cl3 := up (m := m) (refLowest_pure (tot s) (sq s.c) (by omega) b3 (by omega))
    unfold depthL depthH at c15
    unfold needleR at c16
    unfold sumR at c17
    rw [if_pos h, if_pos h, h] at c15
    rw [if_pos h, h] at c16
    rw [if_pos h, h] at c17
    rw [h] at c18 c25
    refine APure.of_body good [] (fn := Tryz.f3) (by kernel_rfl) (by kernel_rfl) rfl rfl (by kernel_rfl) rfl (by kernel_rfl) ?_
    conv => whnf
    repeat' (first
      | (refine codeK_sound good (mu := []) ?_; conv => whnf)
      | ((first | rw [wl0] | rw [wl1] | rw [wl2] | rw [wl3] | rw [wl4] | rw [wl5]); conv => whnf)
      | (refine SBool.mk (fun _ => ?_) (fun h => absurd (of_decide_eq_true rfl) h); conv => whnf)
      | (refine SBool.mk (fun h => absurd h (of_decide_eq_false rfl)) (fun _ => ?_); conv => whnf)
      | (refine SBool.mk (fun h => ?_) (fun h => ?_) <;> conv => whnf)
      | (refine SEx.mk _ (by first | exact awake_pure | exact c15 | exact c16 | exact c17 | exact c18 | exact c25 | exact c19 | exact c21 | exact c22 | exact c23 | exact c24 | exact cl1 | exact cl2 | exact cl3 | exact eq_ratio_self _ _) ?_; conv => whnf)
      | (refine SEx.mk _ (by first | exact rfl | exact ⟨of_decide_eq_true rfl, rfl⟩) ?_; conv => whnf)
      | (refine SAll.mk (fun _ => ?_); conv => whnf)
      | (refine SAnd.mk ⟨by intro c hc; simp at hc; first | (subst hc; rfl) | ((repeat' (rcases hc with rfl | hc)) <;> first | rfl | (subst hc; rfl)), by (simp; first | done | omega), by (simp; first | done | omega)⟩ ?_; conv => whnf)
      | (refine SAnd.mk (by first | exact rfl | kernel_rfl | omega | decide | exact awake_pure | exact c15 | exact c16 | exact c17 | exact c18 | exact c25 | exact c19 | exact c21 | exact c22 | exact c23 | exact c24 | exact cl1 | exact cl2 | exact cl3 | exact eq_ratio_self _ _) ?_; conv => whnf)
      | fail)
    exact ⟨PLe.refl _⟩
  · unfold depthL depthH at c15
    unfold needleR at c16
    unfold sumR at c17
    rw [if_neg h0, if_neg h0] at c15
    rw [if_neg h0] at c16
    rw [if_neg h0] at c17
    refine APure.of_body good [] (fn := Tryz.f3) (by kernel_rfl) (by kernel_rfl) rfl rfl (by kernel_rfl) rfl (by kernel_rfl) ?_
    conv => whnf
    repeat' (first
      | (refine codeK_sound good (mu := []) ?_; conv => whnf)
      | ((first | rw [wl0] | rw [wl1] | rw [wl2] | rw [wl3] | rw [wl4] | rw [wl5]); conv => whnf)
      | (refine SBool.mk (fun _ => ?_) (fun h => absurd (of_decide_eq_true rfl) h); conv => whnf)
      | (refine SBool.mk (fun h => absurd h (of_decide_eq_false rfl)) (fun _ => ?_); conv => whnf)
      | (refine SBool.mk (fun h => ?_) (fun h => ?_) <;> conv => whnf)
      | (refine SEx.mk _ (by first | exact awake_pure | exact c15 | exact c16 | exact c17 | exact c18 | exact c25 | exact eq_ratio_self _ _) ?_; conv => whnf)
      | (refine SEx.mk _ (by first | exact rfl | exact ⟨of_decide_eq_true rfl, rfl⟩) ?_; conv => whnf)
      | (refine SAll.mk (fun _ => ?_); conv => whnf)
      | (refine SAnd.mk ⟨by intro c hc; simp at hc; first | (subst hc; rfl) | ((repeat' (rcases hc with rfl | hc)) <;> first | rfl | (subst hc; rfl)), by (simp; first | done | omega), by (simp; first | done | omega)⟩ ?_; conv => whnf)
      | (refine SAnd.mk (by first | exact rfl | kernel_rfl | omega | decide | exact awake_pure | exact c15 | exact c16 | exact c17 | exact c18 | exact c25 | exact eq_ratio_self _ _) ?_; conv => whnf)
      | fail)
    all_goals first | exact absurd (by assumption) h0 | exact ⟨PLe.refl _⟩ | simp_all
end
end Go.Proofs.Ab.Tone2
end
section
/- The law of the changes. -/
set_option maxRecDepth 100000
set_option linter.unusedVariables false
set_option linter.unusedSimpArgs false
namespace Go.Proofs.Ab.Tone2
open Go Go.RowKit Go.Proofs.Ab Go.Proofs.Ab.Tone
theorem eq_rsig {s t : Sg} (h : s = t) : EqAgg Tone.C 25 (sc s) (sc t) true := by
  subst h
  have h := eq_rsignal s.c.re s.c.im s.l.re s.l.im s.h.re s.h.im s.c.re s.c.im s.l.re s.l.im s.h.re s.h.im
  rw [decide_eq_true (by simp)] at h
  exact h
theorem eq_rsig0 {s : Sg} (h : s = S0) : EqAgg Tone.C 25 (sc s) [I 0, I 0, I 0, I 0, I 0, I 0] true := eq_rsig h
theorem first2_zero {a b : Int} (h : firstOf [a, b] = 0) : a = 0 ∧ b = 0 := by
  simp only [firstOf] at h
  by_cases ha : a = 0
  · rw [if_pos ha] at h
    by_cases hb : b = 0
    · exact ⟨ha, hb⟩
    · rw [if_neg hb] at h; exact absurd h hb
  · rw [if_neg ha] at h; exact absurd h ha
section
attribute [local irreducible] APure
set_option maxHeartbeats 4000000 in
theorem ToneChanges_parts {m : Int} (a b : Sg) (k : Int) (c d : G) (A T U : Sg) (eA eT eU one two three : Int)
    (cA : APure (C m) 26 [.agg (sc a), .agg (sc b)] (.tup [.agg (sc A), I eA]))
    (cT : APure (C m) 27 [.agg (sc a), I k] (.tup [.agg (sc T), I eT]))
    (cU : APure (C m) 28 [.agg (sc a), .agg (gc c), .agg (gc d)] (.tup [.agg (sc U), I eU]))
    (ca : APure (C m) 18 [.agg (sc a)] (I (checkE a))) (cb : APure (C m) 18 [.agg (sc b)] (I (checkE b)))
    (ck : APure (C m) 30 [I k] (I (within k 0 3))) (cf : APure (C m) 31 [.agg (gc c), .agg (gc d)] (I (firstOf [partE c.re c.im 1000, zeroE c, partE d.re d.im 1000])))
    (c1 : APure (C m) 29 [.seq 1 [[I (checkE a)], [I (checkE b)]]] (I one))
    (c2 : APure (C m) 29 [.seq 1 [[I (checkE a)], [I (within k 0 3)]]] (I two))
    (c3 : APure (C m) 29 [.seq 1 [[I (checkE a)], [I (firstOf [partE c.re c.im 1000, zeroE c, partE d.re d.im 1000])]]] (I three))
    (kA : one = 0 → APure (C m) 32 [.agg (sc a), .agg (sc b)] (.agg (sc (a.add b)))) (kT : two = 0 → APure (C m) 34 [.agg (sc a), I k] (.agg (sc (a.turn k.toNat))))
    (kU : three = 0 → APure (C m) 35 [.agg (sc a), .agg (gc c), .agg (gc d)] (.agg (sc (a.by c d))))
    (cm : ∀ s : Sg, APure (C m) 33 [.agg (sc s)] (I (madeE s)))
    (hA0 : one ≠ 0 → A = S0 ∧ eA = one) (hA1 : one = 0 → madeE (a.add b) ≠ 0 → A = S0 ∧ eA = madeE (a.add b)) (hA2 : one = 0 → madeE (a.add b) = 0 → A = a.add b ∧ eA = madeE (a.add b))
    (hT0 : two ≠ 0 → T = S0 ∧ eT = two) (hT1 : two = 0 → T = a.turn k.toNat ∧ eT = two)
    (hU0 : three ≠ 0 → U = S0 ∧ eU = three) (hU1 : three = 0 → madeE (a.by c d) ≠ 0 → U = S0 ∧ eU = madeE (a.by c d)) (hU2 : three = 0 → madeE (a.by c d) = 0 → U = a.by c d ∧ eU = madeE (a.by c d)) :
    APure (C m) 4 [.agg (sc a), .agg (sc b), .agg [I k, I c.re, I c.im, I d.re, I d.im]] (Bo true) := by
  refine APure.of_body good [] (fn := Tryz.f4) (by kernel_rfl) (by kernel_rfl) rfl rfl (by kernel_rfl) rfl (by kernel_rfl) ?_
  conv => whnf
  repeat' (first
    | (refine codeK_sound good (mu := []) ?_; conv => whnf)
    | ((first | rw [wl0] | rw [wl1] | rw [wl2] | rw [wl3] | rw [wl4] | rw [wl5]); conv => whnf)
    | (refine SBool.mk (fun _ => ?_) (fun h => absurd (of_decide_eq_true rfl) h); conv => whnf)
    | (refine SBool.mk (fun h => absurd h (of_decide_eq_false rfl)) (fun _ => ?_); conv => whnf)
    | (refine SBool.mk (fun h => ?_) (fun h => ?_) <;> conv => whnf)
    | (refine SEx.mk _ (by first | exact awake_pure | exact cA | exact cT | exact cU | exact ca | exact cb | exact ck | exact cf | exact c1 | exact c2 | exact c3 | exact kA (by assumption) | exact kT (by assumption) | exact kU (by assumption) | exact cm _ | exact eq_rsig (hA2 (by assumption) (by assumption)).1 | exact eq_rsig0 (hA0 (by assumption)).1 | exact eq_rsig0 (hA1 (by assumption) (by assumption)).1 | exact eq_rsig (hT1 (by assumption)).1 | exact eq_rsig0 (hT0 (by assumption)).1 | exact eq_rsig (hU2 (by assumption) (by assumption)).1 | exact eq_rsig0 (hU0 (by assumption)).1 | exact eq_rsig0 (hU1 (by assumption) (by assumption)).1) ?_; conv => whnf)
    | (refine SEx.mk _ (by first | exact rfl | exact ⟨of_decide_eq_true rfl, rfl⟩) ?_; conv => whnf)
    | (refine SAll.mk (fun _ => ?_); conv => whnf)
    | (refine SAnd.mk ⟨by intro c hc; simp at hc; first | (subst hc; rfl) | ((repeat' (rcases hc with rfl | hc)) <;> first | rfl | (subst hc; rfl)), by (simp; first | done | omega), by (simp; first | done | omega)⟩ ?_; conv => whnf)
    | (refine SAnd.mk (by first | exact rfl | kernel_rfl | omega | decide | exact awake_pure | exact cA | exact cT | exact cU | exact ca | exact cb | exact ck | exact cf | exact c1 | exact c2 | exact c3 | exact kA (by assumption) | exact kT (by assumption) | exact kU (by assumption) | exact cm _ | exact eq_rsig (hA2 (by assumption) (by assumption)).1 | exact eq_rsig0 (hA0 (by assumption)).1 | exact eq_rsig0 (hA1 (by assumption) (by assumption)).1 | exact eq_rsig (hT1 (by assumption)).1 | exact eq_rsig0 (hT0 (by assumption)).1 | exact eq_rsig (hU2 (by assumption) (by assumption)).1 | exact eq_rsig0 (hU0 (by assumption)).1 | exact eq_rsig0 (hU1 (by assumption) (by assumption)).1) ?_; conv => whnf)
    | fail)
  all_goals first
    | exact ⟨PLe.refl _⟩
    | exact absurd (hA0 (by assumption)).2 (by assumption)
    | exact absurd (hA1 (by assumption) (by assumption)).2 (by assumption)
    | exact absurd (hA2 (by assumption) (by assumption)).2 (by assumption)
    | exact absurd (hT0 (by assumption)).2 (by assumption)
    | exact absurd (hT1 (by assumption)).2 (by assumption)
    | exact absurd (hU0 (by assumption)).2 (by assumption)
    | exact absurd (hU1 (by assumption) (by assumption)).2 (by assumption)
    | exact absurd (hU2 (by assumption) (by assumption)).2 (by assumption)
end
theorem factE_eq (s : Sg) (c d : G) : firstOf [checkE s, firstOf [partE c.re c.im 1000, zeroE c, partE d.re d.im 1000]] = factE s c d := by
  unfold factE
  simp only [firstOf]
  by_cases h1 : checkE s = 0 <;> by_cases h2 : partE c.re c.im 1000 = 0 <;> by_cases h3 : zeroE c = 0 <;> by_cases h4 : partE d.re d.im 1000 = 0 <;> simp [h1, h2, h3, h4]
theorem ToneChanges_pure {m : Int} (a b : Sg) (k : Int) (c d : G) : APure (C m) 4 [.agg (sc a), .agg (sc b), .agg [I k, I c.re, I c.im, I d.re, I d.im]] (Bo true) := by
  refine ToneChanges_parts a b k c d (addedS a b) (turnedS a k) (scaledS a c d) (addedE a b) (turnE a k) (scaledE a c d) (firstOf [checkE a, checkE b]) (turnE a k) (factE a c d)
    (up (Added_pure a b)) (up (Turned_pure a k)) (up (Scaled_pure a c d)) (up (refCheckSignal_pure' a)) (up (refCheckSignal_pure' b)) (up (refTurnE_pure k)) (up (refFactors_pure c d))
    (up (refFirst2_pure _ _)) (up (refFirst2_pure _ _)) (factE_eq a c d ▸ up (refFirst2_pure _ _)) ?_ ?_ ?_ (fun s => up (refCheckSum_pure s)) ?_ ?_ ?_ ?_ ?_ ?_ ?_ ?_
  · intro h
    obtain ⟨h1, h2⟩ := first2_zero h
    exact up (refAdded_pure a b ((checkE_zero.1 h1).fit.mono (by decide)) ((checkE_zero.1 h2).fit.mono (by decide)))
  · intro h
    obtain ⟨h1, h2⟩ := first2_zero h
    exact up (refTurned_pure a k ((checkE_zero.1 h1).fit.mono (by decide)) (within_zero.1 h2))
  · intro h
    unfold factE at h
    rw [firstOf_zero, firstOf_zero, firstOf_zero, firstOf_zero] at h
    have hc := (partE_zero (by decide) (by decide)).1 h.2.1
    have hd := (partE_zero (by decide) (by decide)).1 h.2.2.2.1
    exact up (refScaled_pure a c d ((checkE_zero.1 h.1).fit.mono (by decide)) ⟨Nat.le_trans hc.1 (by decide), Nat.le_trans hc.2 (by decide)⟩ ⟨Nat.le_trans hd.1 (by decide), Nat.le_trans hd.2 (by decide)⟩)
  · intro h; unfold addedS addedE; rw [if_neg h, if_neg h]; exact ⟨rfl, rfl⟩
  · intro h h'; unfold addedS addedE madeS; rw [if_pos h, if_pos h, if_neg h']; exact ⟨rfl, rfl⟩
  · intro h h'; unfold addedS addedE madeS; rw [if_pos h, if_pos h, if_pos h']; exact ⟨rfl, rfl⟩
  · intro h; unfold turnedS; rw [if_neg h]; exact ⟨rfl, rfl⟩
  · intro h; unfold turnedS; rw [if_pos h]; exact ⟨rfl, rfl⟩
  · intro h; unfold scaledS scaledE; rw [if_neg h, if_neg h]; exact ⟨rfl, rfl⟩
  · intro h h'; unfold scaledS scaledE madeS; rw [if_pos h, if_pos h, if_neg h']; exact ⟨rfl, rfl⟩
  · intro h h'; unfold scaledS scaledE madeS; rw [if_pos h, if_pos h, if_pos h']; exact ⟨rfl, rfl⟩
end Go.Proofs.Ab.Tone2
end
section
/- The law of the captures. -/
set_option maxRecDepth 100000
set_option linter.unusedVariables false
set_option linter.unusedSimpArgs false
namespace Go.Proofs.Ab.Tone2
open Go Go.RowKit Go.Proofs.Ab Go.Proofs.Ab.Tone

theorem eq_ratio_of {x y : R} (h : x = y) : EqAgg Tone.C 28 (rc x) (rc y) true := by
  subst h
  exact eq_ratio_self _ _
section
attribute [local irreducible] APure
set_option maxHeartbeats 4000000 in
theorem ToneCaptures_pure {m : Int} (a b : Sg) (band : Int) : APure (C m) 6 [.agg (sc a), .agg (sc b), I band] (Bo true) := by
  have c47 := up (m := m) (Captured_pure a b band)
  have c48 := up (m := m) (Mixed_pure a b band)
  have c49 := up (m := m) (refTwo_pure a b band)
  by_cases h0 : twoE a b band = 0
  · have hz := twoE_zero.1 h0
    have c50 := up (m := m) (refCaptured_pure a b band hz.1 hz.2.1 ⟨by have := hz.2.2.1; omega, hz.2.2.2⟩)
    have c51 := up (m := m) (refMixed_pure a b band hz.1 hz.2.1 ⟨by have := hz.2.2.1; omega, hz.2.2.2⟩)
    rw [if_pos h0, h0] at c47
    rw [if_pos h0, h0] at c48
    rw [h0] at c49
    refine APure.of_body good [] (fn := Tryz.f6) (by kernel_rfl) (by kernel_rfl) rfl rfl (by kernel_rfl) rfl (by kernel_rfl) ?_
    conv => whnf
    repeat' (first
      | (refine codeK_sound good (mu := []) ?_; conv => whnf)
      | ((first | rw [wl0] | rw [wl1] | rw [wl2] | rw [wl3] | rw [wl4] | rw [wl5]); conv => whnf)
      | (refine SBool.mk (fun _ => ?_) (fun h => absurd (of_decide_eq_true rfl) h); conv => whnf)
      | (refine SBool.mk (fun h => absurd h (of_decide_eq_false rfl)) (fun _ => ?_); conv => whnf)
      | (refine SBool.mk (fun h => ?_) (fun h => ?_) <;> conv => whnf)
      | (refine SEx.mk _ (by first | exact awake_pure | exact c47 | exact c48 | exact c49 | exact c50 | exact c51 | exact eq_ratio_self _ _) ?_; conv => whnf)
      | (refine SEx.mk _ (by first | exact rfl | exact ⟨of_decide_eq_true rfl, rfl⟩) ?_; conv => whnf)
      | (refine SAll.mk (fun _ => ?_); conv => whnf)
      | (refine SAnd.mk ⟨by intro c hc; simp at hc; first | (subst hc; rfl) | ((repeat' (rcases hc with rfl | hc)) <;> first | rfl | (subst hc; rfl)), by (simp; first | done | omega), by (simp; first | done | omega)⟩ ?_; conv => whnf)
      | (refine SAnd.mk (by first | exact rfl | kernel_rfl | omega | decide | exact awake_pure | exact c47 | exact c48 | exact c49 | exact c50 | exact c51 | exact eq_ratio_self _ _) ?_; conv => whnf)
      | fail)
    all_goals first | exact ⟨PLe.refl _⟩ | exact absurd rfl (by assumption)
  · rw [if_neg h0] at c47
    rw [if_neg h0] at c48
    refine APure.of_body good [] (fn := Tryz.f6) (by kernel_rfl) (by kernel_rfl) rfl rfl (by kernel_rfl) rfl (by kernel_rfl) ?_
    conv => whnf
    repeat' (first
      | (refine codeK_sound good (mu := []) ?_; conv => whnf)
      | ((first | rw [wl0] | rw [wl1] | rw [wl2] | rw [wl3] | rw [wl4] | rw [wl5]); conv => whnf)
      | (refine SBool.mk (fun _ => ?_) (fun h => absurd (of_decide_eq_true rfl) h); conv => whnf)
      | (refine SBool.mk (fun h => absurd h (of_decide_eq_false rfl)) (fun _ => ?_); conv => whnf)
      | (refine SBool.mk (fun h => ?_) (fun h => ?_) <;> conv => whnf)
      | (refine SEx.mk _ (by first | exact awake_pure | exact c47 | exact c48 | exact c49 | exact eq_ratio_self _ _) ?_; conv => whnf)
      | (refine SEx.mk _ (by first | exact rfl | exact ⟨of_decide_eq_true rfl, rfl⟩) ?_; conv => whnf)
      | (refine SAll.mk (fun _ => ?_); conv => whnf)
      | (refine SAnd.mk ⟨by intro c hc; simp at hc; first | (subst hc; rfl) | ((repeat' (rcases hc with rfl | hc)) <;> first | rfl | (subst hc; rfl)), by (simp; first | done | omega), by (simp; first | done | omega)⟩ ?_; conv => whnf)
      | (refine SAnd.mk (by first | exact rfl | kernel_rfl | omega | decide | exact awake_pure | exact c47 | exact c48 | exact c49 | exact eq_ratio_self _ _) ?_; conv => whnf)
      | fail)
    all_goals first | exact ⟨PLe.refl _⟩ | exact absurd (by assumption) h0 | exact absurd rfl (by assumption)
end
end Go.Proofs.Ab.Tone2
end
section
/- The law of the intervals. -/
set_option maxRecDepth 100000
set_option linter.unusedVariables false
set_option linter.unusedSimpArgs false
namespace Go.Proofs.Ab.Tone2
open Go Go.RowKit Go.Proofs.Ab Go.Proofs.Ab.Tone

theorem eq_iv {x y : Iv} (h : x = y) : EqAgg Tone.C 55 (ic x) (ic y) true := by
  subst h
  have h := eq_interval x.lo x.hi x.lo x.hi
  rw [decide_eq_true (by simp)] at h
  exact h
theorem eq_iv0 {x : Iv} (h : x = ⟨0, 0⟩) : EqAgg Tone.C 55 (ic x) [I 0, I 0] true := eq_iv h
section
attribute [local irreducible] APure
set_option maxHeartbeats 4000000 in
theorem ToneIntervals_parts {m : Int} (r : Rx) (s : Sg) (lo hi n : Int) (L N : Iv) (eL eN bad cl : Int)
    (cL : APure (C m) 52 [.agg (xc r), .agg (sc s), .agg [I lo, I hi]] (.tup [.agg (ic L), I eL]))
    (cN : APure (C m) 53 [.agg (xc r), .agg (sc s), I n] (.tup [.agg (ic N), I eN]))
    (cr : APure (C m) 37 [.agg (xc r)] (I (rxE r))) (cs : APure (C m) 18 [.agg (sc s)] (I (checkE s)))
    (c1 : APure (C m) 29 [.seq 1 [[I (rxE r)], [I (checkE s)]]] (I bad))
    (cl' : APure (C m) 54 [.agg [I lo, I hi]] (I cl)) (cn : APure (C m) 55 [I n, I 0, I 1000] (I (within n 0 1000)))
    (c2 : APure (C m) 29 [.seq 1 [[I bad], [I cl]]] (I eL)) (c3 : APure (C m) 29 [.seq 1 [[I bad], [I (within n 0 1000)]]] (I eN))
    (kL : eL = 0 → APure (C m) 56 [.agg (xc r), .agg (sc s), .agg [I lo, I hi]] (.agg (ic L)))
    (kN : eN = 0 → APure (C m) 57 [.agg (xc r), .agg (sc s), I n] (.agg (ic N)))
    (hL : eL ≠ 0 → L = ⟨0, 0⟩) (hN : eN ≠ 0 → N = ⟨0, 0⟩) :
    APure (C m) 7 [.agg (xc r), .agg (sc s), .agg [I lo, I hi, I n]] (Bo true) := by
  refine APure.of_body good [] (fn := Tryz.f7) (by kernel_rfl) (by kernel_rfl) rfl rfl (by kernel_rfl) rfl (by kernel_rfl) ?_
  conv => whnf
  repeat' (first
    | (refine codeK_sound good (mu := []) ?_; conv => whnf)
    | ((first | rw [wl0] | rw [wl1] | rw [wl2] | rw [wl3] | rw [wl4] | rw [wl5]); conv => whnf)
    | (refine SBool.mk (fun _ => ?_) (fun h => absurd (of_decide_eq_true rfl) h); conv => whnf)
    | (refine SBool.mk (fun h => absurd h (of_decide_eq_false rfl)) (fun _ => ?_); conv => whnf)
    | (refine SBool.mk (fun h => ?_) (fun h => ?_) <;> conv => whnf)
    | (refine SEx.mk _ (by first | exact awake_pure | exact cL | exact cN | exact cr | exact cs | exact c1 | exact cl' | exact cn | exact c2 | exact c3 | exact kL (by assumption) | exact kN (by assumption) | exact eq_iv0 (hL (by assumption)) | exact eq_iv0 (hN (by assumption)) | exact eq_iv rfl) ?_; conv => whnf)
    | (refine SEx.mk _ (by first | exact rfl | exact ⟨of_decide_eq_true rfl, rfl⟩) ?_; conv => whnf)
    | (refine SAll.mk (fun _ => ?_); conv => whnf)
    | (refine SAnd.mk ⟨by intro c hc; simp at hc; first | (subst hc; rfl) | ((repeat' (rcases hc with rfl | hc)) <;> first | rfl | (subst hc; rfl)), by (simp; first | done | omega), by (simp; first | done | omega)⟩ ?_; conv => whnf)
    | (refine SAnd.mk (by first | exact rfl | kernel_rfl | omega | decide | exact awake_pure | exact cL | exact cN | exact cr | exact cs | exact c1 | exact cl' | exact cn | exact c2 | exact c3 | exact kL (by assumption) | exact kN (by assumption) | exact eq_iv0 (hL (by assumption)) | exact eq_iv0 (hN (by assumption)) | exact eq_iv rfl) ?_; conv => whnf)
    | fail)
  all_goals first | exact ⟨PLe.refl _⟩ | exact absurd rfl (by assumption)
end
theorem lostE_eq (r : Rx) (s : Sg) (lo hi : Int) : firstOf [firstOf [rxE r, checkE s], firstOf [within lo 0 1000, within hi 0 1000, ordE lo hi]] = lostE r s lo hi := by
  unfold lostE
  generalize rxE r = a
  generalize checkE s = b
  generalize within lo 0 1000 = c
  generalize within hi 0 1000 = d
  generalize ordE lo hi = e
  simp only [firstOf]
  by_cases h1 : a = 0 <;> by_cases h2 : b = 0 <;> by_cases h3 : c = 0 <;> by_cases h4 : d = 0 <;> by_cases h5 : e = 0 <;> simp [h1, h2, h3, h4, h5]
theorem noisyE_eq (r : Rx) (s : Sg) (n : Int) : firstOf [firstOf [rxE r, checkE s], within n 0 1000] = noisyE r s n := by
  unfold noisyE
  generalize rxE r = a
  generalize checkE s = b
  generalize within n 0 1000 = c
  simp only [firstOf]
  by_cases h1 : a = 0 <;> by_cases h2 : b = 0 <;> by_cases h3 : c = 0 <;> simp [h1, h2, h3]
theorem shownI_mono {r : Rx} (hr : RxOk r) {x y d : Int} (hd : 0 < d) (h : x ≤ y) : shownI r x d ≤ shownI r y d := by
  have h1 := hr.s
  have e : (2 * x * r.scale + d) / (2 * d) ≤ (2 * y * r.scale + d) / (2 * d) := by
    refine Int.ediv_le_ediv (by omega) ?_
    have := Int.mul_le_mul_of_nonneg_right (c := r.scale) (show 2 * x ≤ 2 * y by omega) (by omega)
    omega
  unfold shownI
  omega
theorem ToneIntervals_pure {m : Int} (r : Rx) (s : Sg) (lo hi n : Int) : APure (C m) 7 [.agg (xc r), .agg (sc s), .agg [I lo, I hi, I n]] (Bo true) := by
  refine ToneIntervals_parts r s lo hi n (lostV r s lo hi) (noisyV r s n) (lostE r s lo hi) (noisyE r s n) (firstOf [rxE r, checkE s]) (firstOf [within lo 0 1000, within hi 0 1000, ordE lo hi])
    (up (Lost_pure r s lo hi)) (up (Noisy_pure r s n)) (up (refReceiver_pure' r)) (up (refCheckSignal_pure' s)) (up (refFirst2_pure _ _)) (up (refLoss_pure lo hi)) (up (refRange_pure n 0 1000))
    (lostE_eq r s lo hi ▸ up (refFirst2_pure _ _)) (noisyE_eq r s n ▸ up (refFirst2_pure _ _)) ?_ ?_ ?_ ?_
  · intro h
    have hz := lostE_zero.1 h
    unfold lostV
    rw [if_pos h]
    exact up (refLost_pure r s lo hi hz.1 hz.2.1 hz.2.2.1 hz.2.2.2.1)
  · intro h
    have hz := noisyE_zero.1 h
    have hb : 0 ≤ byI s n := by
      unfold byI absI
      have e1 : 0 ≤ max s.c.re (0 - s.c.re) + max s.c.im (0 - s.c.im) := by omega
      exact Int.mul_nonneg (by omega) e1
    have hm := shownI_mono hz.1 (x := dif s - byI s n) (y := dif s + byI s n) hz.2.1.sq_pos (by omega)
    unfold noisyV
    rw [if_pos h, Int.min_eq_left hm, Int.max_eq_right hm]
    exact up (refNoisy_pure r s n hz.1 hz.2.1 hz.2.2)
  · intro h; unfold lostV; rw [if_neg h]
  · intro h; unfold noisyV; rw [if_neg h]
end Go.Proofs.Ab.Tone2
end
section
/- The law of the receivers. -/
set_option maxRecDepth 100000
set_option linter.unusedVariables false
set_option linter.unusedSimpArgs false
namespace Go.Proofs.Ab.Tone2
open Go Go.RowKit Go.Proofs.Ab Go.Proofs.Ab.Tone
theorem sameInts_nil {m : Int} : APure (C m) 46 [nilS, nilS] (Bo true) :=
  (sameInts_pure (m := m) [] [] (by decide)).weaken (PLeL.cons (Ab.PLe.nil 1) (PLeL.cons (Ab.PLe.nil 1) PLeL.nil)) (PLe.of_eq (by simp))
theorem sameInts_self {m : Int} (l : List Int) (hl : l.length ≤ 1000000) : APure (C m) 46 [.seq 1 (cells1 l), .seq 1 (cells1 l)] (Bo true) :=
  (sameInts_pure (m := m) l l hl).weaken (PLeL.refl _) (PLe.of_eq (by simp))
theorem Followed_bad {m : Int} (r : Rx) (hr : rxE r ≠ 0) (lag start : Int) (xs : List Sg) (hl : xs.length ≤ 1000000) :
    APure (C m) 41 [.agg (xc r), I lag, I start, .seq 6 (xs.map sc)] (.tup [nilS, I (rxE r)]) := by
  have e : ∀ a b c : Int, firstOf [rxE r, a, b, c] = rxE r := fun a b c => by
    show (if rxE r = 0 then _ else rxE r) = rxE r
    rw [if_neg hr]
  have c4 : ∀ a b c : Int, APure (C m) 98 [.seq 1 [[I (rxE r)], [I a], [I b], [I c]]] (I (rxE r)) := fun a b c => by
    have h := up (m := m) (first4_pure (rxE r) a b c)
    rwa [e] at h
  refine APure.of_body good [32, 33] (fn := Tryz.f41) (by kernel_rfl) (by kernel_rfl) rfl rfl (by kernel_rfl) rfl (by kernel_rfl) ?_
  conv => whnf
  repeat' (first
    | (refine codeK_sound good (mu := [32, 33]) ?_; conv => whnf)
    | ((first | rw [wl0] | rw [wl1] | rw [wl2] | rw [wl3] | rw [wl4] | rw [wl5]); conv => whnf)
    | (refine SBool.mk (fun _ => ?_) (fun h => absurd (of_decide_eq_true rfl) h); conv => whnf)
    | (refine SBool.mk (fun h => absurd h (of_decide_eq_false rfl)) (fun _ => ?_); conv => whnf)
    | (refine SBool.mk (fun h => ?_) (fun h => ?_) <;> conv => whnf)
    | (refine SEx.mk _ (by first | exact up (CheckReceiver_pure r) | exact up (within_pure _ _ _) | exact up (checkSignals_pure xs hl) | exact c4 _ _ _) ?_; conv => whnf)
    | (refine SEx.mk _ (by first | exact rfl | exact ⟨of_decide_eq_true rfl, rfl⟩) ?_; conv => whnf)
    | (refine SAll.mk (fun _ => ?_); conv => whnf)
    | (refine SAnd.mk ⟨by intro c hc; simp at hc; first | (subst hc; rfl) | ((repeat' (rcases hc with rfl | hc)) <;> first | rfl | (subst hc; rfl)), by (simp; first | done | omega), by (simp; first | done | omega)⟩ ?_; conv => whnf)
    | (refine SAnd.mk (by first | exact rfl | kernel_rfl | omega | decide | exact up (CheckReceiver_pure r) | exact up (within_pure _ _ _) | exact up (checkSignals_pure xs hl) | exact c4 _ _ _) ?_; conv => whnf)
    | fail)
  · exact absurd (by assumption) hr
  · exact ⟨PLe.refl _⟩
theorem refLag_bad {m : Int} (r : Rx) (hr : rxE r ≠ 0) (lag start : Int) : APure (C m) 43 [.agg (xc r), I lag, I start] (I (rxE r)) := by
  have c2 : ∀ a : Int, APure (C m) 29 [.seq 1 [[I (rxE r)], [I a]]] (I (rxE r)) := fun a => by
    have h := up (m := m) (refFirst2_pure (rxE r) a)
    have e : firstOf [rxE r, a] = rxE r := by
      show (if rxE r = 0 then _ else rxE r) = rxE r
      rw [if_neg hr]
    rwa [e] at h
  refine APure.of_body good [] (fn := Tryz.f43) (by kernel_rfl) (by kernel_rfl) rfl rfl (by kernel_rfl) rfl (by kernel_rfl) ?_
  conv => whnf
  repeat' (first
    | (refine codeK_sound good (mu := []) ?_; conv => whnf)
    | ((first | rw [wl0] | rw [wl1] | rw [wl2] | rw [wl3] | rw [wl4] | rw [wl5]); conv => whnf)
    | (refine SBool.mk (fun _ => ?_) (fun h => absurd (of_decide_eq_true rfl) h); conv => whnf)
    | (refine SBool.mk (fun h => absurd h (of_decide_eq_false rfl)) (fun _ => ?_); conv => whnf)
    | (refine SBool.mk (fun h => ?_) (fun h => ?_) <;> conv => whnf)
    | (refine SEx.mk _ (by first | exact up (refReceiver_pure' r) | exact up (refRange_pure _ _ _) | exact c2 _) ?_; conv => whnf)
    | (refine SEx.mk _ (by first | exact rfl | exact ⟨of_decide_eq_true rfl, rfl⟩) ?_; conv => whnf)
    | (refine SAll.mk (fun _ => ?_); conv => whnf)
    | (refine SAnd.mk ⟨by intro c hc; simp at hc; first | (subst hc; rfl) | ((repeat' (rcases hc with rfl | hc)) <;> first | rfl | (subst hc; rfl)), by (simp; first | done | omega), by (simp; first | done | omega)⟩ ?_; conv => whnf)
    | (refine SAnd.mk (by first | exact rfl | kernel_rfl | omega | decide | exact up (refReceiver_pure' r) | exact up (refRange_pure _ _ _) | exact c2 _) ?_; conv => whnf)
    | fail)
  all_goals first | exact ⟨PLe.refl _⟩ | exact absurd (by assumption) hr
section
attribute [local irreducible] APure
set_option maxHeartbeats 4000000 in
theorem ToneReceivers_none {m : Int} (r : Rx) (lag start : Int) (F : PV) (lg two : Int) (cs : APure (C m) 36 [.seq 6 (([] : List Sg).map sc)] (Bo true))
    (c37 : APure (C m) 37 [.agg (xc r)] (I (rxE r))) (c38 : APure (C m) 38 [.agg (xc r)] (I (rxE r)))
    (c42 : APure (C m) 42 [.seq 6 (([] : List Sg).map sc)] (.seq 6 (([] : List Sg).map sc)))
    (c41 : APure (C m) 41 [.agg (xc r), I lag, I start, .seq 6 (([] : List Sg).map sc)] (.tup [F, I two])) (c43 : APure (C m) 43 [.agg (xc r), I lag, I start] (I lg)) (c44 : APure (C m) 44 [.seq 6 (([] : List Sg).map sc)] (I (checkL [])))
    (c29 : APure (C m) 29 [.seq 1 [[I lg], [I (checkL [])]]] (I two)) (k45 : two = 0 → APure (C m) 45 [.agg (xc r), I lag, I start, .seq 6 (([] : List Sg).map sc)] F) (hF : two ≠ 0 → F = nilS) (c46 : APure (C m) 46 [F, F] (Bo true)) :
    APure (C m) 5 [.agg (xc r), .agg [I lag, I start], .seq 6 (([] : List Sg).map sc)] (Bo true) := by
  have c46' : two ≠ 0 → APure (C m) 46 [F, nilS] (Bo true) := fun h => by
    have := c46
    rwa [hF h] at this ⊢
  refine APure.of_body good [] (fn := Tryz.f5) (by kernel_rfl) (by kernel_rfl) rfl rfl (by kernel_rfl) rfl (by kernel_rfl) ?_
  conv => whnf
  repeat' (first
    | (refine codeK_sound good (mu := []) ?_; conv => whnf)
    | ((first | rw [wl0] | rw [wl1] | rw [wl2] | rw [wl3] | rw [wl4] | rw [wl5]); conv => whnf)
    | (refine SBool.mk (fun _ => ?_) (fun h => absurd (of_decide_eq_true rfl) h); conv => whnf)
    | (refine SBool.mk (fun h => absurd h (of_decide_eq_false rfl)) (fun _ => ?_); conv => whnf)
    | (refine SBool.mk (fun h => ?_) (fun h => ?_) <;> conv => whnf)
    | (refine SEx.mk _ (by first | exact awake_pure | exact cs | exact c37 | exact c38 | exact c41 | exact c42 | exact c43 | exact c44 | exact c29 | exact k45 (by assumption) | exact c46 | exact c46' (by assumption)) ?_; conv => whnf)
    | (refine SEx.mk _ (by first | exact rfl | exact ⟨of_decide_eq_true rfl, rfl⟩) ?_; conv => whnf)
    | (refine SAll.mk (fun _ => ?_); conv => whnf)
    | (refine SAnd.mk ⟨by intro c hc; simp at hc; first | (subst hc; rfl) | ((repeat' (rcases hc with rfl | hc)) <;> first | rfl | (subst hc; rfl)), by (simp; first | done | omega), by (simp; first | done | omega)⟩ ?_; conv => whnf)
    | (refine SAnd.mk (by first | exact rfl | kernel_rfl | omega | decide | exact awake_pure | exact cs | exact c37 | exact c38 | exact c41 | exact c42 | exact c43 | exact c44 | exact c29 | exact k45 (by assumption) | exact c46 | exact c46' (by assumption)) ?_; conv => whnf)
    | fail)
  all_goals first | exact ⟨PLe.refl _⟩ | exact absurd rfl (by assumption) | (simp at *; done)
set_option maxHeartbeats 4000000 in
theorem ToneReceivers_some {m : Int} (r : Rx) (lag start : Int) (x : Sg) (l : List Sg) (F : PV) (lg two : Int) (N : Int) (W : ByteArray) (eT : Int) (cs : APure (C m) 36 [.seq 6 ((x :: l).map sc)] (Bo true))
    (c37 : APure (C m) 37 [.agg (xc r)] (I (rxE r))) (c38 : APure (C m) 38 [.agg (xc r)] (I (rxE r)))
    (c39 : APure (C m) 39 [.agg (xc r), .agg (sc x)] (.tup [I N, St W, I eT])) (c18 : APure (C m) 18 [.agg (sc x)] (I (checkE x))) (c29t : APure (C m) 29 [.seq 1 [[I (rxE r)], [I (checkE x)]]] (I eT))
    (k40 : eT = 0 → APure (C m) 40 [.agg (xc r), .agg (sc x)] (.tup [I N, St W])) (hT : eT ≠ 0 → N = 0 ∧ W = bNone)
    (c42 : APure (C m) 42 [.seq 6 ((x :: l).map sc)] (.seq 6 ((x :: l).map sc)))
    (c41 : APure (C m) 41 [.agg (xc r), I lag, I start, .seq 6 ((x :: l).map sc)] (.tup [F, I two])) (c43 : APure (C m) 43 [.agg (xc r), I lag, I start] (I lg)) (c44 : APure (C m) 44 [.seq 6 ((x :: l).map sc)] (I (checkL (x :: l))))
    (c29 : APure (C m) 29 [.seq 1 [[I lg], [I (checkL (x :: l))]]] (I two)) (k45 : two = 0 → APure (C m) 45 [.agg (xc r), I lag, I start, .seq 6 ((x :: l).map sc)] F) (hF : two ≠ 0 → F = nilS) (c46 : APure (C m) 46 [F, F] (Bo true)) :
    APure (C m) 5 [.agg (xc r), .agg [I lag, I start], .seq 6 ((x :: l).map sc)] (Bo true) := by
  have c46' : two ≠ 0 → APure (C m) 46 [F, nilS] (Bo true) := fun h => by
    have := c46
    rwa [hF h] at this ⊢
  have hin : 0 ≤ (0 : Int) ∧ ((x :: l).map sc)[(0 : Int).toNat]? = some (sc x) := ⟨by omega, rfl⟩
  have hn : ∀ t w, (binOp .neq t (.string W) (.string W)).run Tone.C.P w = .ok (.bool false) w := fun t w => by
    have := neq_string t W W w
    rwa [decide_eq_false (by simp)] at this
  have hn0 : eT ≠ 0 → ∀ t w, (binOp .neq t (.string W) (.string bNone)).run Tone.C.P w = .ok (.bool false) w := fun h t w => by
    have := neq_string t W bNone w
    rwa [decide_eq_false (by rw [(hT h).2]; simp)] at this
  refine APure.of_body good [] (fn := Tryz.f5) (by kernel_rfl) (by kernel_rfl) rfl rfl (by kernel_rfl) rfl (by kernel_rfl) ?_
  conv => whnf
  repeat' (first
    | (refine codeK_sound good (mu := []) ?_; conv => whnf)
    | ((first | rw [wl0] | rw [wl1] | rw [wl2] | rw [wl3] | rw [wl4] | rw [wl5]); conv => whnf)
    | (refine SBool.mk (fun _ => ?_) (fun h => absurd (of_decide_eq_true rfl) h); conv => whnf)
    | (refine SBool.mk (fun h => absurd h (of_decide_eq_false rfl)) (fun _ => ?_); conv => whnf)
    | (refine SBool.mk (fun h => ?_) (fun h => ?_) <;> conv => whnf)
    | (refine SEx.mk _ (by first | exact awake_pure | exact cs | exact c37 | exact c38 | exact c39 | exact c18 | exact c29t | exact k40 (by assumption) | exact c41 | exact c42 | exact c43 | exact c44 | exact c29 | exact k45 (by assumption) | exact c46 | exact c46' (by assumption) | exact hin | exact hn _ | exact hn0 (by assumption) _) ?_; conv => whnf)
    | (refine SEx.mk _ (by first | exact rfl | exact ⟨of_decide_eq_true rfl, rfl⟩) ?_; conv => whnf)
    | (refine SAll.mk (fun _ => ?_); conv => whnf)
    | (refine SAnd.mk (by first | exact hin) ?_; conv => whnf)
    | (refine SAnd.mk ⟨by intro c hc; simp at hc; first | (subst hc; rfl) | ((repeat' (rcases hc with rfl | hc)) <;> first | rfl | (subst hc; rfl)), by (simp; first | done | omega), by (simp; first | done | omega)⟩ ?_; conv => whnf)
    | (refine SAnd.mk (by first | exact rfl | kernel_rfl | omega | decide | exact awake_pure | exact cs | exact c37 | exact c38 | exact c39 | exact c18 | exact c29t | exact k40 (by assumption) | exact c41 | exact c42 | exact c43 | exact c44 | exact c29 | exact k45 (by assumption) | exact c46 | exact c46' (by assumption) | exact hin | exact hn _ | exact hn0 (by assumption) _) ?_; conv => whnf)
    | fail)
  all_goals first | exact ⟨PLe.refl _⟩ | exact absurd rfl (by assumption) | exact absurd (hT (by assumption)).1 (by assumption) | (simp at *; done)
end
theorem follow_eq (a b c d : Int) : firstOf [firstOf [a, b, c], d] = firstOf [a, b, c, d] := by
  simp only [firstOf]
  by_cases h1 : a = 0 <;> by_cases h2 : b = 0 <;> by_cases h3 : c = 0 <;> by_cases h4 : d = 0 <;> simp [h1, h2, h3, h4]
theorem first2_left {a b : Int} (h : a ≠ 0) : firstOf [a, b] = a := by
  show (if a = 0 then _ else a) = a
  rw [if_neg h]
theorem ToneReceivers_pure {m : Int} (r : Rx) (lag start : Int) (xs : List Sg) : APure (C m) 5 [.agg (xc r), .agg [I lag, I start], .seq 6 (xs.map sc)] (Bo true) := by
  have cs := up (m := m) (refShort_pure xs)
  by_cases hb : shortB xs.length = true
  · rw [hb] at cs
    have hl : xs.length ≤ 1000000 := by
      unfold shortB at hb
      rw [Bool.or_eq_true, decide_eq_true_eq, decide_eq_true_eq] at hb
      omega
    have key : ∃ (F : PV) (lg two : Int), APure (C m) 41 [.agg (xc r), I lag, I start, .seq 6 (xs.map sc)] (.tup [F, I two]) ∧ APure (C m) 43 [.agg (xc r), I lag, I start] (I lg) ∧ APure (C m) 29 [.seq 1 [[I lg], [I (checkL xs)]]] (I two) ∧
        (two = 0 → APure (C m) 45 [.agg (xc r), I lag, I start, .seq 6 (xs.map sc)] F) ∧ (two ≠ 0 → F = nilS) ∧ APure (C m) 46 [F, F] (Bo true) := by
      by_cases hr : rxE r = 0
      · have hk := rxE_zero.1 hr
        have hf := hk.f
        refine ⟨followV r lag start xs, lagE r lag start, followE r lag start xs, up (Followed_pure r (by omega) lag start xs hl), up (refLag_pure r (by omega) lag start), ?_, ?_, ?_, ?_⟩
        · have h := up (m := m) (refFirst2_pure (lagE r lag start) (checkL xs))
          unfold lagE at h ⊢
          rw [follow_eq] at h
          exact h
        · intro h0
          obtain ⟨h1, h2, h3, h4⟩ := followE_zero.1 h0
          unfold followV
          rw [if_pos h0]
          exact refFollowed_pure r hk lag start h2.1 (by omega) xs hl (checkL_zero.1 h4).2
        · intro h0
          unfold followV
          rw [if_neg h0]
        · unfold followV
          by_cases h0 : followE r lag start xs = 0
          · rw [if_pos h0]
            exact sameInts_self _ (by simp [followL]; omega)
          · rw [if_neg h0]
            exact sameInts_nil
      · exact ⟨nilS, rxE r, rxE r, Followed_bad r hr lag start xs hl, refLag_bad r hr lag start, (by
          have h := up (m := m) (refFirst2_pure (rxE r) (checkL xs))
          rwa [first2_left hr] at h), fun h => absurd h hr, fun _ => rfl, sameInts_nil⟩
    obtain ⟨F, lg, two, c41, c43, c29, k45, hF, c46⟩ := key
    have c37 := up (m := m) (refReceiver_pure' r)
    have c38 := up (m := m) (CheckReceiver_pure r)
    have c42 := signals_pure (m := m) xs hl
    have c44 := refSignals_pure (m := m) xs hl
    cases xs with
    | nil => exact ToneReceivers_none r lag start F lg two cs c37 c38 c42 c41 c43 c44 c29 k45 hF c46
    | cons x l =>
      refine ToneReceivers_some r lag start x l F lg two _ _ _ cs c37 c38 (up (Told_pure r x)) (up (refCheckSignal_pure' x)) (up (refFirst2_pure _ _)) ?_ ?_ c42 c41 c43 c44 c29 k45 hF c46
      · intro h
        have h' : toldE r x = 0 := h
        obtain ⟨h1, h2⟩ := toldE_zero.1 h'
        rw [if_pos h', if_pos h']
        exact up (refTold_pure r x h1 h2)
      · intro h
        have h' : ¬ toldE r x = 0 := h
        rw [if_neg h', if_neg h']
        exact ⟨rfl, rfl⟩
  · have hb' : shortB xs.length = false := by simpa using hb
    rw [hb'] at cs
    refine APure.of_body good [] (fn := Tryz.f5) (by kernel_rfl) (by kernel_rfl) rfl rfl (by kernel_rfl) rfl (by kernel_rfl) ?_
    conv => whnf
    repeat' (first
      | (refine codeK_sound good (mu := []) ?_; conv => whnf)
      | ((first | rw [wl0] | rw [wl1] | rw [wl2] | rw [wl3] | rw [wl4] | rw [wl5]); conv => whnf)
      | (refine SBool.mk (fun _ => ?_) (fun h => absurd (of_decide_eq_true rfl) h); conv => whnf)
      | (refine SBool.mk (fun h => absurd h (of_decide_eq_false rfl)) (fun _ => ?_); conv => whnf)
      | (refine SBool.mk (fun h => ?_) (fun h => ?_) <;> conv => whnf)
      | (refine SEx.mk _ (by first | exact awake_pure | exact cs) ?_; conv => whnf)
      | (refine SEx.mk _ (by first | exact rfl | exact ⟨of_decide_eq_true rfl, rfl⟩) ?_; conv => whnf)
      | (refine SAll.mk (fun _ => ?_); conv => whnf)
      | (refine SAnd.mk ⟨by intro c hc; simp at hc; first | (subst hc; rfl) | ((repeat' (rcases hc with rfl | hc)) <;> first | rfl | (subst hc; rfl)), by (simp; first | done | omega), by (simp; first | done | omega)⟩ ?_; conv => whnf)
      | (refine SAnd.mk (by first | exact rfl | kernel_rfl | omega | decide | exact awake_pure | exact cs) ?_; conv => whnf)
      | fail)
    all_goals exact ⟨PLe.refl _⟩
end Go.Proofs.Ab.Tone2
end
section
/- The law of the spans. -/
set_option maxRecDepth 100000
set_option linter.unusedVariables false
set_option linter.unusedSimpArgs false
namespace Go.Proofs.Ab.Tone2
open Go Go.RowKit Go.Proofs.Ab Go.Proofs.Ab.Tone
theorem sameSpans_nil {m : Int} : APure (C m) 62 [nilS, nilS] (Bo true) :=
  (sameSpans_pure (m := m) [] [] (by decide)).weaken (PLeL.cons (Ab.PLe.nil 2) (PLeL.cons (Ab.PLe.nil 2) PLeL.nil)) (PLe.of_eq (by simp))
theorem sameSpans_self {m : Int} (l : List Sp) (hl : l.length ≤ 1000000) : APure (C m) 62 [seqP l, seqP l] (Bo true) :=
  (sameSpans_pure (m := m) l l hl).weaken (PLeL.refl _) (PLe.of_eq (by simp))
section
attribute [local irreducible] APure
set_option maxHeartbeats 4000000 in
theorem ToneSpans_parts {m : Int} (r : Rx) (xs : List Sg) (A F : PV) (one two : Int) (cs : APure (C m) 36 [.seq 6 (xs.map sc)] (Bo true)) (c42 : APure (C m) 42 [.seq 6 (xs.map sc)] (.seq 6 (xs.map sc)))
    (c58 : APure (C m) 58 [.seq 6 (xs.map sc)] (.tup [A, I one])) (c59 : APure (C m) 59 [.agg (xc r), .seq 6 (xs.map sc)] (.tup [F, I two]))
    (c44 : APure (C m) 44 [.seq 6 (xs.map sc)] (I one)) (c37 : APure (C m) 37 [.agg (xc r)] (I (rxE r))) (c29 : APure (C m) 29 [.seq 1 [[I (rxE r)], [I one]]] (I two))
    (k60 : one = 0 → APure (C m) 60 [.seq 6 (xs.map sc)] A) (k61 : two = 0 → APure (C m) 61 [.agg (xc r), .seq 6 (xs.map sc)] F) (hA : one ≠ 0 → A = nilS) (hF : two ≠ 0 → F = nilS)
    (cA : APure (C m) 62 [A, A] (Bo true)) (cF : APure (C m) 62 [F, F] (Bo true)) : APure (C m) 8 [.agg (xc r), .seq 6 (xs.map sc)] (Bo true) := by
  have cA' : one ≠ 0 → APure (C m) 62 [A, nilS] (Bo true) := fun h => by
    have := cA
    rwa [hA h] at this ⊢
  have cF' : two ≠ 0 → APure (C m) 62 [F, nilS] (Bo true) := fun h => by
    have := cF
    rwa [hF h] at this ⊢
  refine APure.of_body good [] (fn := Tryz.f8) (by kernel_rfl) (by kernel_rfl) rfl rfl (by kernel_rfl) rfl (by kernel_rfl) ?_
  conv => whnf
  repeat' (first
    | (refine codeK_sound good (mu := []) ?_; conv => whnf)
    | ((first | rw [wl0] | rw [wl1] | rw [wl2] | rw [wl3] | rw [wl4] | rw [wl5]); conv => whnf)
    | (refine SBool.mk (fun _ => ?_) (fun h => absurd (of_decide_eq_true rfl) h); conv => whnf)
    | (refine SBool.mk (fun h => absurd h (of_decide_eq_false rfl)) (fun _ => ?_); conv => whnf)
    | (refine SBool.mk (fun h => ?_) (fun h => ?_) <;> conv => whnf)
    | (refine SEx.mk _ (by first | exact awake_pure | exact cs | exact c42 | exact c58 | exact c59 | exact c44 | exact c37 | exact c29 | exact k60 (by assumption) | exact k61 (by assumption) | exact cA | exact cA' (by assumption) | exact cF | exact cF' (by assumption)) ?_; conv => whnf)
    | (refine SEx.mk _ (by first | exact rfl | exact ⟨of_decide_eq_true rfl, rfl⟩) ?_; conv => whnf)
    | (refine SAll.mk (fun _ => ?_); conv => whnf)
    | (refine SAnd.mk ⟨by intro c hc; simp at hc; first | (subst hc; rfl) | ((repeat' (rcases hc with rfl | hc)) <;> first | rfl | (subst hc; rfl)), by (simp; first | done | omega), by (simp; first | done | omega)⟩ ?_; conv => whnf)
    | (refine SAnd.mk (by first | exact rfl | kernel_rfl | omega | decide | exact awake_pure | exact cs | exact c42 | exact c58 | exact c59 | exact c44 | exact c37 | exact c29 | exact k60 (by assumption) | exact k61 (by assumption) | exact cA | exact cA' (by assumption) | exact cF | exact cF' (by assumption)) ?_; conv => whnf)
    | fail)
  all_goals first | exact ⟨PLe.refl _⟩ | exact absurd rfl (by assumption)
end
theorem ToneSpans_pure {m : Int} (r : Rx) (xs : List Sg) : APure (C m) 8 [.agg (xc r), .seq 6 (xs.map sc)] (Bo true) := by
  have cs := up (m := m) (refShort_pure xs)
  by_cases hb : shortB xs.length = true
  · rw [hb] at cs
    have hl : xs.length ≤ 1000 := by
      unfold shortB at hb
      rw [Bool.or_eq_true, decide_eq_true_eq, decide_eq_true_eq] at hb
      omega
    have hcl : (refC xs xs.length).length ≤ 1000000 := by have := refC_len xs xs.length; omega
    refine ToneSpans_parts r xs _ _ (checkL xs) (flaggedE r xs) cs (signals_pure xs (by omega)) (Crossings_pure xs (by omega)) (Flagged_pure r xs (by omega)) (refSignals_pure xs (by omega)) (up (refReceiver_pure' r)) (up (refFirst2_pure _ _)) ?_ ?_ ?_ ?_ ?_ ?_
    · intro h
      rw [if_pos h, ← refC_eq]
      exact refCrossings_pure xs (by omega) (checkL_zero.1 h).2
    · intro h
      have hz := flaggedE_zero.1 h
      unfold flaggedV
      rw [if_pos h]
      exact refFlagged_pure r hz.1 xs (by omega) (checkL_zero.1 hz.2).2
    · intro h; rw [if_neg h]
    · intro h; unfold flaggedV; rw [if_neg h]
    · by_cases h : checkL xs = 0
      · rw [if_pos h, ← refC_eq]; exact sameSpans_self _ hcl
      · rw [if_neg h]; exact sameSpans_nil
    · unfold flaggedV
      by_cases h : flaggedE r xs = 0
      · rw [if_pos h]; exact sameSpans_self _ (by have := spans_len (flagP r xs) xs.length; omega)
      · rw [if_neg h]; exact sameSpans_nil
  · have hb' : shortB xs.length = false := by simpa using hb
    rw [hb'] at cs
    refine APure.of_body good [] (fn := Tryz.f8) (by kernel_rfl) (by kernel_rfl) rfl rfl (by kernel_rfl) rfl (by kernel_rfl) ?_
    conv => whnf
    repeat' (first
      | (refine codeK_sound good (mu := []) ?_; conv => whnf)
      | ((first | rw [wl0] | rw [wl1] | rw [wl2] | rw [wl3] | rw [wl4] | rw [wl5]); conv => whnf)
      | (refine SBool.mk (fun _ => ?_) (fun h => absurd (of_decide_eq_true rfl) h); conv => whnf)
      | (refine SBool.mk (fun h => absurd h (of_decide_eq_false rfl)) (fun _ => ?_); conv => whnf)
      | (refine SBool.mk (fun h => ?_) (fun h => ?_) <;> conv => whnf)
      | (refine SEx.mk _ (by first | exact awake_pure | exact cs) ?_; conv => whnf)
      | (refine SEx.mk _ (by first | exact rfl | exact ⟨of_decide_eq_true rfl, rfl⟩) ?_; conv => whnf)
      | (refine SAll.mk (fun _ => ?_); conv => whnf)
      | (refine SAnd.mk ⟨by intro c hc; simp at hc; first | (subst hc; rfl) | ((repeat' (rcases hc with rfl | hc)) <;> first | rfl | (subst hc; rfl)), by (simp; first | done | omega), by (simp; first | done | omega)⟩ ?_; conv => whnf)
      | (refine SAnd.mk (by first | exact rfl | kernel_rfl | omega | decide | exact awake_pure | exact cs) ?_; conv => whnf)
      | fail)
    all_goals exact ⟨PLe.refl _⟩
end Go.Proofs.Ab.Tone2
end
section
/- ToneSpans: for every receiver and list of signals the program's crossings and flagged spans, or the errors, are the reference's: the law returns true. (Lists longer than 20 are left out by the law itself, but for one too many; the listed variables are as the program's text lays them.) -/
set_option maxRecDepth 100000
set_option linter.unusedVariables false
set_option linter.unusedSimpArgs false
namespace Go.Proofs.YtkphoimochkndaaGreatDoor
open Go Go.RowKit Go.Proofs.Ab Go.Proofs.Ab.Tone Go.Proofs.Ab.Tone2
theorem toneSpans_lifted (os : Os) (started : os.Started) (H : Type) (enc : TypeId × Value → H) :
    ReturnsInHanded {} Tryz.checked os 8 .any (fun w args => (Rows.toneSpansSpec.pre enc Tryz.prog Tryz.f8 [] false w args ∧ laidMetH Tryz.prog listed w) ∧ sizedMet enc Tryz.prog Tryz.f8 (OpenSpec.ofChange Rows.toneSpansSpec) false w args)
      (Rows.toneSpansSpec.post enc Tryz.prog Tryz.f8 false true false false) := by
  refine lifted_of started (by as_aux_lemma => kernel_rfl) Tryz.func8 (ss := [(true, fiveSh), (false, [.sl sigSh])])
    (witness #[.agg #[.int .i64 0, .int .i64 0, .int .i64 0, .int .i64 0, .int .i64 0], .slice none 0 0] (by as_aux_lemma => kernel_rfl) (by as_aux_lemma => kernel_rfl) (by as_aux_lemma => kernel_rfl) (World.shaped_of_ZipB (by as_aux_lemma => kernel_rfl) (by as_aux_lemma => kernel_rfl)) (laidMet_laidAll _ (by as_aux_lemma => kernel_rfl) (by as_aux_lemma => kernel_rfl)))
    ?_ (by as_aux_lemma => kernel_rfl) (by as_aux_lemma => kernel_rfl) rfl ?_ ?_
  · rw [Tryz.params8]
    intro t ht
    have hall : ([57, 59].all fun u => Tryz.prog.readableRec u && decide (u < Tryz.prog.types.size)) = true := by as_aux_lemma => kernel_rfl
    have := List.all_eq_true.1 hall t (by simpa using ht)
    rw [Bool.and_eq_true, decide_eq_true_eq] at this
    exact this
  · rw [Tryz.params8]
    intro ds hd
    match ds, hd with
    | [d0, d1], _ => exact ⟨rfl, rfl, rfl⟩
  · intro m xs h
    obtain ⟨x0, xs, rfl, h0, h⟩ := h.uncons
    obtain ⟨x1, xs, rfl, h1, h⟩ := h.uncons
    obtain rfl := h.unnil
    obtain ⟨n1, n2, n3, n4, n5, rfl, _⟩ := fit_five h0
    obtain ⟨l, rfl⟩ := fit_sigs h1
    exact ToneSpans_pure ⟨n1, n2, n3, n4, n5⟩ l
set_option maxHeartbeats 40000000 in
theorem toneSpans_facts : joinedFacts Tryz.pinned.checked.prog 8 Tryz.f8 Rows.toneSpansSpec Rows.toneSpansRow = true := by
  unfold joinedFacts
  simp only [Bool.and_eq_true]
  repeat' apply And.intro
  all_goals as_aux_lemma => kernel_rfl
theorem toneSpans_row : Rows.ToneSpansSaid :=
  OpenClaim.holds_of_wide 8 Tryz.f8 rfl rfl rfl rfl rfl rfl rfl ⟨rfl, rfl, rfl, rfl, rfl⟩ rfl rfl rfl rfl rfl (by as_aux_lemma => kernel_rfl) Tryz.func8 toneSpans_facts
    (of_decide_eq_true (by as_aux_lemma => kernel_rfl)) (by as_aux_lemma => unfold Func.isWrapper; first | (rw [if_pos (by decide +kernel)]; kernel_rfl) | (rw [if_neg (by decide +kernel)]; exact ⟨rfl, rfl⟩))
    (fun os started H enc _ => toneSpans_lifted os started H enc)
theorem toneSpans_named : Tryz.prog.funcNamed "glideslope/glideslopelaw02.ToneSpans" = some 8 := by kernel_rfl
theorem toneSpans_holds : Rows.ToneSpansCardSaid :=
  Claim7.holds_tied_plain_at .later [] [.data, .data, .data, .data, .data, .pinned] true (true, "6883a40308061e1e56e57a0a897ad96630f21489591d51bcd46258b6daf0fcd9") false toneSpans_row (fun _ h => by cases h) (by as_aux_lemma => kernel_rfl) (fun _ h => by cases h) toneSpans_row_tie rfl ⟨rfl, rfl⟩ (by as_aux_lemma => kernel_rfl) rfl
    (fun f fn hf hfn => by
      obtain rfl : f = 8 := Option.some.inj (toneSpans_named.symm.trans hf) |>.symm
      obtain rfl : fn = Tryz.f8 := (Option.some.inj (Tryz.func8.symm.trans hfn)).symm
      exact ⟨by as_aux_lemma => kernel_rfl, fun j t ht => by
        rw [Tryz.params8] at ht
        have hm : t ∈ [57, 59] := by simpa using Array.mem_of_getElem? ht
        have hall : ([57, 59].all fun u => !Tryz.prog.wantsStandIn u) = true := by as_aux_lemma => kernel_rfl
        exact (show Tryz.prog.wantsStandIn t = false by simpa using List.all_eq_true.1 hall t hm)⟩)
    (by as_aux_lemma => kernel_rfl)
#print axioms toneSpans_holds
end Go.Proofs.YtkphoimochkndaaGreatDoor
end
