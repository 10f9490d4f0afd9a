/- The proof of ToneWithin (see the last theorem): for every input that can be read the law returns true; the listed package-level variables are as the program's text lays them. -/
import Derived.Test.YtkphoimochkndaaGreatDoorK6
section
/- The reference's signals and its follower; the law's lists. -/
set_option maxRecDepth 100000
set_option linter.unusedVariables false
set_option linter.unusedSimpArgs false
namespace Go.Proofs.Ab.Tone2
open Go Go.RowKit Go.Proofs.Ab Go.Proofs.Ab.Tone
theorem checks_drop {xs : List Sg} {k : Nat} (h : k < xs.length) : firstOf ((xs.drop k).map checkE) = if checkE xs[k] = 0 then firstOf ((xs.drop (k + 1)).map checkE) else checkE xs[k] := by
  rw [List.drop_eq_getElem_cons h]
  rfl
theorem refCheckSignal_pure' (s : Sg) : APure Tone.C 18 [.agg (sc s)] (I (checkE s)) := refCheckE_eq s ▸ refCheckSignal_pure s
theorem checkL_small {xs : List Sg} (h0 : ¬ ((xs.map sc).length : Int) = 0) (h1 : ¬ 256 < ((xs.map sc).length : Int)) : checkL xs = firstOf (xs.map checkE) := by
  have e0 : (xs.map sc).length = xs.length := by simp
  rw [e0] at h0 h1
  have hz : sizedE xs.length 256 = 0 := by
    unfold sizedE
    rw [if_neg (by omega), if_neg (by omega)]
  unfold checkL
  rw [hz]
  simp only [firstOf]
  by_cases h : firstOf (xs.map checkE) = 0 <;> simp [h]
theorem checkL_big {xs : List Sg} (h1 : 256 < ((xs.map sc).length : Int)) : checkL xs = 5 := by
  have e0 : (xs.map sc).length = xs.length := by simp
  rw [e0] at h1
  have hz : sizedE xs.length 256 = 5 := by
    unfold sizedE
    rw [if_neg (by omega), if_pos (by omega)]
  unfold checkL
  rw [hz]
  simp [firstOf]
theorem checkL_none {xs : List Sg} (h1 : ((xs.map sc).length : Int) = 0) : checkL xs = 12 := by
  have e0 : (xs.map sc).length = xs.length := by simp
  rw [e0] at h1
  have hz : sizedE xs.length 256 = 12 := by
    unfold sizedE
    rw [if_pos (by omega)]
  unfold checkL
  rw [hz]
  simp [firstOf]
theorem refSignals_pure {m : Int} (xs : List Sg) (hl : xs.length ≤ 1000000) : APure (C m) 44 [.seq 6 (xs.map sc)] (I (checkL xs)) := by
  have e0 : (xs.map sc).length = xs.length := by simp
  refine APure.of_body good [] (fn := Tryz.f44) (by kernel_rfl) (by kernel_rfl) rfl rfl (by kernel_rfl) rfl (by kernel_rfl) ?_
  conv => whnf
  repeat' (first
    | (refine codeK_sound good (mu := []) ?_; conv => whnf)
    | ((first | rw [wl0] | rw [wl1] | rw [wl2] | rw [wl3] | rw [wl4] | rw [wl5]); conv => whnf)
    | (refine SBool.mk (fun _ => ?_) (fun h => absurd (of_decide_eq_true rfl) h); conv => whnf)
    | (refine SBool.mk (fun h => absurd h (of_decide_eq_false rfl)) (fun _ => ?_); conv => whnf)
    | (refine SBool.mk (fun h => ?_) (fun h => ?_) <;> conv => whnf)
    | (refine SEx.mk _ (by first | exact up (refWhen_pure _ _) | exact up (refFirst2_pure _ _)) ?_; conv => whnf)
    | (refine SEx.mk _ (by first | exact rfl | exact ⟨of_decide_eq_true rfl, rfl⟩) ?_; conv => whnf)
    | (refine SAll.mk (fun _ => ?_); conv => whnf)
    | (refine SAnd.mk ⟨by intro c hc; simp at hc; first | (subst hc; rfl) | ((repeat' (rcases hc with rfl | hc)) <;> first | rfl | (subst hc; rfl)), by (simp; first | done | omega), by (simp; first | done | omega)⟩ ?_; conv => whnf)
    | (refine SAnd.mk (by first | exact rfl | kernel_rfl | omega | decide | exact up (refWhen_pure _ _) | exact up (refFirst2_pure _ _)) ?_; conv => whnf)
    | fail)
  · rename_i h0 h1
    exact absurd h1 (by omega)
  · rename_i h0 h1
    exact ⟨PLe.of_eq (by rw [checkL_none h0]; rfl)⟩
  · rename_i h0 h1
    exact ⟨PLe.of_eq (by rw [checkL_big h]; rfl)⟩
  · rename_i h0 h1
    have hc := checkL_small h0 h
    refine ⟨AWp.loop (ι := { k : Nat // k ≤ xs.length ∧ firstOf (xs.map checkE) = firstOf ((xs.drop k).map checkE) }) (fun k => ⟨[(4, .p (I k.1)), (0, .p (.seq 6 (xs.map sc)))], [], [], 0, [], [], []⟩) (fun k => xs.length - k.1) ⟨0, by simp⟩ ?_ ?_⟩
    · skip
      · refine SLe.of [] [] rfl rfl ?_
        conv => whnf
        repeat' (first
        | exact True.intro
        | (refine SAnd.mk (PLe.of_eq (by simp only [wrapK]; rw [wrap_id (by first | omega | (simp only; done) | (simp only; omega) | simp) (by first | omega | (simp only; done) | (simp only; omega) | simp)]; simp)) ?_; conv => whnf)
        | (refine SAnd.mk (PLe.refl _) ?_; conv => whnf)
        | (refine SAnd.mk (PLeL.refl _) ?_; conv => whnf)
        | (refine SAnd.mk (PLe.of_eq (by simp)) ?_; conv => whnf)
        | (refine SAnd.mk rfl ?_; conv => whnf)
        | (refine SAnd.mk ⟨rfl, rfl⟩ ?_; conv => whnf)
        | (refine SAnd.mk ⟨rfl, rfl, rfl⟩ ?_; conv => whnf))
    · rintro ⟨k, hk, he⟩
      refine codeK_sound good (mu := []) ?_
      conv => whnf
      refine SBool.mk (fun hq => ?_) (fun hq => ?_)
      · conv => whnf
        have hkl : k < xs.length := by simpa using hq
        refine SEx.mk (sc xs[k]) (by simp [hkl]) ?_
        conv => whnf
        conv => whnf
        repeat' (first
          | (refine codeK_sound good (mu := []) ?_; conv => whnf)
          | ((first | rw [wl0] | rw [wl1] | rw [wl2] | rw [wl3] | rw [wl4] | rw [wl5]); conv => whnf)
          | (refine SBool.mk (fun _ => ?_) (fun h => absurd (of_decide_eq_true rfl) h); conv => whnf)
          | (refine SBool.mk (fun h => absurd h (of_decide_eq_false rfl)) (fun _ => ?_); conv => whnf)
          | (refine SBool.mk (fun h => ?_) (fun h => ?_) <;> conv => whnf)
          | (refine SEx.mk _ (by first | exact up (refCheckSignal_pure' xs[k])) ?_; conv => whnf)
          | (refine SEx.mk _ (by first | exact rfl | exact ⟨of_decide_eq_true rfl, rfl⟩) ?_; conv => whnf)
          | (refine SAll.mk (fun _ => ?_); conv => whnf)
          | (refine SAnd.mk ⟨by intro c hc; simp at hc; first | (subst hc; rfl) | ((repeat' (rcases hc with rfl | hc)) <;> first | rfl | (subst hc; rfl)), by (simp; first | done | omega), by (simp; first | done | omega)⟩ ?_; conv => whnf)
          | (refine SAnd.mk (by first | exact rfl | kernel_rfl | omega | decide | exact up (refCheckSignal_pure' xs[k])) ?_; conv => whnf)
          | fail)
        · refine ⟨⟨k + 1, by omega, by rw [he, checks_drop hkl, if_pos h]⟩, by simp only; omega, ?_⟩
          skip
          · refine SLe.of [] [] rfl rfl ?_
            conv => whnf
            repeat' (first
            | exact True.intro
            | (refine SAnd.mk (PLe.of_eq (by simp only [wrapK]; rw [wrap_id (by first | omega | (simp only; done) | (simp only; omega) | simp) (by first | omega | (simp only; done) | (simp only; omega) | simp)]; simp)) ?_; conv => whnf)
            | (refine SAnd.mk (PLe.refl _) ?_; conv => whnf)
            | (refine SAnd.mk (PLeL.refl _) ?_; conv => whnf)
            | (refine SAnd.mk (PLe.of_eq (by simp)) ?_; conv => whnf)
            | (refine SAnd.mk rfl ?_; conv => whnf)
            | (refine SAnd.mk ⟨rfl, rfl⟩ ?_; conv => whnf)
            | (refine SAnd.mk ⟨rfl, rfl, rfl⟩ ?_; conv => whnf))
        · exact ⟨PLe.of_eq (by rw [hc, he, checks_drop hkl, if_neg h])⟩
      · conv => whnf
        have : k = xs.length := by simp at hq; omega
        exact ⟨PLe.of_eq (by rw [hc, he, this]; simp [firstOf])⟩
theorem refFollowed_pure {m : Int} (r : Rx) (hr : RxOk r) (lag start : Int) (hlag : 1 ≤ lag) (hs : -1000 ≤ start ∧ start ≤ 1000) (xs : List Sg) (hl : xs.length ≤ 1000000) (hx : ∀ s ∈ xs, Ok s) :
    APure (C m) 45 [.agg (xc r), I lag, I start, .seq 6 (xs.map sc)] (.seq 1 (cells1 (followL r lag start xs xs.length))) := by
  refine APure.of_body good [] (fn := Tryz.f45) (by kernel_rfl) (by kernel_rfl) rfl rfl (by kernel_rfl) rfl (by kernel_rfl) ?_
  conv => whnf
  repeat' (first
    | (refine codeK_sound good (mu := []) ?_; conv => whnf)
    | ((first | rw [wl0] | rw [wl1] | rw [wl2] | rw [wl3] | rw [wl4] | rw [wl5]); conv => whnf)
    | (refine SBool.mk (fun _ => ?_) (fun h => absurd (of_decide_eq_true rfl) h); conv => whnf)
    | (refine SBool.mk (fun h => absurd h (of_decide_eq_false rfl)) (fun _ => ?_); conv => whnf)
    | (refine SBool.mk (fun h => ?_) (fun h => ?_) <;> conv => whnf)
    | (refine SEx.mk _ (by first | exact rfl | exact ⟨of_decide_eq_true rfl, rfl⟩) ?_; conv => whnf)
    | (refine SAll.mk (fun _ => ?_); conv => whnf)
    | (refine SAnd.mk ⟨by intro c hc; simp at hc; first | (subst hc; rfl) | ((repeat' (rcases hc with rfl | hc)) <;> first | rfl | (subst hc; rfl)), by (simp; first | done | omega), by (simp; first | done | omega)⟩ ?_; conv => whnf)
    | (refine SAnd.mk (by first | exact rfl | kernel_rfl | omega | decide) ?_; conv => whnf)
    | fail)
  refine ⟨AWp.loop (ι := { k : Nat // k ≤ xs.length }) (fun k => ⟨[(11, .p (I k.1)), (10, .p (I (needleAt r lag start xs k.1))), (9, .own 0), (4, .p (.ref (xc r))), (1, .p (I lag)), (3, .p (.seq 6 (xs.map sc)))], [], [(0, (3, 1, cells1 (followL r lag start xs k.1)))], 1, [], [], []⟩) (fun k => xs.length - k.1) ⟨0, by simp⟩ ?_ ?_⟩
  · refine SLe.row 9 3 1 ?_
    conv => whnf
    skip
    · refine SLe.of [] [(0, 0)] rfl rfl ?_
      conv => whnf
      repeat' (first
      | exact True.intro
      | (refine SAnd.mk (PLe.of_eq (by simp only [wrapK]; rw [wrap_id (by first | omega | (simp only; done) | (simp only; omega) | simp) (by first | omega | (simp only; done) | (simp only; omega) | simp)]; simp)) ?_; conv => whnf)
      | (refine SAnd.mk (PLe.refl _) ?_; conv => whnf)
      | (refine SAnd.mk (PLeL.refl _) ?_; conv => whnf)
      | (refine SAnd.mk (PLe.of_eq (by simp)) ?_; conv => whnf)
      | (refine SAnd.mk rfl ?_; conv => whnf)
      | (refine SAnd.mk ⟨rfl, rfl⟩ ?_; conv => whnf)
      | (refine SAnd.mk ⟨rfl, rfl, rfl⟩ ?_; conv => whnf))
  · rintro ⟨k, hk⟩
    refine codeK_sound good (mu := []) ?_
    conv => whnf
    refine SBool.mk (fun hc => ?_) (fun hc => ?_)
    · conv => whnf
      have hkl : k < xs.length := by simpa using hc
      have hnb := needle_bound hr hlag hs (xs := xs) k hk
      have htb := toldI_bound hr xs[k]
      have hsb := step_bound hlag htb hnb
      have w1 : wrapK IntKind.i64 (toldI r xs[k] - needleAt r lag start xs k) = toldI r xs[k] - needleAt r lag start xs k := w64 (by omega)
      have w2 : wrapK IntKind.i64 (needleAt r lag start xs k + (toldI r xs[k] - needleAt r lag start xs k) / lag) = needleAt r lag start xs k + (toldI r xs[k] - needleAt r lag start xs k) / lag := w64 (by omega)
      have hsome : 0 ≤ (k : Int) ∧ (xs.map sc)[((k : Int)).toNat]? = some (sc xs[k]) := ⟨by omega, by show (xs.map sc)[k]? = _; simp [hkl]⟩
      conv => whnf
      repeat' (first
        | (refine codeK_sound good (mu := []) ?_; conv => whnf)
        | ((first | rw [wl0] | rw [wl1] | rw [wl2] | rw [wl3] | rw [wl4] | rw [wl5]); conv => whnf)
        | (rw [w2]; conv => whnf)
        | (rw [w1]; conv => whnf)
        | (refine SBool.mk (fun _ => ?_) (fun h => absurd (of_decide_eq_true rfl) h); conv => whnf)
        | (refine SBool.mk (fun h => absurd h (of_decide_eq_false rfl)) (fun _ => ?_); conv => whnf)
        | (refine SBool.mk (fun h => ?_) (fun h => ?_) <;> conv => whnf)
        | (refine SEx.mk _ (by first | exact hsome | exact up (refTold_pure r xs[k] hr (hx _ (List.getElem_mem hkl))) | exact eql_string _ _ _ | exact up (refFloor_pure _ _ (by omega) (by omega))) ?_; conv => whnf)
        | (refine SEx.mk _ (by first | exact rfl | exact ⟨of_decide_eq_true rfl, rfl⟩) ?_; conv => whnf)
        | (refine SAll.mk (fun _ => ?_); conv => whnf)
        | (refine SAnd.mk (by first | exact hsome) ?_; conv => whnf)
        | (refine SAnd.mk ⟨by intro c hc; simp at hc; first | (subst hc; rfl) | ((repeat' (rcases hc with rfl | hc)) <;> first | rfl | (subst hc; rfl)), by (simp; first | done | omega), by (simp; first | done | omega)⟩ ?_; conv => whnf)
        | (refine SAnd.mk (by first | exact rfl | kernel_rfl | omega | decide | exact hsome | exact up (refTold_pure r xs[k] hr (hx _ (List.getElem_mem hkl))) | exact eql_string _ _ _ | exact up (refFloor_pure _ _ (by omega) (by omega))) ?_; conv => whnf)
        | fail)
      · have hz : flagB r xs[k] = bNone := of_decide_eq_true h
        have hstep : stepN r lag (needleAt r lag start xs k) xs[k] = needleAt r lag start xs k + (toldI r xs[k] - needleAt r lag start xs k) / lag := by unfold stepN; rw [if_pos hz]
        refine SAnd.mk ⟨by intro c hc; simp at hc; subst hc; rfl, by simp [cells1, followL]; omega, by simp [cells1, followL]; omega⟩ ?_
        conv => whnf
        refine ⟨⟨k + 1, by omega⟩, by simp only; omega, ?_⟩
        skip
        · refine SLe.of [] [(0, 11)] rfl rfl ?_
          conv => whnf
          repeat' (first
          | exact True.intro
          | (refine SAnd.mk (PLe.of_eq (by simp only; rw [needleAt_succ hkl, hstep])) ?_; conv => whnf)
          | (refine SAnd.mk ((by simp only; rw [followL_succ, needleAt_succ hkl, hstep])) ?_; conv => whnf)
          | (refine SAnd.mk (PLe.of_eq (by simp only [wrapK]; rw [wrap_id (by first | omega | (simp only; done) | (simp only; omega) | simp) (by first | omega | (simp only; done) | (simp only; omega) | simp)]; simp)) ?_; conv => whnf)
          | (refine SAnd.mk (PLe.refl _) ?_; conv => whnf)
          | (refine SAnd.mk (PLeL.refl _) ?_; conv => whnf)
          | (refine SAnd.mk (PLe.of_eq (by simp)) ?_; conv => whnf)
          | (refine SAnd.mk rfl ?_; conv => whnf)
          | (refine SAnd.mk ⟨rfl, rfl⟩ ?_; conv => whnf)
          | (refine SAnd.mk ⟨rfl, rfl, rfl⟩ ?_; conv => whnf))
      · have hz : ¬ flagB r xs[k] = bNone := of_decide_eq_false (by simpa using h)
        have hstep : stepN r lag (needleAt r lag start xs k) xs[k] = needleAt r lag start xs k := by unfold stepN; rw [if_neg hz]
        refine SAnd.mk ⟨by intro c hc; simp at hc; subst hc; rfl, by simp [cells1, followL]; omega, by simp [cells1, followL]; omega⟩ ?_
        conv => whnf
        refine ⟨⟨k + 1, by omega⟩, by simp only; omega, ?_⟩
        skip
        · refine SLe.of [] [(0, 11)] rfl rfl ?_
          conv => whnf
          repeat' (first
          | exact True.intro
          | (refine SAnd.mk (PLe.of_eq (by simp only; rw [needleAt_succ hkl, hstep])) ?_; conv => whnf)
          | (refine SAnd.mk ((by simp only; rw [followL_succ, needleAt_succ hkl, hstep])) ?_; conv => whnf)
          | (refine SAnd.mk (PLe.of_eq (by simp only [wrapK]; rw [wrap_id (by first | omega | (simp only; done) | (simp only; omega) | simp) (by first | omega | (simp only; done) | (simp only; omega) | simp)]; simp)) ?_; conv => whnf)
          | (refine SAnd.mk (PLe.refl _) ?_; conv => whnf)
          | (refine SAnd.mk (PLeL.refl _) ?_; conv => whnf)
          | (refine SAnd.mk (PLe.of_eq (by simp)) ?_; conv => whnf)
          | (refine SAnd.mk rfl ?_; conv => whnf)
          | (refine SAnd.mk ⟨rfl, rfl⟩ ?_; conv => whnf)
          | (refine SAnd.mk ⟨rfl, rfl, rfl⟩ ?_; conv => whnf))
    · conv => whnf
      have : k = xs.length := by simp at hc; omega
      subst this
      exact ⟨PLe.refl _⟩
/-- The law's list of signals as the program's. -/
theorem signals_pure {m : Int} (xs : List Sg) (hl : xs.length ≤ 1000000) : APure (C m) 42 [.seq 6 (xs.map sc)] (.seq 6 (xs.map sc)) := by
  refine APure.of_body good [] (fn := Tryz.f42) (by kernel_rfl) (by kernel_rfl) rfl rfl (by kernel_rfl) rfl (by kernel_rfl) ?_
  conv => whnf
  repeat' (first
    | (refine codeK_sound good (mu := []) ?_; conv => whnf)
    | ((first | rw [wl0] | rw [wl1] | rw [wl2] | rw [wl3] | rw [wl4] | rw [wl5]); conv => whnf)
    | (refine SBool.mk (fun _ => ?_) (fun h => absurd (of_decide_eq_true rfl) h); conv => whnf)
    | (refine SBool.mk (fun h => absurd h (of_decide_eq_false rfl)) (fun _ => ?_); conv => whnf)
    | (refine SBool.mk (fun h => ?_) (fun h => ?_) <;> conv => whnf)
    | (refine SEx.mk _ (by first | exact rfl | exact ⟨of_decide_eq_true rfl, rfl⟩) ?_; conv => whnf)
    | (refine SAll.mk (fun _ => ?_); conv => whnf)
    | (refine SAnd.mk ⟨by intro c hc; simp at hc; first | (subst hc; rfl) | ((repeat' (rcases hc with rfl | hc)) <;> first | rfl | (subst hc; rfl)), by (simp; first | done | omega), by (simp; first | done | omega)⟩ ?_; conv => whnf)
    | (refine SAnd.mk (by first | exact rfl | kernel_rfl | omega | decide) ?_; conv => whnf)
    | fail)
  refine ⟨AWp.loop (ι := { k : Nat // k ≤ xs.length }) (fun k => ⟨[(8, .p (I k.1)), (7, .p (I xs.length)), (6, .p (.seq 6 (xs.map sc))), (3, .own 0)], [], [(0, (32, 6, (xs.take k.1).map sc))], 1, [], [], []⟩) (fun k => xs.length - k.1) ⟨0, by simp⟩ ?_ ?_⟩
  · refine SLe.row 3 32 6 ?_
    conv => whnf
    skip
    · refine SLe.of [] [(0, 0)] rfl rfl ?_
      conv => whnf
      repeat' (first
      | exact True.intro
      | (refine SAnd.mk (PLe.of_eq (by simp only [wrapK]; rw [wrap_id (by first | omega | (simp only; done) | (simp only; omega) | simp) (by first | omega | (simp only; done) | (simp only; omega) | simp)]; simp)) ?_; conv => whnf)
      | (refine SAnd.mk (PLe.refl _) ?_; conv => whnf)
      | (refine SAnd.mk (PLeL.refl _) ?_; conv => whnf)
      | (refine SAnd.mk (PLe.of_eq (by simp)) ?_; conv => whnf)
      | (refine SAnd.mk rfl ?_; conv => whnf)
      | (refine SAnd.mk ⟨rfl, rfl⟩ ?_; conv => whnf)
      | (refine SAnd.mk ⟨rfl, rfl, rfl⟩ ?_; conv => whnf))
  · rintro ⟨k, hk⟩
    refine codeK_sound good (mu := []) ?_
    conv => whnf
    refine SBool.mk (fun hc => ?_) (fun hc => ?_)
    · conv => whnf
      have hkl : k < xs.length := by simpa using hc
      have hsome : 0 ≤ (k : Int) ∧ (xs.map sc)[((k : Int)).toNat]? = some (sc xs[k]) := ⟨by omega, by show (xs.map sc)[k]? = _; simp [hkl]⟩
      conv => whnf
      repeat' (first
        | (refine codeK_sound good (mu := []) ?_; conv => whnf)
        | ((first | rw [wl0] | rw [wl1] | rw [wl2] | rw [wl3] | rw [wl4] | rw [wl5]); conv => whnf)
        | (refine SBool.mk (fun _ => ?_) (fun h => absurd (of_decide_eq_true rfl) h); conv => whnf)
        | (refine SBool.mk (fun h => absurd h (of_decide_eq_false rfl)) (fun _ => ?_); conv => whnf)
        | (refine SBool.mk (fun h => ?_) (fun h => ?_) <;> conv => whnf)
        | (refine SEx.mk _ (by first | exact hsome) ?_; conv => whnf)
        | (refine SEx.mk _ (by first | exact rfl | exact ⟨of_decide_eq_true rfl, rfl⟩) ?_; conv => whnf)
        | (refine SAll.mk (fun _ => ?_); conv => whnf)
        | (refine SAnd.mk (by first | exact hsome) ?_; conv => whnf)
        | (refine SAnd.mk ⟨by intro c hc; simp at hc; first | (subst hc; rfl) | ((repeat' (rcases hc with rfl | hc)) <;> first | rfl | (subst hc; rfl)), by (simp; first | done | omega), by (simp; first | done | omega)⟩ ?_; conv => whnf)
        | (refine SAnd.mk (by first | exact rfl | kernel_rfl | omega | decide | exact hsome) ?_; conv => whnf)
        | fail)
      refine ⟨⟨k + 1, by omega⟩, by simp only; omega, ?_⟩
      skip
      · refine SLe.of [] [(0, 2)] rfl rfl ?_
        conv => whnf
        repeat' (first
        | exact True.intro
        | (refine SAnd.mk ((take_map_succ hkl _).symm) ?_; conv => whnf)
        | (refine SAnd.mk (PLe.of_eq (by simp only [wrapK]; rw [wrap_id (by first | omega | (simp only; done) | (simp only; omega) | simp) (by first | omega | (simp only; done) | (simp only; omega) | simp)]; simp)) ?_; conv => whnf)
        | (refine SAnd.mk (PLe.refl _) ?_; conv => whnf)
        | (refine SAnd.mk (PLeL.refl _) ?_; conv => whnf)
        | (refine SAnd.mk (PLe.of_eq (by simp)) ?_; conv => whnf)
        | (refine SAnd.mk rfl ?_; conv => whnf)
        | (refine SAnd.mk ⟨rfl, rfl⟩ ?_; conv => whnf)
        | (refine SAnd.mk ⟨rfl, rfl, rfl⟩ ?_; conv => whnf))
    · conv => whnf
      have : k = xs.length := by simp at hc; omega
      subst this
      exact ⟨PLe.of_eq (by simp)⟩
end Go.Proofs.Ab.Tone2
end
section
/- The law of the depths. -/
set_option maxRecDepth 100000
set_option linter.unusedVariables false
set_option linter.unusedSimpArgs false
namespace Go.Proofs.Ab.Tone2
open Go Go.RowKit Go.Proofs.Ab Go.Proofs.Ab.Tone
theorem eq_ratio_self (a b : Int) : EqAgg Tone.C 28 [I a, I b] [I a, I b] true := by
  have h := eq_ratio a b a b
  have e : decide (a = a ∧ b = b) = true := by simp
  rw [e] at h
  exact h
section
attribute [local irreducible] APure
set_option maxHeartbeats 4000000 in
theorem ToneDepths_pure {m : Int} (s : Sg) : APure (C m) 3 [.agg (sc s)] (Bo true) := by
  have c18 : APure (C m) 18 [.agg (sc s)] (I (checkE s)) := by
    have h := refCheckSignal_pure s
    rw [refCheckE_eq] at h
    exact up h
  have c15 := up (m := m) (Depths_pure s)
  have c16 := up (m := m) (Needle_pure s)
  have c17 := up (m := m) (Sum_pure s)
  have c25 := up (m := m) (CheckSignal_pure s)
  by_cases h0 : checkE s = 0
  · have h := h0
    have hv : Ok s := checkE_zero.1 h
    have hf := hv.fit.mono (n := 1000000) (by decide)
    have b1 := dif_bound hv.fit; have b2 := sq_le hv.fit.c; have b3 := hv.sq_pos
    have b4 := tot_bound hv.fit
    have b5 := aga_bound hv.fit.c hv.fit.l
    have b6 := aga_bound hv.fit.c hv.fit.h
    have c19 := up (m := m) (refSquareS_pure s hf.c)
    have c21 := up (m := m) (refLow_pure s hf)
    have c22 := up (m := m) (refHigh_pure s hf)
    have c23 := up (m := m) (refNeedle_pure s hv)
    have c24 := up (m := m) (refTotal_pure s hv.fit)
    have cl1 := up (m := m) (refLowest_pure (aga s s.l) (sq s.c) (by omega) b3 (by omega))
    have cl2 := up (m := m) (refLowest_pure (aga s s.h) (sq s.c) (by omega) b3 (by omega))
    have cl3 := up (m := m) (refLowest_pure (tot s) (sq s.c) (by omega) b3 (by omega))
    unfold depthL depthH at c15
    unfold needleR at c16
    unfold sumR at c17
    rw [if_pos h, if_pos h, h] at c15
    rw [if_pos h, h] at c16
    rw [if_pos h, h] at c17
    rw [h] at c18 c25
    refine APure.of_body good [] (fn := Tryz.f3) (by kernel_rfl) (by kernel_rfl) rfl rfl (by kernel_rfl) rfl (by kernel_rfl) ?_
    conv => whnf
    repeat' (first
      | (refine codeK_sound good (mu := []) ?_; conv => whnf)
      | ((first | rw [wl0] | rw [wl1] | rw [wl2] | rw [wl3] | rw [wl4] | rw [wl5]); conv => whnf)
      | (refine SBool.mk (fun _ => ?_) (fun h => absurd (of_decide_eq_true rfl) h); conv => whnf)
      | (refine SBool.mk (fun h => absurd h (of_decide_eq_false rfl)) (fun _ => ?_); conv => whnf)
      | (refine SBool.mk (fun h => ?_) (fun h => ?_) <;> conv => whnf)
      | (refine SEx.mk _ (by first | exact awake_pure | exact c15 | exact c16 | exact c17 | exact c18 | exact c25 | exact c19 | exact c21 | exact c22 | exact c23 | exact c24 | exact cl1 | exact cl2 | exact cl3 | exact eq_ratio_self _ _) ?_; conv => whnf)
      | (refine SEx.mk _ (by first | exact rfl | exact ⟨of_decide_eq_true rfl, rfl⟩) ?_; conv => whnf)
      | (refine SAll.mk (fun _ => ?_); conv => whnf)
      | (refine SAnd.mk ⟨by intro c hc; simp at hc; first | (subst hc; rfl) | ((repeat' (rcases hc with rfl | hc)) <;> first | rfl | (subst hc; rfl)), by (simp; first | done | omega), by (simp; first | done | omega)⟩ ?_; conv => whnf)
      | (refine SAnd.mk (by first | exact rfl | kernel_rfl | omega | decide | exact awake_pure | exact c15 | exact c16 | exact c17 | exact c18 | exact c25 | exact c19 | exact c21 | exact c22 | exact c23 | exact c24 | exact cl1 | exact cl2 | exact cl3 | exact eq_ratio_self _ _) ?_; conv => whnf)
      | fail)
    exact ⟨PLe.refl _⟩
  · unfold depthL depthH at c15
    unfold needleR at c16
    unfold sumR at c17
    rw [if_neg h0, if_neg h0] at c15
    rw [if_neg h0] at c16
    rw [if_neg h0] at c17
    refine APure.of_body good [] (fn := Tryz.f3) (by kernel_rfl) (by kernel_rfl) rfl rfl (by kernel_rfl) rfl (by kernel_rfl) ?_
    conv => whnf
    repeat' (first
      | (refine codeK_sound good (mu := []) ?_; conv => whnf)
      | ((first | rw [wl0] | rw [wl1] | rw [wl2] | rw [wl3] | rw [wl4] | rw [wl5]); conv => whnf)
      | (refine SBool.mk (fun _ => ?_) (fun h => absurd (of_decide_eq_true rfl) h); conv => whnf)
      | (refine SBool.mk (fun h => absurd h (of_decide_eq_false rfl)) (fun _ => ?_); conv => whnf)
      | (refine SBool.mk (fun h => ?_) (fun h => ?_) <;> conv => whnf)
      | (refine SEx.mk _ (by first | exact awake_pure | exact c15 | exact c16 | exact c17 | exact c18 | exact c25 | exact eq_ratio_self _ _) ?_; conv => whnf)
      | (refine SEx.mk _ (by first | exact rfl | exact ⟨of_decide_eq_true rfl, rfl⟩) ?_; conv => whnf)
      | (refine SAll.mk (fun _ => ?_); conv => whnf)
      | (refine SAnd.mk ⟨by intro c hc; simp at hc; first | (subst hc; rfl) | ((repeat' (rcases hc with rfl | hc)) <;> first | rfl | (subst hc; rfl)), by (simp; first | done | omega), by (simp; first | done | omega)⟩ ?_; conv => whnf)
      | (refine SAnd.mk (by first | exact rfl | kernel_rfl | omega | decide | exact awake_pure | exact c15 | exact c16 | exact c17 | exact c18 | exact c25 | exact eq_ratio_self _ _) ?_; conv => whnf)
      | fail)
    all_goals first | exact absurd (by assumption) h0 | exact ⟨PLe.refl _⟩ | simp_all
end
end Go.Proofs.Ab.Tone2
end
section
/- The law's looks at a signal and at a ratio; plain laws of ratios. -/
set_option maxRecDepth 100000
set_option linter.unusedVariables false
set_option linter.unusedSimpArgs false
namespace Go.Proofs.Ab.Tone2
open Go Go.RowKit Go.Proofs.Ab Go.Proofs.Ab.Tone
def near1 (a : G) (n : Int) : Prop := (-n ≤ a.re ∧ a.re ≤ n) ∧ (-n ≤ a.im ∧ a.im ≤ n)
def nearP (s : Sg) (n : Int) : Prop := checkE s = 0 ∧ near1 s.c n ∧ near1 s.l n ∧ near1 s.h n
instance (s : Sg) (n : Int) : Decidable (nearP s n) := by unfold nearP near1; infer_instance
theorem near_pure {m : Int} (s : Sg) (n : Int) (h0 : 0 ≤ n) (h1 : n ≤ 1000000) : APure (C m) 69 [.agg (sc s), I n] (Bo (decide (nearP s n))) := by
  have wn : wrapK IntKind.i64 (0 - n) = 0 - n := w64 (by omega)
  have hin : ∀ i : Nat, i < 3 → True := fun _ _ => True.intro
  refine APure.of_body good [] (fn := Tryz.f69) (by kernel_rfl) (by kernel_rfl) rfl rfl (by kernel_rfl) rfl (by kernel_rfl) ?_
  conv => whnf
  repeat' (first
    | (refine codeK_sound good (mu := []) ?_; conv => whnf)
    | ((first | rw [wl0] | rw [wl1] | rw [wl2] | rw [wl3] | rw [wl4] | rw [wl5]); conv => whnf)
    | (rw [wn]; conv => whnf)
    | (refine SBool.mk (fun _ => ?_) (fun h => absurd (of_decide_eq_true rfl) h); conv => whnf)
    | (refine SBool.mk (fun h => absurd h (of_decide_eq_false rfl)) (fun _ => ?_); conv => whnf)
    | (refine SBool.mk (fun h => ?_) (fun h => ?_) <;> conv => whnf)
    | refine SCode.mk (AWp.rounds 4 ?_)
    | (refine SEx.mk _ (by first | exact up (refCheckSignal_pure' s)) ?_; conv => whnf)
    | (refine SEx.mk _ (by first | exact rfl | exact ⟨of_decide_eq_true rfl, rfl⟩) ?_; conv => whnf)
    | (refine SAll.mk (fun _ => ?_); conv => whnf)
    | (refine SAnd.mk ⟨by intro c hc; simp at hc; first | (subst hc; rfl) | ((repeat' (rcases hc with rfl | hc)) <;> first | rfl | (subst hc; rfl)), by (simp; first | done | omega), by (simp; first | done | omega)⟩ ?_; conv => whnf)
    | (refine SAnd.mk (by first | exact rfl | kernel_rfl | omega | decide | exact up (refCheckSignal_pure' s)) ?_; conv => whnf)
    | fail)
  all_goals first
    | exact ⟨PLe.of_eq (by rw [decide_eq_false (by unfold nearP near1; omega)])⟩
    | exact ⟨PLe.of_eq (by rw [decide_eq_true (by unfold nearP near1; omega)])⟩
theorem refCheckRatio_pure {m : Int} (n d : Int) (hn : n.natAbs ≤ 999999999) (hd : 0 < d) (hd2 : d ≤ 999999999) (hg : Int.gcd n d = 1) : APure (C m) 145 [.agg [I n, I d]] (I 0) := by
  have c1 : APure (C m) 55 [I n, I (-999999999), I 999999999] (I 0) := by
    have h := up (m := m) (refRange_pure n (-999999999) 999999999)
    rwa [within_zero.2 (by omega)] at h
  have c2 : APure (C m) 55 [I d, I 1, I 999999999] (I 0) := by
    have h := up (m := m) (refRange_pure d 1 999999999)
    rwa [within_zero.2 (by omega)] at h
  have c3 : APure (C m) 95 [I n, I d] (I 1) := by
    have h := up (m := m) (refDivisor_pure n d (by omega) (by omega))
    rwa [hg] at h
  refine APure.of_body good [] (fn := Tryz.f145) (by kernel_rfl) (by kernel_rfl) rfl rfl (by kernel_rfl) rfl (by kernel_rfl) ?_
  conv => whnf
  repeat' (first
    | (refine codeK_sound good (mu := []) ?_; conv => whnf)
    | ((first | rw [wl0] | rw [wl1] | rw [wl2] | rw [wl3] | rw [wl4] | rw [wl5]); conv => whnf)
    | (refine SBool.mk (fun _ => ?_) (fun h => absurd (of_decide_eq_true rfl) h); conv => whnf)
    | (refine SBool.mk (fun h => absurd h (of_decide_eq_false rfl)) (fun _ => ?_); conv => whnf)
    | (refine SBool.mk (fun h => ?_) (fun h => ?_) <;> conv => whnf)
    | (refine SEx.mk _ (by first | exact c1 | exact c2 | exact c3 | exact up (refFirst2_pure _ _) | exact up (refWhen_pure _ _)) ?_; conv => whnf)
    | (refine SEx.mk _ (by first | exact rfl | exact ⟨of_decide_eq_true rfl, rfl⟩) ?_; conv => whnf)
    | (refine SAll.mk (fun _ => ?_); conv => whnf)
    | (refine SAnd.mk ⟨by intro c hc; simp at hc; first | (subst hc; rfl) | ((repeat' (rcases hc with rfl | hc)) <;> first | rfl | (subst hc; rfl)), by (simp; first | done | omega), by (simp; first | done | omega)⟩ ?_; conv => whnf)
    | (refine SAnd.mk (by first | exact rfl | kernel_rfl | omega | decide | exact c1 | exact c2 | exact c3 | exact up (refFirst2_pure _ _) | exact up (refWhen_pure _ _)) ?_; conv => whnf)
    | fail)
  exact ⟨PLe.refl _⟩
theorem right_pure {m : Int} (n d : Int) (hn : n.natAbs ≤ 999999999) (hd : 0 < d) (hd2 : d ≤ 999999999) (hg : Int.gcd n d = 1) : APure (C m) 71 [.agg [I n, I d]] (Bo true) := by
  refine APure.of_body good [] (fn := Tryz.f71) (by kernel_rfl) (by kernel_rfl) rfl rfl (by kernel_rfl) rfl (by kernel_rfl) ?_
  conv => whnf
  repeat' (first
    | (refine codeK_sound good (mu := []) ?_; conv => whnf)
    | ((first | rw [wl0] | rw [wl1] | rw [wl2] | rw [wl3] | rw [wl4] | rw [wl5]); conv => whnf)
    | (refine SBool.mk (fun _ => ?_) (fun h => absurd (of_decide_eq_true rfl) h); conv => whnf)
    | (refine SBool.mk (fun h => absurd h (of_decide_eq_false rfl)) (fun _ => ?_); conv => whnf)
    | (refine SBool.mk (fun h => ?_) (fun h => ?_) <;> conv => whnf)
    | (refine SEx.mk _ (by first | exact refCheckRatio_pure n d hn hd hd2 hg) ?_; conv => whnf)
    | (refine SEx.mk _ (by first | exact rfl | exact ⟨of_decide_eq_true rfl, rfl⟩) ?_; conv => whnf)
    | (refine SAll.mk (fun _ => ?_); conv => whnf)
    | (refine SAnd.mk ⟨by intro c hc; simp at hc; first | (subst hc; rfl) | ((repeat' (rcases hc with rfl | hc)) <;> first | rfl | (subst hc; rfl)), by (simp; first | done | omega), by (simp; first | done | omega)⟩ ?_; conv => whnf)
    | (refine SAnd.mk (by first | exact rfl | kernel_rfl | omega | decide | exact refCheckRatio_pure n d hn hd hd2 hg) ?_; conv => whnf)
    | fail)
  exact ⟨PLe.refl _⟩
theorem gcd_pos' {n d : Int} (hd : 0 < d) : 0 < Int.gcd n d := Int.gcd_pos_of_ne_zero_right n (by omega)
theorem low_scale {k n d : Int} (hk : 0 < k) : low (k * n) (k * d) = low n d := by
  have hg : ((Int.gcd (k * n) (k * d) : Nat) : Int) = k * (Int.gcd n d : Nat) := by
    rw [Int.gcd_mul_left, Int.natCast_mul]
    rw [Int.natAbs_of_nonneg (by omega)]
  unfold low
  rw [hg, Int.mul_ediv_mul_of_pos _ _ hk, Int.mul_ediv_mul_of_pos _ _ hk]
theorem low_eq {n d n' d' : Int} (hd : 0 < d) (hd' : 0 < d') (h : n * d' = n' * d) : low n d = low n' d' := by
  rw [← low_scale (n := n) (d := d) hd', ← low_scale (n := n') (d := d') hd]
  rw [Int.mul_comm d' n, Int.mul_comm d n', h, Int.mul_comm d' d]
/-- A ratio in lowest terms, told apart from the quotient it is. -/
structure IsLow (x : R) (n d : Int) : Prop where
  den : 0 < x.den
  le : x.den ≤ d
  num : x.num.natAbs ≤ n.natAbs
  gcd : Int.gcd x.num x.den = 1
  eq : x.num * d = n * x.den
theorem isLow {n d : Int} (hd : 0 < d) : IsLow (low n d) n d := by
  have hg := gcd_pos' (n := n) hd
  have h1 : ((Int.gcd n d : Nat) : Int) ∣ n := Int.gcd_dvd_left ..
  have h2 : ((Int.gcd n d : Nat) : Int) ∣ d := Int.gcd_dvd_right ..
  obtain ⟨a, ha⟩ := h1
  obtain ⟨b, hb⟩ := h2
  have hg0 : ((Int.gcd n d : Nat) : Int) ≠ 0 := by omega
  have en : (low n d).num = a := by
    show n / _ = a
    rw [ha, ← ha, Int.ediv_eq_of_eq_mul_right hg0 ha]
  have ed : (low n d).den = b := by
    show d / _ = b
    rw [Int.ediv_eq_of_eq_mul_right hg0 hb]
  have hb0 : 0 < b := by
    have : 0 < ((Int.gcd n d : Nat) : Int) * b := by rw [← hb]; exact hd
    exact Int.pos_of_mul_pos_right this (by omega) |> fun h => h
  refine ⟨by rw [ed]; exact hb0, ?_, ?_, ?_, ?_⟩
  · rw [ed, hb]
    have := Int.mul_le_mul_of_nonneg_right (a := 1) (b := ((Int.gcd n d : Nat) : Int)) (c := b) (by omega) (by omega)
    rw [Int.one_mul] at this
    rw [← hb] at this ⊢
    omega
  · rw [en]
    have e : n.natAbs = Int.gcd n d * a.natAbs := by
      have := congrArg Int.natAbs ha
      rw [Int.natAbs_mul] at this
      simpa using this
    rw [e]
    exact Nat.le_mul_of_pos_left _ hg
  · exact Int.gcd_ediv_gcd_ediv_gcd hg
  · rw [en, ed]
    have e1 : a * d = a * (((Int.gcd n d : Nat) : Int) * b) := by rw [← hb]
    have e2 : n * b = (((Int.gcd n d : Nat) : Int) * a) * b := by rw [← ha]
    rw [e1, e2, ← Int.mul_assoc, Int.mul_comm a]
/-- Two quotients that are one ratio, told by products of the ratios they were made of. -/
theorem low_neg {n d : Int} (hd : 0 < d) : low (-n) d = ⟨0 - (low n d).num, (low n d).den⟩ := by
  have h1 : ((Int.gcd n d : Nat) : Int) ∣ n := Int.gcd_dvd_left ..
  unfold low
  rw [Int.neg_gcd, Int.neg_ediv_of_dvd h1, Int.zero_sub]
end Go.Proofs.Ab.Tone2
end
section
/- The law of the changes. -/
set_option maxRecDepth 100000
set_option linter.unusedVariables false
set_option linter.unusedSimpArgs false
namespace Go.Proofs.Ab.Tone2
open Go Go.RowKit Go.Proofs.Ab Go.Proofs.Ab.Tone
theorem eq_rsig {s t : Sg} (h : s = t) : EqAgg Tone.C 25 (sc s) (sc t) true := by
  subst h
  have h := eq_rsignal s.c.re s.c.im s.l.re s.l.im s.h.re s.h.im s.c.re s.c.im s.l.re s.l.im s.h.re s.h.im
  rw [decide_eq_true (by simp)] at h
  exact h
theorem eq_rsig0 {s : Sg} (h : s = S0) : EqAgg Tone.C 25 (sc s) [I 0, I 0, I 0, I 0, I 0, I 0] true := eq_rsig h
theorem first2_zero {a b : Int} (h : firstOf [a, b] = 0) : a = 0 ∧ b = 0 := by
  simp only [firstOf] at h
  by_cases ha : a = 0
  · rw [if_pos ha] at h
    by_cases hb : b = 0
    · exact ⟨ha, hb⟩
    · rw [if_neg hb] at h; exact absurd h hb
  · rw [if_neg ha] at h; exact absurd h ha
section
attribute [local irreducible] APure
set_option maxHeartbeats 4000000 in
theorem ToneChanges_parts {m : Int} (a b : Sg) (k : Int) (c d : G) (A T U : Sg) (eA eT eU one two three : Int)
    (cA : APure (C m) 26 [.agg (sc a), .agg (sc b)] (.tup [.agg (sc A), I eA]))
    (cT : APure (C m) 27 [.agg (sc a), I k] (.tup [.agg (sc T), I eT]))
    (cU : APure (C m) 28 [.agg (sc a), .agg (gc c), .agg (gc d)] (.tup [.agg (sc U), I eU]))
    (ca : APure (C m) 18 [.agg (sc a)] (I (checkE a))) (cb : APure (C m) 18 [.agg (sc b)] (I (checkE b)))
    (ck : APure (C m) 30 [I k] (I (within k 0 3))) (cf : APure (C m) 31 [.agg (gc c), .agg (gc d)] (I (firstOf [partE c.re c.im 1000, zeroE c, partE d.re d.im 1000])))
    (c1 : APure (C m) 29 [.seq 1 [[I (checkE a)], [I (checkE b)]]] (I one))
    (c2 : APure (C m) 29 [.seq 1 [[I (checkE a)], [I (within k 0 3)]]] (I two))
    (c3 : APure (C m) 29 [.seq 1 [[I (checkE a)], [I (firstOf [partE c.re c.im 1000, zeroE c, partE d.re d.im 1000])]]] (I three))
    (kA : one = 0 → APure (C m) 32 [.agg (sc a), .agg (sc b)] (.agg (sc (a.add b)))) (kT : two = 0 → APure (C m) 34 [.agg (sc a), I k] (.agg (sc (a.turn k.toNat))))
    (kU : three = 0 → APure (C m) 35 [.agg (sc a), .agg (gc c), .agg (gc d)] (.agg (sc (a.by c d))))
    (cm : ∀ s : Sg, APure (C m) 33 [.agg (sc s)] (I (madeE s)))
    (hA0 : one ≠ 0 → A = S0 ∧ eA = one) (hA1 : one = 0 → madeE (a.add b) ≠ 0 → A = S0 ∧ eA = madeE (a.add b)) (hA2 : one = 0 → madeE (a.add b) = 0 → A = a.add b ∧ eA = madeE (a.add b))
    (hT0 : two ≠ 0 → T = S0 ∧ eT = two) (hT1 : two = 0 → T = a.turn k.toNat ∧ eT = two)
    (hU0 : three ≠ 0 → U = S0 ∧ eU = three) (hU1 : three = 0 → madeE (a.by c d) ≠ 0 → U = S0 ∧ eU = madeE (a.by c d)) (hU2 : three = 0 → madeE (a.by c d) = 0 → U = a.by c d ∧ eU = madeE (a.by c d)) :
    APure (C m) 4 [.agg (sc a), .agg (sc b), .agg [I k, I c.re, I c.im, I d.re, I d.im]] (Bo true) := by
  refine APure.of_body good [] (fn := Tryz.f4) (by kernel_rfl) (by kernel_rfl) rfl rfl (by kernel_rfl) rfl (by kernel_rfl) ?_
  conv => whnf
  repeat' (first
    | (refine codeK_sound good (mu := []) ?_; conv => whnf)
    | ((first | rw [wl0] | rw [wl1] | rw [wl2] | rw [wl3] | rw [wl4] | rw [wl5]); conv => whnf)
    | (refine SBool.mk (fun _ => ?_) (fun h => absurd (of_decide_eq_true rfl) h); conv => whnf)
    | (refine SBool.mk (fun h => absurd h (of_decide_eq_false rfl)) (fun _ => ?_); conv => whnf)
    | (refine SBool.mk (fun h => ?_) (fun h => ?_) <;> conv => whnf)
    | (refine SEx.mk _ (by first | exact awake_pure | exact cA | exact cT | exact cU | exact ca | exact cb | exact ck | exact cf | exact c1 | exact c2 | exact c3 | exact kA (by assumption) | exact kT (by assumption) | exact kU (by assumption) | exact cm _ | exact eq_rsig (hA2 (by assumption) (by assumption)).1 | exact eq_rsig0 (hA0 (by assumption)).1 | exact eq_rsig0 (hA1 (by assumption) (by assumption)).1 | exact eq_rsig (hT1 (by assumption)).1 | exact eq_rsig0 (hT0 (by assumption)).1 | exact eq_rsig (hU2 (by assumption) (by assumption)).1 | exact eq_rsig0 (hU0 (by assumption)).1 | exact eq_rsig0 (hU1 (by assumption) (by assumption)).1) ?_; conv => whnf)
    | (refine SEx.mk _ (by first | exact rfl | exact ⟨of_decide_eq_true rfl, rfl⟩) ?_; conv => whnf)
    | (refine SAll.mk (fun _ => ?_); conv => whnf)
    | (refine SAnd.mk ⟨by intro c hc; simp at hc; first | (subst hc; rfl) | ((repeat' (rcases hc with rfl | hc)) <;> first | rfl | (subst hc; rfl)), by (simp; first | done | omega), by (simp; first | done | omega)⟩ ?_; conv => whnf)
    | (refine SAnd.mk (by first | exact rfl | kernel_rfl | omega | decide | exact awake_pure | exact cA | exact cT | exact cU | exact ca | exact cb | exact ck | exact cf | exact c1 | exact c2 | exact c3 | exact kA (by assumption) | exact kT (by assumption) | exact kU (by assumption) | exact cm _ | exact eq_rsig (hA2 (by assumption) (by assumption)).1 | exact eq_rsig0 (hA0 (by assumption)).1 | exact eq_rsig0 (hA1 (by assumption) (by assumption)).1 | exact eq_rsig (hT1 (by assumption)).1 | exact eq_rsig0 (hT0 (by assumption)).1 | exact eq_rsig (hU2 (by assumption) (by assumption)).1 | exact eq_rsig0 (hU0 (by assumption)).1 | exact eq_rsig0 (hU1 (by assumption) (by assumption)).1) ?_; conv => whnf)
    | fail)
  all_goals first
    | exact ⟨PLe.refl _⟩
    | exact absurd (hA0 (by assumption)).2 (by assumption)
    | exact absurd (hA1 (by assumption) (by assumption)).2 (by assumption)
    | exact absurd (hA2 (by assumption) (by assumption)).2 (by assumption)
    | exact absurd (hT0 (by assumption)).2 (by assumption)
    | exact absurd (hT1 (by assumption)).2 (by assumption)
    | exact absurd (hU0 (by assumption)).2 (by assumption)
    | exact absurd (hU1 (by assumption) (by assumption)).2 (by assumption)
    | exact absurd (hU2 (by assumption) (by assumption)).2 (by assumption)
end
theorem factE_eq (s : Sg) (c d : G) : firstOf [checkE s, firstOf [partE c.re c.im 1000, zeroE c, partE d.re d.im 1000]] = factE s c d := by
  unfold factE
  simp only [firstOf]
  by_cases h1 : checkE s = 0 <;> by_cases h2 : partE c.re c.im 1000 = 0 <;> by_cases h3 : zeroE c = 0 <;> by_cases h4 : partE d.re d.im 1000 = 0 <;> simp [h1, h2, h3, h4]
theorem ToneChanges_pure {m : Int} (a b : Sg) (k : Int) (c d : G) : APure (C m) 4 [.agg (sc a), .agg (sc b), .agg [I k, I c.re, I c.im, I d.re, I d.im]] (Bo true) := by
  refine ToneChanges_parts a b k c d (addedS a b) (turnedS a k) (scaledS a c d) (addedE a b) (turnE a k) (scaledE a c d) (firstOf [checkE a, checkE b]) (turnE a k) (factE a c d)
    (up (Added_pure a b)) (up (Turned_pure a k)) (up (Scaled_pure a c d)) (up (refCheckSignal_pure' a)) (up (refCheckSignal_pure' b)) (up (refTurnE_pure k)) (up (refFactors_pure c d))
    (up (refFirst2_pure _ _)) (up (refFirst2_pure _ _)) (factE_eq a c d ▸ up (refFirst2_pure _ _)) ?_ ?_ ?_ (fun s => up (refCheckSum_pure s)) ?_ ?_ ?_ ?_ ?_ ?_ ?_ ?_
  · intro h
    obtain ⟨h1, h2⟩ := first2_zero h
    exact up (refAdded_pure a b ((checkE_zero.1 h1).fit.mono (by decide)) ((checkE_zero.1 h2).fit.mono (by decide)))
  · intro h
    obtain ⟨h1, h2⟩ := first2_zero h
    exact up (refTurned_pure a k ((checkE_zero.1 h1).fit.mono (by decide)) (within_zero.1 h2))
  · intro h
    unfold factE at h
    rw [firstOf_zero, firstOf_zero, firstOf_zero, firstOf_zero] at h
    have hc := (partE_zero (by decide) (by decide)).1 h.2.1
    have hd := (partE_zero (by decide) (by decide)).1 h.2.2.2.1
    exact up (refScaled_pure a c d ((checkE_zero.1 h.1).fit.mono (by decide)) ⟨Nat.le_trans hc.1 (by decide), Nat.le_trans hc.2 (by decide)⟩ ⟨Nat.le_trans hd.1 (by decide), Nat.le_trans hd.2 (by decide)⟩)
  · intro h; unfold addedS addedE; rw [if_neg h, if_neg h]; exact ⟨rfl, rfl⟩
  · intro h h'; unfold addedS addedE madeS; rw [if_pos h, if_pos h, if_neg h']; exact ⟨rfl, rfl⟩
  · intro h h'; unfold addedS addedE madeS; rw [if_pos h, if_pos h, if_pos h']; exact ⟨rfl, rfl⟩
  · intro h; unfold turnedS; rw [if_neg h]; exact ⟨rfl, rfl⟩
  · intro h; unfold turnedS; rw [if_pos h]; exact ⟨rfl, rfl⟩
  · intro h; unfold scaledS scaledE; rw [if_neg h, if_neg h]; exact ⟨rfl, rfl⟩
  · intro h h'; unfold scaledS scaledE madeS; rw [if_pos h, if_pos h, if_neg h']; exact ⟨rfl, rfl⟩
  · intro h h'; unfold scaledS scaledE madeS; rw [if_pos h, if_pos h, if_pos h']; exact ⟨rfl, rfl⟩
end Go.Proofs.Ab.Tone2
end
section
/- The law of the captures. -/
set_option maxRecDepth 100000
set_option linter.unusedVariables false
set_option linter.unusedSimpArgs false
namespace Go.Proofs.Ab.Tone2
open Go Go.RowKit Go.Proofs.Ab Go.Proofs.Ab.Tone

theorem eq_ratio_of {x y : R} (h : x = y) : EqAgg Tone.C 28 (rc x) (rc y) true := by
  subst h
  exact eq_ratio_self _ _
section
attribute [local irreducible] APure
set_option maxHeartbeats 4000000 in
theorem ToneCaptures_pure {m : Int} (a b : Sg) (band : Int) : APure (C m) 6 [.agg (sc a), .agg (sc b), I band] (Bo true) := by
  have c47 := up (m := m) (Captured_pure a b band)
  have c48 := up (m := m) (Mixed_pure a b band)
  have c49 := up (m := m) (refTwo_pure a b band)
  by_cases h0 : twoE a b band = 0
  · have hz := twoE_zero.1 h0
    have c50 := up (m := m) (refCaptured_pure a b band hz.1 hz.2.1 ⟨by have := hz.2.2.1; omega, hz.2.2.2⟩)
    have c51 := up (m := m) (refMixed_pure a b band hz.1 hz.2.1 ⟨by have := hz.2.2.1; omega, hz.2.2.2⟩)
    rw [if_pos h0, h0] at c47
    rw [if_pos h0, h0] at c48
    rw [h0] at c49
    refine APure.of_body good [] (fn := Tryz.f6) (by kernel_rfl) (by kernel_rfl) rfl rfl (by kernel_rfl) rfl (by kernel_rfl) ?_
    conv => whnf
    repeat' (first
      | (refine codeK_sound good (mu := []) ?_; conv => whnf)
      | ((first | rw [wl0] | rw [wl1] | rw [wl2] | rw [wl3] | rw [wl4] | rw [wl5]); conv => whnf)
      | (refine SBool.mk (fun _ => ?_) (fun h => absurd (of_decide_eq_true rfl) h); conv => whnf)
      | (refine SBool.mk (fun h => absurd h (of_decide_eq_false rfl)) (fun _ => ?_); conv => whnf)
      | (refine SBool.mk (fun h => ?_) (fun h => ?_) <;> conv => whnf)
      | (refine SEx.mk _ (by first | exact awake_pure | exact c47 | exact c48 | exact c49 | exact c50 | exact c51 | exact eq_ratio_self _ _) ?_; conv => whnf)
      | (refine SEx.mk _ (by first | exact rfl | exact ⟨of_decide_eq_true rfl, rfl⟩) ?_; conv => whnf)
      | (refine SAll.mk (fun _ => ?_); conv => whnf)
      | (refine SAnd.mk ⟨by intro c hc; simp at hc; first | (subst hc; rfl) | ((repeat' (rcases hc with rfl | hc)) <;> first | rfl | (subst hc; rfl)), by (simp; first | done | omega), by (simp; first | done | omega)⟩ ?_; conv => whnf)
      | (refine SAnd.mk (by first | exact rfl | kernel_rfl | omega | decide | exact awake_pure | exact c47 | exact c48 | exact c49 | exact c50 | exact c51 | exact eq_ratio_self _ _) ?_; conv => whnf)
      | fail)
    all_goals first | exact ⟨PLe.refl _⟩ | exact absurd rfl (by assumption)
  · rw [if_neg h0] at c47
    rw [if_neg h0] at c48
    refine APure.of_body good [] (fn := Tryz.f6) (by kernel_rfl) (by kernel_rfl) rfl rfl (by kernel_rfl) rfl (by kernel_rfl) ?_
    conv => whnf
    repeat' (first
      | (refine codeK_sound good (mu := []) ?_; conv => whnf)
      | ((first | rw [wl0] | rw [wl1] | rw [wl2] | rw [wl3] | rw [wl4] | rw [wl5]); conv => whnf)
      | (refine SBool.mk (fun _ => ?_) (fun h => absurd (of_decide_eq_true rfl) h); conv => whnf)
      | (refine SBool.mk (fun h => absurd h (of_decide_eq_false rfl)) (fun _ => ?_); conv => whnf)
      | (refine SBool.mk (fun h => ?_) (fun h => ?_) <;> conv => whnf)
      | (refine SEx.mk _ (by first | exact awake_pure | exact c47 | exact c48 | exact c49 | exact eq_ratio_self _ _) ?_; conv => whnf)
      | (refine SEx.mk _ (by first | exact rfl | exact ⟨of_decide_eq_true rfl, rfl⟩) ?_; conv => whnf)
      | (refine SAll.mk (fun _ => ?_); conv => whnf)
      | (refine SAnd.mk ⟨by intro c hc; simp at hc; first | (subst hc; rfl) | ((repeat' (rcases hc with rfl | hc)) <;> first | rfl | (subst hc; rfl)), by (simp; first | done | omega), by (simp; first | done | omega)⟩ ?_; conv => whnf)
      | (refine SAnd.mk (by first | exact rfl | kernel_rfl | omega | decide | exact awake_pure | exact c47 | exact c48 | exact c49 | exact eq_ratio_self _ _) ?_; conv => whnf)
      | fail)
    all_goals first | exact ⟨PLe.refl _⟩ | exact absurd (by assumption) h0 | exact absurd rfl (by assumption)
end
end Go.Proofs.Ab.Tone2
end
section
/- The law of the intervals. -/
set_option maxRecDepth 100000
set_option linter.unusedVariables false
set_option linter.unusedSimpArgs false
namespace Go.Proofs.Ab.Tone2
open Go Go.RowKit Go.Proofs.Ab Go.Proofs.Ab.Tone

theorem eq_iv {x y : Iv} (h : x = y) : EqAgg Tone.C 55 (ic x) (ic y) true := by
  subst h
  have h := eq_interval x.lo x.hi x.lo x.hi
  rw [decide_eq_true (by simp)] at h
  exact h
theorem eq_iv0 {x : Iv} (h : x = ⟨0, 0⟩) : EqAgg Tone.C 55 (ic x) [I 0, I 0] true := eq_iv h
section
attribute [local irreducible] APure
set_option maxHeartbeats 4000000 in
theorem ToneIntervals_parts {m : Int} (r : Rx) (s : Sg) (lo hi n : Int) (L N : Iv) (eL eN bad cl : Int)
    (cL : APure (C m) 52 [.agg (xc r), .agg (sc s), .agg [I lo, I hi]] (.tup [.agg (ic L), I eL]))
    (cN : APure (C m) 53 [.agg (xc r), .agg (sc s), I n] (.tup [.agg (ic N), I eN]))
    (cr : APure (C m) 37 [.agg (xc r)] (I (rxE r))) (cs : APure (C m) 18 [.agg (sc s)] (I (checkE s)))
    (c1 : APure (C m) 29 [.seq 1 [[I (rxE r)], [I (checkE s)]]] (I bad))
    (cl' : APure (C m) 54 [.agg [I lo, I hi]] (I cl)) (cn : APure (C m) 55 [I n, I 0, I 1000] (I (within n 0 1000)))
    (c2 : APure (C m) 29 [.seq 1 [[I bad], [I cl]]] (I eL)) (c3 : APure (C m) 29 [.seq 1 [[I bad], [I (within n 0 1000)]]] (I eN))
    (kL : eL = 0 → APure (C m) 56 [.agg (xc r), .agg (sc s), .agg [I lo, I hi]] (.agg (ic L)))
    (kN : eN = 0 → APure (C m) 57 [.agg (xc r), .agg (sc s), I n] (.agg (ic N)))
    (hL : eL ≠ 0 → L = ⟨0, 0⟩) (hN : eN ≠ 0 → N = ⟨0, 0⟩) :
    APure (C m) 7 [.agg (xc r), .agg (sc s), .agg [I lo, I hi, I n]] (Bo true) := by
  refine APure.of_body good [] (fn := Tryz.f7) (by kernel_rfl) (by kernel_rfl) rfl rfl (by kernel_rfl) rfl (by kernel_rfl) ?_
  conv => whnf
  repeat' (first
    | (refine codeK_sound good (mu := []) ?_; conv => whnf)
    | ((first | rw [wl0] | rw [wl1] | rw [wl2] | rw [wl3] | rw [wl4] | rw [wl5]); conv => whnf)
    | (refine SBool.mk (fun _ => ?_) (fun h => absurd (of_decide_eq_true rfl) h); conv => whnf)
    | (refine SBool.mk (fun h => absurd h (of_decide_eq_false rfl)) (fun _ => ?_); conv => whnf)
    | (refine SBool.mk (fun h => ?_) (fun h => ?_) <;> conv => whnf)
    | (refine SEx.mk _ (by first | exact awake_pure | exact cL | exact cN | exact cr | exact cs | exact c1 | exact cl' | exact cn | exact c2 | exact c3 | exact kL (by assumption) | exact kN (by assumption) | exact eq_iv0 (hL (by assumption)) | exact eq_iv0 (hN (by assumption)) | exact eq_iv rfl) ?_; conv => whnf)
    | (refine SEx.mk _ (by first | exact rfl | exact ⟨of_decide_eq_true rfl, rfl⟩) ?_; conv => whnf)
    | (refine SAll.mk (fun _ => ?_); conv => whnf)
    | (refine SAnd.mk ⟨by intro c hc; simp at hc; first | (subst hc; rfl) | ((repeat' (rcases hc with rfl | hc)) <;> first | rfl | (subst hc; rfl)), by (simp; first | done | omega), by (simp; first | done | omega)⟩ ?_; conv => whnf)
    | (refine SAnd.mk (by first | exact rfl | kernel_rfl | omega | decide | exact awake_pure | exact cL | exact cN | exact cr | exact cs | exact c1 | exact cl' | exact cn | exact c2 | exact c3 | exact kL (by assumption) | exact kN (by assumption) | exact eq_iv0 (hL (by assumption)) | exact eq_iv0 (hN (by assumption)) | exact eq_iv rfl) ?_; conv => whnf)
    | fail)
  all_goals first | exact ⟨PLe.refl _⟩ | exact absurd rfl (by assumption)
end
theorem lostE_eq (r : Rx) (s : Sg) (lo hi : Int) : firstOf [firstOf [rxE r, checkE s], firstOf [within lo 0 1000, within hi 0 1000, ordE lo hi]] = lostE r s lo hi := by
  unfold lostE
  generalize rxE r = a
  generalize checkE s = b
  generalize within lo 0 1000 = c
  generalize within hi 0 1000 = d
  generalize ordE lo hi = e
  simp only [firstOf]
  by_cases h1 : a = 0 <;> by_cases h2 : b = 0 <;> by_cases h3 : c = 0 <;> by_cases h4 : d = 0 <;> by_cases h5 : e = 0 <;> simp [h1, h2, h3, h4, h5]
theorem noisyE_eq (r : Rx) (s : Sg) (n : Int) : firstOf [firstOf [rxE r, checkE s], within n 0 1000] = noisyE r s n := by
  unfold noisyE
  generalize rxE r = a
  generalize checkE s = b
  generalize within n 0 1000 = c
  simp only [firstOf]
  by_cases h1 : a = 0 <;> by_cases h2 : b = 0 <;> by_cases h3 : c = 0 <;> simp [h1, h2, h3]
theorem shownI_mono {r : Rx} (hr : RxOk r) {x y d : Int} (hd : 0 < d) (h : x ≤ y) : shownI r x d ≤ shownI r y d := by
  have h1 := hr.s
  have e : (2 * x * r.scale + d) / (2 * d) ≤ (2 * y * r.scale + d) / (2 * d) := by
    refine Int.ediv_le_ediv (by omega) ?_
    have := Int.mul_le_mul_of_nonneg_right (c := r.scale) (show 2 * x ≤ 2 * y by omega) (by omega)
    omega
  unfold shownI
  omega
theorem ToneIntervals_pure {m : Int} (r : Rx) (s : Sg) (lo hi n : Int) : APure (C m) 7 [.agg (xc r), .agg (sc s), .agg [I lo, I hi, I n]] (Bo true) := by
  refine ToneIntervals_parts r s lo hi n (lostV r s lo hi) (noisyV r s n) (lostE r s lo hi) (noisyE r s n) (firstOf [rxE r, checkE s]) (firstOf [within lo 0 1000, within hi 0 1000, ordE lo hi])
    (up (Lost_pure r s lo hi)) (up (Noisy_pure r s n)) (up (refReceiver_pure' r)) (up (refCheckSignal_pure' s)) (up (refFirst2_pure _ _)) (up (refLoss_pure lo hi)) (up (refRange_pure n 0 1000))
    (lostE_eq r s lo hi ▸ up (refFirst2_pure _ _)) (noisyE_eq r s n ▸ up (refFirst2_pure _ _)) ?_ ?_ ?_ ?_
  · intro h
    have hz := lostE_zero.1 h
    unfold lostV
    rw [if_pos h]
    exact up (refLost_pure r s lo hi hz.1 hz.2.1 hz.2.2.1 hz.2.2.2.1)
  · intro h
    have hz := noisyE_zero.1 h
    have hb : 0 ≤ byI s n := by
      unfold byI absI
      have e1 : 0 ≤ max s.c.re (0 - s.c.re) + max s.c.im (0 - s.c.im) := by omega
      exact Int.mul_nonneg (by omega) e1
    have hm := shownI_mono hz.1 (x := dif s - byI s n) (y := dif s + byI s n) hz.2.1.sq_pos (by omega)
    unfold noisyV
    rw [if_pos h, Int.min_eq_left hm, Int.max_eq_right hm]
    exact up (refNoisy_pure r s n hz.1 hz.2.1 hz.2.2)
  · intro h; unfold lostV; rw [if_neg h]
  · intro h; unfold noisyV; rw [if_neg h]
end Go.Proofs.Ab.Tone2
end
section
/- The law of the receivers. -/
set_option maxRecDepth 100000
set_option linter.unusedVariables false
set_option linter.unusedSimpArgs false
namespace Go.Proofs.Ab.Tone2
open Go Go.RowKit Go.Proofs.Ab Go.Proofs.Ab.Tone
theorem sameInts_nil {m : Int} : APure (C m) 46 [nilS, nilS] (Bo true) :=
  (sameInts_pure (m := m) [] [] (by decide)).weaken (PLeL.cons (Ab.PLe.nil 1) (PLeL.cons (Ab.PLe.nil 1) PLeL.nil)) (PLe.of_eq (by simp))
theorem sameInts_self {m : Int} (l : List Int) (hl : l.length ≤ 1000000) : APure (C m) 46 [.seq 1 (cells1 l), .seq 1 (cells1 l)] (Bo true) :=
  (sameInts_pure (m := m) l l hl).weaken (PLeL.refl _) (PLe.of_eq (by simp))
theorem Followed_bad {m : Int} (r : Rx) (hr : rxE r ≠ 0) (lag start : Int) (xs : List Sg) (hl : xs.length ≤ 1000000) :
    APure (C m) 41 [.agg (xc r), I lag, I start, .seq 6 (xs.map sc)] (.tup [nilS, I (rxE r)]) := by
  have e : ∀ a b c : Int, firstOf [rxE r, a, b, c] = rxE r := fun a b c => by
    show (if rxE r = 0 then _ else rxE r) = rxE r
    rw [if_neg hr]
  have c4 : ∀ a b c : Int, APure (C m) 98 [.seq 1 [[I (rxE r)], [I a], [I b], [I c]]] (I (rxE r)) := fun a b c => by
    have h := up (m := m) (first4_pure (rxE r) a b c)
    rwa [e] at h
  refine APure.of_body good [32, 33] (fn := Tryz.f41) (by kernel_rfl) (by kernel_rfl) rfl rfl (by kernel_rfl) rfl (by kernel_rfl) ?_
  conv => whnf
  repeat' (first
    | (refine codeK_sound good (mu := [32, 33]) ?_; conv => whnf)
    | ((first | rw [wl0] | rw [wl1] | rw [wl2] | rw [wl3] | rw [wl4] | rw [wl5]); conv => whnf)
    | (refine SBool.mk (fun _ => ?_) (fun h => absurd (of_decide_eq_true rfl) h); conv => whnf)
    | (refine SBool.mk (fun h => absurd h (of_decide_eq_false rfl)) (fun _ => ?_); conv => whnf)
    | (refine SBool.mk (fun h => ?_) (fun h => ?_) <;> conv => whnf)
    | (refine SEx.mk _ (by first | exact up (CheckReceiver_pure r) | exact up (within_pure _ _ _) | exact up (checkSignals_pure xs hl) | exact c4 _ _ _) ?_; conv => whnf)
    | (refine SEx.mk _ (by first | exact rfl | exact ⟨of_decide_eq_true rfl, rfl⟩) ?_; conv => whnf)
    | (refine SAll.mk (fun _ => ?_); conv => whnf)
    | (refine SAnd.mk ⟨by intro c hc; simp at hc; first | (subst hc; rfl) | ((repeat' (rcases hc with rfl | hc)) <;> first | rfl | (subst hc; rfl)), by (simp; first | done | omega), by (simp; first | done | omega)⟩ ?_; conv => whnf)
    | (refine SAnd.mk (by first | exact rfl | kernel_rfl | omega | decide | exact up (CheckReceiver_pure r) | exact up (within_pure _ _ _) | exact up (checkSignals_pure xs hl) | exact c4 _ _ _) ?_; conv => whnf)
    | fail)
  · exact absurd (by assumption) hr
  · exact ⟨PLe.refl _⟩
theorem refLag_bad {m : Int} (r : Rx) (hr : rxE r ≠ 0) (lag start : Int) : APure (C m) 43 [.agg (xc r), I lag, I start] (I (rxE r)) := by
  have c2 : ∀ a : Int, APure (C m) 29 [.seq 1 [[I (rxE r)], [I a]]] (I (rxE r)) := fun a => by
    have h := up (m := m) (refFirst2_pure (rxE r) a)
    have e : firstOf [rxE r, a] = rxE r := by
      show (if rxE r = 0 then _ else rxE r) = rxE r
      rw [if_neg hr]
    rwa [e] at h
  refine APure.of_body good [] (fn := Tryz.f43) (by kernel_rfl) (by kernel_rfl) rfl rfl (by kernel_rfl) rfl (by kernel_rfl) ?_
  conv => whnf
  repeat' (first
    | (refine codeK_sound good (mu := []) ?_; conv => whnf)
    | ((first | rw [wl0] | rw [wl1] | rw [wl2] | rw [wl3] | rw [wl4] | rw [wl5]); conv => whnf)
    | (refine SBool.mk (fun _ => ?_) (fun h => absurd (of_decide_eq_true rfl) h); conv => whnf)
    | (refine SBool.mk (fun h => absurd h (of_decide_eq_false rfl)) (fun _ => ?_); conv => whnf)
    | (refine SBool.mk (fun h => ?_) (fun h => ?_) <;> conv => whnf)
    | (refine SEx.mk _ (by first | exact up (refReceiver_pure' r) | exact up (refRange_pure _ _ _) | exact c2 _) ?_; conv => whnf)
    | (refine SEx.mk _ (by first | exact rfl | exact ⟨of_decide_eq_true rfl, rfl⟩) ?_; conv => whnf)
    | (refine SAll.mk (fun _ => ?_); conv => whnf)
    | (refine SAnd.mk ⟨by intro c hc; simp at hc; first | (subst hc; rfl) | ((repeat' (rcases hc with rfl | hc)) <;> first | rfl | (subst hc; rfl)), by (simp; first | done | omega), by (simp; first | done | omega)⟩ ?_; conv => whnf)
    | (refine SAnd.mk (by first | exact rfl | kernel_rfl | omega | decide | exact up (refReceiver_pure' r) | exact up (refRange_pure _ _ _) | exact c2 _) ?_; conv => whnf)
    | fail)
  all_goals first | exact ⟨PLe.refl _⟩ | exact absurd (by assumption) hr
section
attribute [local irreducible] APure
set_option maxHeartbeats 4000000 in
theorem ToneReceivers_none {m : Int} (r : Rx) (lag start : Int) (F : PV) (lg two : Int) (cs : APure (C m) 36 [.seq 6 (([] : List Sg).map sc)] (Bo true))
    (c37 : APure (C m) 37 [.agg (xc r)] (I (rxE r))) (c38 : APure (C m) 38 [.agg (xc r)] (I (rxE r)))
    (c42 : APure (C m) 42 [.seq 6 (([] : List Sg).map sc)] (.seq 6 (([] : List Sg).map sc)))
    (c41 : APure (C m) 41 [.agg (xc r), I lag, I start, .seq 6 (([] : List Sg).map sc)] (.tup [F, I two])) (c43 : APure (C m) 43 [.agg (xc r), I lag, I start] (I lg)) (c44 : APure (C m) 44 [.seq 6 (([] : List Sg).map sc)] (I (checkL [])))
    (c29 : APure (C m) 29 [.seq 1 [[I lg], [I (checkL [])]]] (I two)) (k45 : two = 0 → APure (C m) 45 [.agg (xc r), I lag, I start, .seq 6 (([] : List Sg).map sc)] F) (hF : two ≠ 0 → F = nilS) (c46 : APure (C m) 46 [F, F] (Bo true)) :
    APure (C m) 5 [.agg (xc r), .agg [I lag, I start], .seq 6 (([] : List Sg).map sc)] (Bo true) := by
  have c46' : two ≠ 0 → APure (C m) 46 [F, nilS] (Bo true) := fun h => by
    have := c46
    rwa [hF h] at this ⊢
  refine APure.of_body good [] (fn := Tryz.f5) (by kernel_rfl) (by kernel_rfl) rfl rfl (by kernel_rfl) rfl (by kernel_rfl) ?_
  conv => whnf
  repeat' (first
    | (refine codeK_sound good (mu := []) ?_; conv => whnf)
    | ((first | rw [wl0] | rw [wl1] | rw [wl2] | rw [wl3] | rw [wl4] | rw [wl5]); conv => whnf)
    | (refine SBool.mk (fun _ => ?_) (fun h => absurd (of_decide_eq_true rfl) h); conv => whnf)
    | (refine SBool.mk (fun h => absurd h (of_decide_eq_false rfl)) (fun _ => ?_); conv => whnf)
    | (refine SBool.mk (fun h => ?_) (fun h => ?_) <;> conv => whnf)
    | (refine SEx.mk _ (by first | exact awake_pure | exact cs | exact c37 | exact c38 | exact c41 | exact c42 | exact c43 | exact c44 | exact c29 | exact k45 (by assumption) | exact c46 | exact c46' (by assumption)) ?_; conv => whnf)
    | (refine SEx.mk _ (by first | exact rfl | exact ⟨of_decide_eq_true rfl, rfl⟩) ?_; conv => whnf)
    | (refine SAll.mk (fun _ => ?_); conv => whnf)
    | (refine SAnd.mk ⟨by intro c hc; simp at hc; first | (subst hc; rfl) | ((repeat' (rcases hc with rfl | hc)) <;> first | rfl | (subst hc; rfl)), by (simp; first | done | omega), by (simp; first | done | omega)⟩ ?_; conv => whnf)
    | (refine SAnd.mk (by first | exact rfl | kernel_rfl | omega | decide | exact awake_pure | exact cs | exact c37 | exact c38 | exact c41 | exact c42 | exact c43 | exact c44 | exact c29 | exact k45 (by assumption) | exact c46 | exact c46' (by assumption)) ?_; conv => whnf)
    | fail)
  all_goals first | exact ⟨PLe.refl _⟩ | exact absurd rfl (by assumption) | (simp at *; done)
set_option maxHeartbeats 4000000 in
theorem ToneReceivers_some {m : Int} (r : Rx) (lag start : Int) (x : Sg) (l : List Sg) (F : PV) (lg two : Int) (N : Int) (W : ByteArray) (eT : Int) (cs : APure (C m) 36 [.seq 6 ((x :: l).map sc)] (Bo true))
    (c37 : APure (C m) 37 [.agg (xc r)] (I (rxE r))) (c38 : APure (C m) 38 [.agg (xc r)] (I (rxE r)))
    (c39 : APure (C m) 39 [.agg (xc r), .agg (sc x)] (.tup [I N, St W, I eT])) (c18 : APure (C m) 18 [.agg (sc x)] (I (checkE x))) (c29t : APure (C m) 29 [.seq 1 [[I (rxE r)], [I (checkE x)]]] (I eT))
    (k40 : eT = 0 → APure (C m) 40 [.agg (xc r), .agg (sc x)] (.tup [I N, St W])) (hT : eT ≠ 0 → N = 0 ∧ W = bNone)
    (c42 : APure (C m) 42 [.seq 6 ((x :: l).map sc)] (.seq 6 ((x :: l).map sc)))
    (c41 : APure (C m) 41 [.agg (xc r), I lag, I start, .seq 6 ((x :: l).map sc)] (.tup [F, I two])) (c43 : APure (C m) 43 [.agg (xc r), I lag, I start] (I lg)) (c44 : APure (C m) 44 [.seq 6 ((x :: l).map sc)] (I (checkL (x :: l))))
    (c29 : APure (C m) 29 [.seq 1 [[I lg], [I (checkL (x :: l))]]] (I two)) (k45 : two = 0 → APure (C m) 45 [.agg (xc r), I lag, I start, .seq 6 ((x :: l).map sc)] F) (hF : two ≠ 0 → F = nilS) (c46 : APure (C m) 46 [F, F] (Bo true)) :
    APure (C m) 5 [.agg (xc r), .agg [I lag, I start], .seq 6 ((x :: l).map sc)] (Bo true) := by
  have c46' : two ≠ 0 → APure (C m) 46 [F, nilS] (Bo true) := fun h => by
    have := c46
    rwa [hF h] at this ⊢
  have hin : 0 ≤ (0 : Int) ∧ ((x :: l).map sc)[(0 : Int).toNat]? = some (sc x) := ⟨by omega, rfl⟩
  have hn : ∀ t w, (binOp .neq t (.string W) (.string W)).run Tone.C.P w = .ok (.bool false) w := fun t w => by
    have := neq_string t W W w
    rwa [decide_eq_false (by simp)] at this
  have hn0 : eT ≠ 0 → ∀ t w, (binOp .neq t (.string W) (.string bNone)).run Tone.C.P w = .ok (.bool false) w := fun h t w => by
    have := neq_string t W bNone w
    rwa [decide_eq_false (by rw [(hT h).2]; simp)] at this
  refine APure.of_body good [] (fn := Tryz.f5) (by kernel_rfl) (by kernel_rfl) rfl rfl (by kernel_rfl) rfl (by kernel_rfl) ?_
  conv => whnf
  repeat' (first
    | (refine codeK_sound good (mu := []) ?_; conv => whnf)
    | ((first | rw [wl0] | rw [wl1] | rw [wl2] | rw [wl3] | rw [wl4] | rw [wl5]); conv => whnf)
    | (refine SBool.mk (fun _ => ?_) (fun h => absurd (of_decide_eq_true rfl) h); conv => whnf)
    | (refine SBool.mk (fun h => absurd h (of_decide_eq_false rfl)) (fun _ => ?_); conv => whnf)
    | (refine SBool.mk (fun h => ?_) (fun h => ?_) <;> conv => whnf)
    | (refine SEx.mk _ (by first | exact awake_pure | exact cs | exact c37 | exact c38 | exact c39 | exact c18 | exact c29t | exact k40 (by assumption) | exact c41 | exact c42 | exact c43 | exact c44 | exact c29 | exact k45 (by assumption) | exact c46 | exact c46' (by assumption) | exact hin | exact hn _ | exact hn0 (by assumption) _) ?_; conv => whnf)
    | (refine SEx.mk _ (by first | exact rfl | exact ⟨of_decide_eq_true rfl, rfl⟩) ?_; conv => whnf)
    | (refine SAll.mk (fun _ => ?_); conv => whnf)
    | (refine SAnd.mk (by first | exact hin) ?_; conv => whnf)
    | (refine SAnd.mk ⟨by intro c hc; simp at hc; first | (subst hc; rfl) | ((repeat' (rcases hc with rfl | hc)) <;> first | rfl | (subst hc; rfl)), by (simp; first | done | omega), by (simp; first | done | omega)⟩ ?_; conv => whnf)
    | (refine SAnd.mk (by first | exact rfl | kernel_rfl | omega | decide | exact awake_pure | exact cs | exact c37 | exact c38 | exact c39 | exact c18 | exact c29t | exact k40 (by assumption) | exact c41 | exact c42 | exact c43 | exact c44 | exact c29 | exact k45 (by assumption) | exact c46 | exact c46' (by assumption) | exact hin | exact hn _ | exact hn0 (by assumption) _) ?_; conv => whnf)
    | fail)
  all_goals first | exact ⟨PLe.refl _⟩ | exact absurd rfl (by assumption) | exact absurd (hT (by assumption)).1 (by assumption) | (simp at *; done)
end
theorem follow_eq (a b c d : Int) : firstOf [firstOf [a, b, c], d] = firstOf [a, b, c, d] := by
  simp only [firstOf]
  by_cases h1 : a = 0 <;> by_cases h2 : b = 0 <;> by_cases h3 : c = 0 <;> by_cases h4 : d = 0 <;> simp [h1, h2, h3, h4]
theorem first2_left {a b : Int} (h : a ≠ 0) : firstOf [a, b] = a := by
  show (if a = 0 then _ else a) = a
  rw [if_neg h]
theorem ToneReceivers_pure {m : Int} (r : Rx) (lag start : Int) (xs : List Sg) : APure (C m) 5 [.agg (xc r), .agg [I lag, I start], .seq 6 (xs.map sc)] (Bo true) := by
  have cs := up (m := m) (refShort_pure xs)
  by_cases hb : shortB xs.length = true
  · rw [hb] at cs
    have hl : xs.length ≤ 1000000 := by
      unfold shortB at hb
      rw [Bool.or_eq_true, decide_eq_true_eq, decide_eq_true_eq] at hb
      omega
    have key : ∃ (F : PV) (lg two : Int), APure (C m) 41 [.agg (xc r), I lag, I start, .seq 6 (xs.map sc)] (.tup [F, I two]) ∧ APure (C m) 43 [.agg (xc r), I lag, I start] (I lg) ∧ APure (C m) 29 [.seq 1 [[I lg], [I (checkL xs)]]] (I two) ∧
        (two = 0 → APure (C m) 45 [.agg (xc r), I lag, I start, .seq 6 (xs.map sc)] F) ∧ (two ≠ 0 → F = nilS) ∧ APure (C m) 46 [F, F] (Bo true) := by
      by_cases hr : rxE r = 0
      · have hk := rxE_zero.1 hr
        have hf := hk.f
        refine ⟨followV r lag start xs, lagE r lag start, followE r lag start xs, up (Followed_pure r (by omega) lag start xs hl), up (refLag_pure r (by omega) lag start), ?_, ?_, ?_, ?_⟩
        · have h := up (m := m) (refFirst2_pure (lagE r lag start) (checkL xs))
          unfold lagE at h ⊢
          rw [follow_eq] at h
          exact h
        · intro h0
          obtain ⟨h1, h2, h3, h4⟩ := followE_zero.1 h0
          unfold followV
          rw [if_pos h0]
          exact refFollowed_pure r hk lag start h2.1 (by omega) xs hl (checkL_zero.1 h4).2
        · intro h0
          unfold followV
          rw [if_neg h0]
        · unfold followV
          by_cases h0 : followE r lag start xs = 0
          · rw [if_pos h0]
            exact sameInts_self _ (by simp [followL]; omega)
          · rw [if_neg h0]
            exact sameInts_nil
      · exact ⟨nilS, rxE r, rxE r, Followed_bad r hr lag start xs hl, refLag_bad r hr lag start, (by
          have h := up (m := m) (refFirst2_pure (rxE r) (checkL xs))
          rwa [first2_left hr] at h), fun h => absurd h hr, fun _ => rfl, sameInts_nil⟩
    obtain ⟨F, lg, two, c41, c43, c29, k45, hF, c46⟩ := key
    have c37 := up (m := m) (refReceiver_pure' r)
    have c38 := up (m := m) (CheckReceiver_pure r)
    have c42 := signals_pure (m := m) xs hl
    have c44 := refSignals_pure (m := m) xs hl
    cases xs with
    | nil => exact ToneReceivers_none r lag start F lg two cs c37 c38 c42 c41 c43 c44 c29 k45 hF c46
    | cons x l =>
      refine ToneReceivers_some r lag start x l F lg two _ _ _ cs c37 c38 (up (Told_pure r x)) (up (refCheckSignal_pure' x)) (up (refFirst2_pure _ _)) ?_ ?_ c42 c41 c43 c44 c29 k45 hF c46
      · intro h
        have h' : toldE r x = 0 := h
        obtain ⟨h1, h2⟩ := toldE_zero.1 h'
        rw [if_pos h', if_pos h']
        exact up (refTold_pure r x h1 h2)
      · intro h
        have h' : ¬ toldE r x = 0 := h
        rw [if_neg h', if_neg h']
        exact ⟨rfl, rfl⟩
  · have hb' : shortB xs.length = false := by simpa using hb
    rw [hb'] at cs
    refine APure.of_body good [] (fn := Tryz.f5) (by kernel_rfl) (by kernel_rfl) rfl rfl (by kernel_rfl) rfl (by kernel_rfl) ?_
    conv => whnf
    repeat' (first
      | (refine codeK_sound good (mu := []) ?_; conv => whnf)
      | ((first | rw [wl0] | rw [wl1] | rw [wl2] | rw [wl3] | rw [wl4] | rw [wl5]); conv => whnf)
      | (refine SBool.mk (fun _ => ?_) (fun h => absurd (of_decide_eq_true rfl) h); conv => whnf)
      | (refine SBool.mk (fun h => absurd h (of_decide_eq_false rfl)) (fun _ => ?_); conv => whnf)
      | (refine SBool.mk (fun h => ?_) (fun h => ?_) <;> conv => whnf)
      | (refine SEx.mk _ (by first | exact awake_pure | exact cs) ?_; conv => whnf)
      | (refine SEx.mk _ (by first | exact rfl | exact ⟨of_decide_eq_true rfl, rfl⟩) ?_; conv => whnf)
      | (refine SAll.mk (fun _ => ?_); conv => whnf)
      | (refine SAnd.mk ⟨by intro c hc; simp at hc; first | (subst hc; rfl) | ((repeat' (rcases hc with rfl | hc)) <;> first | rfl | (subst hc; rfl)), by (simp; first | done | omega), by (simp; first | done | omega)⟩ ?_; conv => whnf)
      | (refine SAnd.mk (by first | exact rfl | kernel_rfl | omega | decide | exact awake_pure | exact cs) ?_; conv => whnf)
      | fail)
    all_goals exact ⟨PLe.refl _⟩
end Go.Proofs.Ab.Tone2
end
section
/- The law of what lies within: the walk. -/
set_option maxRecDepth 100000
set_option linter.unusedVariables false
set_option linter.unusedSimpArgs false
namespace Go.Proofs.Ab.Tone2
open Go Go.RowKit Go.Proofs.Ab Go.Proofs.Ab.Tone
abbrev u8 (n : Int) : PV := .v (.int .u8 n)
abbrev u16 (n : Int) : PV := .v (.int .u16 n)
abbrev i8 (n : Int) : PV := .v (.int .i8 n)
abbrev hearC (lagN startN band l0 l1 l2 nz o0 o1 o2 o3 : Int) : List PV := [u8 lagN, u16 startN, u16 band, u16 l0, u16 l1, u16 l2, u8 nz, i8 o0, i8 o1, i8 o2, i8 o3]
theorem off0 {m : Int} (a b c d e f g o0 o1 o2 o3 z : Int) (h : wrapK IntKind.i64 (wrapK IntKind.i64 o0 * z) = o0 * z) (h' : wrapK IntKind.i64 ((o0 * z).tdiv 128) = (o0 * z).tdiv 128) :
    APure (C m) 80 [I 0, .ref (hearC a b c d e f g o0 o1 o2 o3), .ref [I z]] (I ((o0 * z).tdiv 128)) := by
  refine APure.of_body good [] (fn := Tryz.f80) (by kernel_rfl) (by kernel_rfl) rfl rfl (by kernel_rfl) rfl (by kernel_rfl) ?_
  conv => whnf
  repeat' (first
    | (refine codeK_sound good (mu := []) ?_; conv => whnf)
    | ((first | rw [wl0] | rw [wl1] | rw [wl2] | rw [wl3] | rw [wl4] | rw [wl5]); conv => whnf)
    | (rw [h']; conv => whnf)
    | (rw [h]; conv => whnf)
    | (refine SBool.mk (fun _ => ?_) (fun h => absurd (of_decide_eq_true rfl) h); conv => whnf)
    | (refine SBool.mk (fun h => absurd h (of_decide_eq_false rfl)) (fun _ => ?_); conv => whnf)
    | (refine SBool.mk (fun h => ?_) (fun h => ?_) <;> conv => whnf)
    | (refine SEx.mk _ (by first | exact rfl | exact ⟨of_decide_eq_true rfl, rfl⟩) ?_; conv => whnf)
    | (refine SAll.mk (fun _ => ?_); conv => whnf)
    | (refine SAnd.mk ⟨by intro c hc; simp at hc; first | (subst hc; rfl) | ((repeat' (rcases hc with rfl | hc)) <;> first | rfl | (subst hc; rfl)), by (simp; first | done | omega), by (simp; first | done | omega)⟩ ?_; conv => whnf)
    | (refine SAnd.mk (by first | exact rfl | kernel_rfl | omega | decide) ?_; conv => whnf)
    | fail)
  exact ⟨PLe.refl _⟩
theorem off1 {m : Int} (a b c d e f g o0 o1 o2 o3 z : Int) (h : wrapK IntKind.i64 (wrapK IntKind.i64 o1 * z) = o1 * z) (h' : wrapK IntKind.i64 ((o1 * z).tdiv 128) = (o1 * z).tdiv 128) :
    APure (C m) 80 [I 1, .ref (hearC a b c d e f g o0 o1 o2 o3), .ref [I z]] (I ((o1 * z).tdiv 128)) := by
  refine APure.of_body good [] (fn := Tryz.f80) (by kernel_rfl) (by kernel_rfl) rfl rfl (by kernel_rfl) rfl (by kernel_rfl) ?_
  conv => whnf
  repeat' (first
    | (refine codeK_sound good (mu := []) ?_; conv => whnf)
    | ((first | rw [wl0] | rw [wl1] | rw [wl2] | rw [wl3] | rw [wl4] | rw [wl5]); conv => whnf)
    | (rw [h']; conv => whnf)
    | (rw [h]; conv => whnf)
    | (refine SBool.mk (fun _ => ?_) (fun h => absurd (of_decide_eq_true rfl) h); conv => whnf)
    | (refine SBool.mk (fun h => absurd h (of_decide_eq_false rfl)) (fun _ => ?_); conv => whnf)
    | (refine SBool.mk (fun h => ?_) (fun h => ?_) <;> conv => whnf)
    | (refine SEx.mk _ (by first | exact rfl | exact ⟨of_decide_eq_true rfl, rfl⟩) ?_; conv => whnf)
    | (refine SAll.mk (fun _ => ?_); conv => whnf)
    | (refine SAnd.mk ⟨by intro c hc; simp at hc; first | (subst hc; rfl) | ((repeat' (rcases hc with rfl | hc)) <;> first | rfl | (subst hc; rfl)), by (simp; first | done | omega), by (simp; first | done | omega)⟩ ?_; conv => whnf)
    | (refine SAnd.mk (by first | exact rfl | kernel_rfl | omega | decide) ?_; conv => whnf)
    | fail)
  exact ⟨PLe.refl _⟩
theorem off2 {m : Int} (a b c d e f g o0 o1 o2 o3 z : Int) (h : wrapK IntKind.i64 (wrapK IntKind.i64 o2 * z) = o2 * z) (h' : wrapK IntKind.i64 ((o2 * z).tdiv 128) = (o2 * z).tdiv 128) :
    APure (C m) 80 [I 2, .ref (hearC a b c d e f g o0 o1 o2 o3), .ref [I z]] (I ((o2 * z).tdiv 128)) := by
  refine APure.of_body good [] (fn := Tryz.f80) (by kernel_rfl) (by kernel_rfl) rfl rfl (by kernel_rfl) rfl (by kernel_rfl) ?_
  conv => whnf
  repeat' (first
    | (refine codeK_sound good (mu := []) ?_; conv => whnf)
    | ((first | rw [wl0] | rw [wl1] | rw [wl2] | rw [wl3] | rw [wl4] | rw [wl5]); conv => whnf)
    | (rw [h']; conv => whnf)
    | (rw [h]; conv => whnf)
    | (refine SBool.mk (fun _ => ?_) (fun h => absurd (of_decide_eq_true rfl) h); conv => whnf)
    | (refine SBool.mk (fun h => absurd h (of_decide_eq_false rfl)) (fun _ => ?_); conv => whnf)
    | (refine SBool.mk (fun h => ?_) (fun h => ?_) <;> conv => whnf)
    | (refine SEx.mk _ (by first | exact rfl | exact ⟨of_decide_eq_true rfl, rfl⟩) ?_; conv => whnf)
    | (refine SAll.mk (fun _ => ?_); conv => whnf)
    | (refine SAnd.mk ⟨by intro c hc; simp at hc; first | (subst hc; rfl) | ((repeat' (rcases hc with rfl | hc)) <;> first | rfl | (subst hc; rfl)), by (simp; first | done | omega), by (simp; first | done | omega)⟩ ?_; conv => whnf)
    | (refine SAnd.mk (by first | exact rfl | kernel_rfl | omega | decide) ?_; conv => whnf)
    | fail)
  exact ⟨PLe.refl _⟩
theorem off3 {m : Int} (a b c d e f g o0 o1 o2 o3 z : Int) (h : wrapK IntKind.i64 (wrapK IntKind.i64 o3 * z) = o3 * z) (h' : wrapK IntKind.i64 ((o3 * z).tdiv 128) = (o3 * z).tdiv 128) :
    APure (C m) 80 [I 3, .ref (hearC a b c d e f g o0 o1 o2 o3), .ref [I z]] (I ((o3 * z).tdiv 128)) := by
  refine APure.of_body good [] (fn := Tryz.f80) (by kernel_rfl) (by kernel_rfl) rfl rfl (by kernel_rfl) rfl (by kernel_rfl) ?_
  conv => whnf
  repeat' (first
    | (refine codeK_sound good (mu := []) ?_; conv => whnf)
    | ((first | rw [wl0] | rw [wl1] | rw [wl2] | rw [wl3] | rw [wl4] | rw [wl5]); conv => whnf)
    | (rw [h']; conv => whnf)
    | (rw [h]; conv => whnf)
    | (refine SBool.mk (fun _ => ?_) (fun h => absurd (of_decide_eq_true rfl) h); conv => whnf)
    | (refine SBool.mk (fun h => absurd h (of_decide_eq_false rfl)) (fun _ => ?_); conv => whnf)
    | (refine SBool.mk (fun h => ?_) (fun h => ?_) <;> conv => whnf)
    | (refine SEx.mk _ (by first | exact rfl | exact ⟨of_decide_eq_true rfl, rfl⟩) ?_; conv => whnf)
    | (refine SAll.mk (fun _ => ?_); conv => whnf)
    | (refine SAnd.mk ⟨by intro c hc; simp at hc; first | (subst hc; rfl) | ((repeat' (rcases hc with rfl | hc)) <;> first | rfl | (subst hc; rfl)), by (simp; first | done | omega), by (simp; first | done | omega)⟩ ?_; conv => whnf)
    | (refine SAnd.mk (by first | exact rfl | kernel_rfl | omega | decide) ?_; conv => whnf)
    | fail)
  exact ⟨PLe.refl _⟩
section
attribute [local irreducible] APure
set_option maxHeartbeats 40000000 in
theorem ToneWithin_parts {m : Int} (fb : Bool) (r : Rx) (s t : Sg) (lagN startN band l0 l1 l2 nz o0 o1 o2 o3 : Int) (lag start lo hi mi z z2 n f1 f2 f3 M p0 p1 p2 p3 : Int) (W W' : ByteArray) (A B D0 D E : Iv)
    (hlag : wrapK IntKind.i64 (1 + (wrapK IntKind.i64 lagN).tmod 16) = lag)
    (hy1 : wrapK IntKind.i64 (wrapK IntKind.i64 (2 * r.full) + 1) ≠ 0)
    (hstart : wrapK IntKind.i64 ((wrapK IntKind.i64 startN).tmod (wrapK IntKind.i64 (wrapK IntKind.i64 (2 * r.full) + 1)) - r.full) = start)
    (hlo : (wrapK IntKind.i64 l0).tmod 1001 = lo) (hy2 : wrapK IntKind.i64 (1001 - lo) ≠ 0)
    (hhi : wrapK IntKind.i64 (lo + (wrapK IntKind.i64 l1).tmod (wrapK IntKind.i64 (1001 - lo))) = hi) (hy3 : wrapK IntKind.i64 (wrapK IntKind.i64 (hi - lo) + 1) ≠ 0)
    (hmi : wrapK IntKind.i64 (lo + (wrapK IntKind.i64 l2).tmod (wrapK IntKind.i64 (wrapK IntKind.i64 (hi - lo) + 1))) = mi) (hz : wrapK IntKind.i64 nz = z) (hz2 : wrapK IntKind.i64 (2 * z) = z2)
    (c37 : APure (C m) 37 [.agg (xc r)] (I 0)) (c69 : APure (C m) 69 [.agg [I 1, I 0, I s.l.re, I s.l.im, I s.h.re, I s.h.im], I 8000] (Bo true)) (c18 : APure (C m) 18 [.agg (sc s)] (I 0))
    (c39 : APure (C m) 39 [.agg (xc r), .agg (sc s)] (.tup [I n, St W, I 0]))
    (hn1 : wrapK IntKind.i64 (0 - r.full) ≤ n) (hn2 : n ≤ r.full) (hfl : fb = true → n = 0)
    (hne : ∀ t w, (binOp .neq t (.string W) (.string ⟨#[]⟩)).run Tone.C.P w = .ok (.bool fb) w) (heq : ∀ t w, (binOp .eql t (.string W) (.string ⟨#[]⟩)).run Tone.C.P w = .ok (.bool (!fb)) w)
    (hot : ∀ t w, (binOp .neq t (.string W') (.string ⟨#[]⟩)).run Tone.C.P w = .ok (.bool (decide (W' ≠ ⟨#[]⟩))) w)
    (c41 : APure (C m) 41 [.agg (xc r), I lag, I start, .seq 6 [sc s, sc s, sc s]] (.tup [.seq 1 [[I f1], [I f2], [I f3]], I 0]))
    (hf1 : fb = true → f1 = start ∧ f2 = start ∧ f3 = start) (hf0 : fb = false → (min start n ≤ f1 ∧ f1 ≤ max start n) ∧ (min start n ≤ f2 ∧ f2 ≤ max start n) ∧ (min start n ≤ f3 ∧ f3 ≤ max start n))
    (cA : APure (C m) 52 [.agg (xc r), .agg (sc s), .agg [I lo, I hi]] (.tup [.agg (ic A), I 0])) (cB : APure (C m) 52 [.agg (xc r), .agg (sc s), .agg [I mi, I mi]] (.tup [.agg (ic B), I 0]))
    (cC : APure (C m) 52 [.agg (xc r), .agg (sc s), .agg [I 0, I 0]] (.tup [.agg (ic D0), I 0])) (cD : APure (C m) 53 [.agg (xc r), .agg (sc s), I z] (.tup [.agg (ic D), I 0])) (cE : APure (C m) 53 [.agg (xc r), .agg (sc s), I z2] (.tup [.agg (ic E), I 0]))
    (hA : A.lo ≤ A.hi) (hB : B.lo = B.hi) (hAB : A.lo ≤ B.lo) (hBA : B.hi ≤ A.hi) (hC : D0.lo = D0.hi) (hE1 : E.lo ≤ D.lo) (hD : D.lo ≤ D.hi) (hE2 : D.hi ≤ E.hi) (hq : fb = false → D0.lo = n ∧ D.lo ≤ n ∧ n ≤ D.hi)
    (k0 : APure (C m) 80 [I 0, .ref (hearC lagN startN band l0 l1 l2 nz o0 o1 o2 o3), .ref [I z]] (I p0)) (k1 : APure (C m) 80 [I 1, .ref (hearC lagN startN band l0 l1 l2 nz o0 o1 o2 o3), .ref [I z]] (I p1)) (k2 : APure (C m) 80 [I 2, .ref (hearC lagN startN band l0 l1 l2 nz o0 o1 o2 o3), .ref [I z]] (I p2)) (k3 : APure (C m) 80 [I 3, .ref (hearC lagN startN band l0 l1 l2 nz o0 o1 o2 o3), .ref [I z]] (I p3))
    (a1 : APure (C m) 75 [.agg (gc s.l), .agg [I p0, I p1]] (.agg (gc t.l))) (a2 : APure (C m) 75 [.agg (gc s.h), .agg [I p2, I p3]] (.agg (gc t.h))) (htc : t.c = s.c)
    (c39t : APure (C m) 39 [.agg (xc r), .agg (sc t)] (.tup [I M, St W', I 0])) (hM : W' = ⟨#[]⟩ → D.lo ≤ M ∧ M ≤ D.hi) :
    APure (C m) 12 [.agg (xc r), .agg (sc s), .agg (hearC lagN startN band l0 l1 l2 nz o0 o1 o2 o3)] (Bo true) := by
  obtain ⟨tc, tl, th⟩ := t
  simp only at htc
  subst htc
  have hin : ∀ (l : List (List PV)) (i : Nat) (x : List PV), l[i]? = some x → 0 ≤ (i : Int) ∧ l[((i : Int)).toNat]? = some x := fun l i x h => ⟨by omega, h⟩
  cases fb
  · have g1 := hf0 rfl; have g2 := hq rfl
    clear hf1 hfl hf0 hq
    subst hlag; subst hstart; subst hlo; subst hhi; subst hmi; subst hz; subst hz2
    refine APure.of_body good [] (fn := Tryz.f12) (by kernel_rfl) (by kernel_rfl) rfl rfl (by kernel_rfl) rfl (by kernel_rfl) ?_
    conv => whnf
    repeat' (first
      | (refine codeK_sound good (mu := []) ?_; conv => whnf)
      | ((first | rw [wl0] | rw [wl1] | rw [wl2] | rw [wl3] | rw [wl4] | rw [wl5]); conv => whnf)
      | (refine SBool.mk (fun _ => ?_) (fun h => absurd (of_decide_eq_true rfl) h); conv => whnf)
      | (refine SBool.mk (fun h => absurd h (of_decide_eq_false rfl)) (fun _ => ?_); conv => whnf)
      | (refine SBool.mk (fun h => ?_) (fun h => ?_) <;> conv => whnf)
      | refine SCode.mk (AWp.rounds 4 ?_)
      | (refine SEx.mk _ (by first | exact awake_pure | exact c37 | exact c69 | exact c18 | exact c39 | exact hne _ | exact heq _ | exact hot _ | exact c41 | exact cA | exact cB | exact cC | exact cD | exact cE | exact k0 | exact k1 | exact k2 | exact k3 | exact a1 | exact a2 | exact c39t | exact at_pure _ _ | exact to_pure _ _ | exact hy1 | exact hy2 | exact hy3) ?_; conv => whnf)
      | (refine SEx.mk _ (by first | exact rfl | exact ⟨of_decide_eq_true rfl, rfl⟩) ?_; conv => whnf)
      | (refine SAll.mk (fun _ => ?_); conv => whnf)
      | (refine SAnd.mk (by first | exact hy1 | exact hy2 | exact hy3) ?_; conv => whnf)
      | (refine SAnd.mk ⟨by intro c hc; simp at hc; first | (subst hc; rfl) | ((repeat' (rcases hc with rfl | hc)) <;> first | rfl | (subst hc; rfl)), by (simp; first | done | omega), by (simp; first | done | omega)⟩ ?_; conv => whnf)
      | (refine SAnd.mk (by first | exact rfl | kernel_rfl | omega | decide | exact awake_pure | exact c37 | exact c69 | exact c18 | exact c39 | exact hne _ | exact heq _ | exact hot _ | exact c41 | exact cA | exact cB | exact cC | exact cD | exact cE | exact k0 | exact k1 | exact k2 | exact k3 | exact a1 | exact a2 | exact c39t | exact at_pure _ _ | exact to_pure _ _ | exact hy1 | exact hy2 | exact hy3) ?_; conv => whnf)
      | fail)
    all_goals first
      | exact ⟨PLe.refl _⟩
      | (exfalso; omega)
      | (have h9 := hM (by simpa using (by assumption : ¬ decide (W' ≠ ⟨#[]⟩) = true)); exfalso; omega)
  · have g1 := hf1 rfl; have g2 := hfl rfl
    clear hf1 hfl hf0 hq
    subst hlag; subst hstart; subst hlo; subst hhi; subst hmi; subst hz; subst hz2
    refine APure.of_body good [] (fn := Tryz.f12) (by kernel_rfl) (by kernel_rfl) rfl rfl (by kernel_rfl) rfl (by kernel_rfl) ?_
    conv => whnf
    repeat' (first
      | (refine codeK_sound good (mu := []) ?_; conv => whnf)
      | ((first | rw [wl0] | rw [wl1] | rw [wl2] | rw [wl3] | rw [wl4] | rw [wl5]); conv => whnf)
      | (refine SBool.mk (fun _ => ?_) (fun h => absurd (of_decide_eq_true rfl) h); conv => whnf)
      | (refine SBool.mk (fun h => absurd h (of_decide_eq_false rfl)) (fun _ => ?_); conv => whnf)
      | (refine SBool.mk (fun h => ?_) (fun h => ?_) <;> conv => whnf)
      | refine SCode.mk (AWp.rounds 4 ?_)
      | (refine SEx.mk _ (by first | exact awake_pure | exact c37 | exact c69 | exact c18 | exact c39 | exact hne _ | exact heq _ | exact hot _ | exact c41 | exact cA | exact cB | exact cC | exact cD | exact cE | exact k0 | exact k1 | exact k2 | exact k3 | exact a1 | exact a2 | exact c39t | exact at_pure _ _ | exact to_pure _ _ | exact hy1 | exact hy2 | exact hy3) ?_; conv => whnf)
      | (refine SEx.mk _ (by first | exact rfl | exact ⟨of_decide_eq_true rfl, rfl⟩) ?_; conv => whnf)
      | (refine SAll.mk (fun _ => ?_); conv => whnf)
      | (refine SAnd.mk (by first | exact hy1 | exact hy2 | exact hy3) ?_; conv => whnf)
      | (refine SAnd.mk ⟨by intro c hc; simp at hc; first | (subst hc; rfl) | ((repeat' (rcases hc with rfl | hc)) <;> first | rfl | (subst hc; rfl)), by (simp; first | done | omega), by (simp; first | done | omega)⟩ ?_; conv => whnf)
      | (refine SAnd.mk (by first | exact rfl | kernel_rfl | omega | decide | exact awake_pure | exact c37 | exact c69 | exact c18 | exact c39 | exact hne _ | exact heq _ | exact hot _ | exact c41 | exact cA | exact cB | exact cC | exact cD | exact cE | exact k0 | exact k1 | exact k2 | exact k3 | exact a1 | exact a2 | exact c39t | exact at_pure _ _ | exact to_pure _ _ | exact hy1 | exact hy2 | exact hy3) ?_; conv => whnf)
      | fail)
    all_goals first
      | exact ⟨PLe.refl _⟩
      | (exfalso; omega)
      | (have h9 := hM (by simpa using (by assumption : ¬ decide (W' ≠ ⟨#[]⟩) = true)); exfalso; omega)
end
end Go.Proofs.Ab.Tone2
end
section
/- The law of the factors: the walk. -/
set_option maxRecDepth 100000
set_option linter.unusedVariables false
set_option linter.unusedSimpArgs false
namespace Go.Proofs.Ab.Tone2
open Go Go.RowKit Go.Proofs.Ab Go.Proofs.Ab.Tone
theorem eq_sig {s t : Sg} (h : s = t) : EqAgg Tone.C 32 (sc s) (sc t) true := by
  subst h
  have h := eq_signal s.c.re s.c.im s.l.re s.l.im s.h.re s.h.im s.c.re s.c.im s.l.re s.l.im s.h.re s.h.im
  rw [decide_eq_true (by simp)] at h
  exact h
section
attribute [local irreducible] APure
set_option maxHeartbeats 40000000 in
theorem ToneFactors_parts {m : Int} (s : Sg) (x0 x1 : G) (n0 n1 n2 by' : Int) (f : G) (N L H T A B Z Cc D : R) (t s1 s2 s3 u w : Sg)
    (hf0 : n0.tmod 16 = f.re) (hf1 : n1.tmod 16 = f.im) (hby : n2.tmod 21 = by')
    (q0 : wrapK IntKind.i64 n0 = n0) (q1 : wrapK IntKind.i64 n1 = n1) (q2 : wrapK IntKind.i64 n2 = n2)
    (c69 : APure (C m) 69 [.agg (sc s), I 300] (Bo true)) (c69' : APure (C m) 69 [.agg (sc ⟨s.c, x0, x1⟩), I 300] (Bo true))
    (c16 : APure (C m) 16 [.agg (sc s)] (.tup [.agg (rc N), I 0])) (c15 : APure (C m) 15 [.agg (sc s)] (.tup [.agg (rc L), .agg (rc H), I 0])) (c17 : APure (C m) 17 [.agg (sc s)] (.tup [.agg (rc T), I 0]))
    (r1 : APure (C m) 71 [.agg (rc N)] (Bo true)) (r2 : APure (C m) 71 [.agg (rc L)] (Bo true)) (r3 : APure (C m) 71 [.agg (rc H)] (Bo true)) (r4 : APure (C m) 71 [.agg (rc T)] (Bo true)) (r5 : APure (C m) 71 [.agg (rc Cc)] (Bo true))
    (k28 : ¬ decide (f.re = 0 ∧ f.im = 0) = true → APure (C m) 28 [.agg (sc s), .agg (gc f), .agg (gc f)] (.tup [.agg (sc t), I 0]))
    (k16 : ¬ decide (f.re = 0 ∧ f.im = 0) = true → APure (C m) 16 [.agg (sc t)] (.tup [.agg (rc N), I 0])) (k15 : ¬ decide (f.re = 0 ∧ f.im = 0) = true → APure (C m) 15 [.agg (sc t)] (.tup [.agg (rc L), .agg (rc H), I 0])) (k17 : ¬ decide (f.re = 0 ∧ f.im = 0) = true → APure (C m) 17 [.agg (sc t)] (.tup [.agg (rc T), I 0]))
    (t0 : APure (C m) 27 [.agg (sc s), I 1] (.tup [.agg (sc s1), I 0])) (t1 : APure (C m) 27 [.agg (sc s1), I 1] (.tup [.agg (sc s2), I 0])) (t2 : APure (C m) 27 [.agg (sc s2), I 1] (.tup [.agg (sc s3), I 0])) (t3 : APure (C m) 27 [.agg (sc s3), I 1] (.tup [.agg (sc s), I 0]))
    (c16a : APure (C m) 16 [.agg (sc s1)] (.tup [.agg (rc N), I 0])) (c16b : APure (C m) 16 [.agg (sc s2)] (.tup [.agg (rc N), I 0])) (c16c : APure (C m) 16 [.agg (sc s3)] (.tup [.agg (rc N), I 0]))
    (c28 : APure (C m) 28 [.agg (sc s), .agg [I 1, I 0], .agg [I by', I 0]] (.tup [.agg (sc u), I 0])) (c16u : APure (C m) 16 [.agg (sc u)] (.tup [.agg (rc A), I 0]))
    (c16h : APure (C m) 16 [.agg (sc ⟨s.c, s.h, s.l⟩)] (.tup [.agg (rc B), I 0])) (hB : B = ⟨0 - N.num, N.den⟩)
    (l1 : APure (C m) 20 [I (by' * N.num), I N.den] (.agg (rc A))) (l2 : APure (C m) 20 [I (T.num * N.den + N.num * T.den), I (T.den * N.den)] (.agg (rc Z))) (l3 : APure (C m) 20 [I (2 * L.num), I L.den] (.agg (rc Z)))
    (c16o : APure (C m) 16 [.agg (sc ⟨s.c, x0, x1⟩)] (.tup [.agg (rc Cc), I 0])) (c26 : APure (C m) 26 [.agg (sc s), .agg (sc ⟨s.c, x0, x1⟩)] (.tup [.agg (sc w), I 0])) (c16w : APure (C m) 16 [.agg (sc w)] (.tup [.agg (rc D), I 0]))
    (l4 : APure (C m) 20 [I (N.num * Cc.den + Cc.num * N.den), I (2 * N.den * Cc.den)] (.agg (rc D)))
    (w1 : wrapK IntKind.i64 (by' * N.num) = by' * N.num) (w2 : wrapK IntKind.i64 (0 - N.num) = 0 - N.num) (w3 : wrapK IntKind.i64 (T.num * N.den) = T.num * N.den) (w4 : wrapK IntKind.i64 (N.num * T.den) = N.num * T.den)
    (w5 : wrapK IntKind.i64 (T.num * N.den + N.num * T.den) = T.num * N.den + N.num * T.den) (w6 : wrapK IntKind.i64 (T.den * N.den) = T.den * N.den) (w7 : wrapK IntKind.i64 (2 * L.num) = 2 * L.num)
    (w8 : wrapK IntKind.i64 (N.num * Cc.den) = N.num * Cc.den) (w9 : wrapK IntKind.i64 (Cc.num * N.den) = Cc.num * N.den) (w10 : wrapK IntKind.i64 (N.num * Cc.den + Cc.num * N.den) = N.num * Cc.den + Cc.num * N.den)
    (w11 : wrapK IntKind.i64 (2 * N.den) = 2 * N.den) (w12 : wrapK IntKind.i64 (2 * N.den * Cc.den) = 2 * N.den * Cc.den) :
    APure (C m) 10 [.agg (sc s), .agg [I x0.re, I x0.im, I x1.re, I x1.im], .agg [.v (.int .i8 n0), .v (.int .i8 n1), .v (.int .i8 n2)]] (Bo true) := by
  have eB : EqAgg Tone.C 28 (rc B) [I (0 - N.num), I N.den] true := by
    rw [hB]
    exact eq_ratio_self _ _
  refine APure.of_body good [26] (fn := Tryz.f10) (by kernel_rfl) (by kernel_rfl) rfl rfl (by kernel_rfl) rfl (by kernel_rfl) ?_
  conv => whnf
  repeat' (first
    | (refine codeK_sound good (mu := [26]) ?_; conv => whnf)
    | ((first | rw [wl0] | rw [wl1] | rw [wl2] | rw [wl3] | rw [wl4] | rw [wl5]); conv => whnf)
    | (rw [w12]; conv => whnf)
    | (rw [w11]; conv => whnf)
    | (rw [w10]; conv => whnf)
    | (rw [w9]; conv => whnf)
    | (rw [w8]; conv => whnf)
    | (rw [w7]; conv => whnf)
    | (rw [w6]; conv => whnf)
    | (rw [w5]; conv => whnf)
    | (rw [w4]; conv => whnf)
    | (rw [w3]; conv => whnf)
    | (rw [w2]; conv => whnf)
    | (rw [w1]; conv => whnf)
    | (rw [hby]; conv => whnf)
    | (rw [hf1]; conv => whnf)
    | (rw [hf0]; conv => whnf)
    | (rw [q2]; conv => whnf)
    | (rw [q1]; conv => whnf)
    | (rw [q0]; conv => whnf)
    | (refine SBool.mk (fun _ => ?_) (fun h => absurd (of_decide_eq_true rfl) h); conv => whnf)
    | (refine SBool.mk (fun h => absurd h (of_decide_eq_false rfl)) (fun _ => ?_); conv => whnf)
    | (refine SBool.mk (fun h => ?_) (fun h => ?_) <;> conv => whnf)
    | refine SCode.mk (AWp.rounds 5 ?_)
    | (refine SEx.mk _ (by first | exact awake_pure | exact c69 | exact c69' | exact at_pure _ _ | exact ratio_pure _ _ | exact c16 | exact c15 | exact c17 | exact r1 | exact r2 | exact r3 | exact r4 | exact r5 | exact k28 (by assumption) | exact k16 (by assumption) | exact k15 (by assumption) | exact k17 (by assumption) | exact t0 | exact t1 | exact t2 | exact t3 | exact c16a | exact c16b | exact c16c | exact c28 | exact c16u | exact c16h | exact l1 | exact l2 | exact l3 | exact l4 | exact c16o | exact c26 | exact c16w | exact eB | exact eq_ratio_self _ _ | exact eq_sig rfl | exact eq_gauss _ _ _ _) ?_; conv => whnf)
    | (refine SEx.mk _ (by first | exact rfl | exact ⟨of_decide_eq_true rfl, rfl⟩) ?_; conv => whnf)
    | (refine SAll.mk (fun _ => ?_); conv => whnf)
    | (refine SAnd.mk ⟨by intro c hc; simp at hc; first | (subst hc; rfl) | ((repeat' (rcases hc with rfl | hc)) <;> first | rfl | (subst hc; rfl)), by (simp; first | done | omega), by (simp; first | done | omega)⟩ ?_; conv => whnf)
    | (refine SAnd.mk (by first | exact rfl | kernel_rfl | omega | decide | exact awake_pure | exact c69 | exact c69' | exact at_pure _ _ | exact ratio_pure _ _ | exact c16 | exact c15 | exact c17 | exact r1 | exact r2 | exact r3 | exact r4 | exact r5 | exact k28 (by assumption) | exact k16 (by assumption) | exact k15 (by assumption) | exact k17 (by assumption) | exact t0 | exact t1 | exact t2 | exact t3 | exact c16a | exact c16b | exact c16c | exact c28 | exact c16u | exact c16h | exact l1 | exact l2 | exact l3 | exact l4 | exact c16o | exact c26 | exact c16w | exact eB | exact eq_ratio_self _ _ | exact eq_sig rfl | exact eq_gauss _ _ _ _) ?_; conv => whnf)
    | fail)
  all_goals first | exact ⟨PLe.refl _⟩ | exact absurd rfl (by assumption)
end
end Go.Proofs.Ab.Tone2
end
section
/- The law of the factors: the plain laws, and the law. -/
set_option maxRecDepth 100000
set_option linter.unusedVariables false
set_option linter.unusedSimpArgs false
namespace Go.Proofs.Ab.Tone2
open Go Go.RowKit Go.Proofs.Ab Go.Proofs.Ab.Tone
theorem needle_ok {m : Int} {s : Sg} (h : checkE s = 0) : APure (C m) 16 [.agg (sc s)] (.tup [.agg (rc (low (dif s) (sq s.c))), I 0]) := by
  have h1 := up (m := m) (Needle_pure s)
  unfold needleR at h1
  rwa [if_pos h, h] at h1
theorem depths_ok {m : Int} {s : Sg} (h : checkE s = 0) : APure (C m) 15 [.agg (sc s)] (.tup [.agg (rc (low (aga s s.l) (sq s.c))), .agg (rc (low (aga s s.h) (sq s.c))), I 0]) := by
  have h1 := up (m := m) (Depths_pure s)
  unfold depthL depthH at h1
  rwa [if_pos h, if_pos h, h] at h1
theorem sum_ok {m : Int} {s : Sg} (h : checkE s = 0) : APure (C m) 17 [.agg (sc s)] (.tup [.agg (rc (low (tot s) (sq s.c))), I 0]) := by
  have h1 := up (m := m) (Sum_pure s)
  unfold sumR at h1
  rwa [if_pos h, h] at h1
theorem added_ok {m : Int} {a b : Sg} (ha : checkE a = 0) (hb : checkE b = 0) (h : Ok (a.add b)) : APure (C m) 26 [.agg (sc a), .agg (sc b)] (.tup [.agg (sc (a.add b)), I 0]) := by
  have h1 := up (m := m) (Added_pure a b)
  have h2 : firstOf [checkE a, checkE b] = 0 := by rw [ha, hb]; rfl
  have h3 := madeE_zero.2 h
  unfold addedS addedE madeS at h1
  rwa [if_pos h2, if_pos h2, if_pos h3, h3] at h1
theorem scaled_ok {m : Int} {s : Sg} {c d : G} (hs : checkE s = 0) (hc : c.Fit 1000) (hz : ¬ (c.re = 0 ∧ c.im = 0)) (hd : d.Fit 1000) (h : Ok (s.by c d)) : APure (C m) 28 [.agg (sc s), .agg (gc c), .agg (gc d)] (.tup [.agg (sc (s.by c d)), I 0]) := by
  have h1 := up (m := m) (Scaled_pure s c d)
  have h2 : factE s c d = 0 := by
    unfold factE
    rw [hs, (partE_zero (by decide) (by decide)).2 ⟨hc.re, hc.im⟩, zeroE_zero.2 hz, (partE_zero (by decide) (by decide)).2 ⟨hd.re, hd.im⟩]
    rfl
  have h3 := madeE_zero.2 h
  unfold scaledS scaledE madeS at h1
  rwa [if_pos h2, if_pos h2, if_pos h3, h3] at h1
theorem turned_ok {m : Int} {s : Sg} {k : Int} (hs : checkE s = 0) (h0 : 0 ≤ k) (h1 : k ≤ 3) : APure (C m) 27 [.agg (sc s), I k] (.tup [.agg (sc (s.turn k.toNat)), I 0]) := by
  have h2 := up (m := m) (Turned_pure s k)
  have h3 : turnE s k = 0 := by
    unfold turnE
    rw [hs, within_zero.2 ⟨h0, h1⟩]
    rfl
  unfold turnedS at h2
  rwa [if_pos h3, h3] at h2
theorem mulb {x y : Int} {a b : Nat} (hx : x.natAbs ≤ a) (hy : y.natAbs ≤ b) : (x * y).natAbs ≤ a * b := by
  rw [Int.natAbs_mul]
  exact Nat.mul_le_mul hx hy
theorem mulw {x y : Int} (hx : x.natAbs ≤ 1000000) (hy : y.natAbs ≤ 1000000) : (x * y).natAbs ≤ 1000000000000 := mulb hx hy
theorem near1_fit {a : G} {n : Int} (h : near1 a n) (h0 : 0 ≤ n) : a.Fit n.toNat := ⟨by have := h.1; omega, by have := h.2; omega⟩
/-- The quarter turn, written out. -/
theorem turn1 (a : G) : turnN a 1 = ⟨0 - a.im, a.re⟩ := by
  simp only [turnN, G.mul, G.mk.injEq]
  omega
theorem sgTurn1 (s : Sg) : s.turn 1 = ⟨⟨0 - s.c.im, s.c.re⟩, ⟨0 - s.l.im, s.l.re⟩, ⟨0 - s.h.im, s.h.re⟩⟩ := by
  unfold Sg.turn
  rw [turn1, turn1, turn1]
theorem turn_dif (s : Sg) : dif (s.turn 1) = dif s := by
  rw [sgTurn1]
  simp only [dif, aga, G.sub]
  grind
theorem turn_sq (s : Sg) : sq (s.turn 1).c = sq s.c := by
  rw [sgTurn1]
  simp only [sq]
  grind
theorem turn4 (s : Sg) : (((s.turn 1).turn 1).turn 1).turn 1 = s := by
  simp only [sgTurn1]
  obtain ⟨⟨a, b⟩, ⟨c, d⟩, ⟨e, f⟩⟩ := s
  simp
theorem turn_near {s : Sg} {n : Int} (h : near1 s.c n ∧ near1 s.l n ∧ near1 s.h n) : near1 (s.turn 1).c n ∧ near1 (s.turn 1).l n ∧ near1 (s.turn 1).h n := by
  rw [sgTurn1]
  unfold near1 at *
  simp only
  omega
theorem ok_of {s : Sg} {n : Int} (h : near1 s.c n ∧ near1 s.l n ∧ near1 s.h n) (h0 : 0 ≤ n) (hn : n ≤ 10000) (hz : 0 < sq s.c) : Ok s := by
  have f : ∀ a : G, near1 a n → a.Fit 10000 := fun a ha => ⟨by have := ha.1; omega, by have := ha.2; omega⟩
  refine ⟨⟨f _ h.1, f _ h.2.1, f _ h.2.2⟩, fun e => ?_⟩
  unfold sq at hz
  rw [e.1, e.2] at hz
  simp at hz
theorem by_dif (s : Sg) (f : G) : dif (s.by f f) = sq f * dif s := by
  simp only [Sg.by, dif, aga, G.sub, G.mul, sq]; grind
theorem by_tot (s : Sg) (f : G) : tot (s.by f f) = sq f * tot s := by
  simp only [Sg.by, tot, aga, G.add, G.mul, sq]; grind
theorem by_low (s : Sg) (f : G) : aga (s.by f f) (s.by f f).l = sq f * aga s s.l := by
  simp only [Sg.by, aga, G.mul, sq]; grind
theorem by_high (s : Sg) (f : G) : aga (s.by f f) (s.by f f).h = sq f * aga s s.h := by
  simp only [Sg.by, aga, G.mul, sq]; grind
theorem by_sq (s : Sg) (f : G) : sq (s.by f f).c = sq f * sq s.c := by
  simp only [Sg.by, G.mul, sq]; grind
theorem sq_pos_of {a : G} (h : ¬ (a.re = 0 ∧ a.im = 0)) : 0 < sq a := by
  unfold sq
  have e1 := sq_nonneg a.re
  have e2 := sq_nonneg a.im
  by_cases h1 : a.re = 0
  · have h2 : a.im ≠ 0 := fun e => h ⟨h1, e⟩
    have : 0 < a.im * a.im := by
      rcases Int.lt_or_gt_of_ne h2 with h | h
      · exact Int.mul_pos_of_neg_of_neg h h
      · exact Int.mul_pos h h
    omega
  · have : 0 < a.re * a.re := by
      rcases Int.lt_or_gt_of_ne h1 with h | h
      · exact Int.mul_pos_of_neg_of_neg h h
      · exact Int.mul_pos h h
    omega
theorem mul_near {a b : G} {m n : Nat} (ha : a.Fit m) (hb : b.Fit n) : near1 (a.mul b) ((2 * (m * n) : Nat) : Int) := by
  have e1 := mulb ha.re hb.re
  have e2 := mulb ha.im hb.im
  have e3 := mulb ha.re hb.im
  have e4 := mulb ha.im hb.re
  unfold near1 G.mul
  simp only
  omega
theorem agab {s : Sg} {a : G} {m n : Nat} (hc : s.c.Fit m) (ha : a.Fit n) : (aga s a).natAbs ≤ 2 * (n * m) := by
  have e1 := mulb ha.re hc.re
  have e2 := mulb ha.im hc.im
  unfold aga
  omega
theorem sqb {a : G} {m : Nat} (h : a.Fit m) : (sq a).natAbs ≤ 2 * (m * m) := by
  have e1 := mulb h.re h.re
  have e2 := mulb h.im h.im
  unfold sq
  omega
theorem tmod_b (x : Int) {k : Int} (hk : 0 < k) : -k < x.tmod k ∧ x.tmod k < k := by
  have h1 := Int.tmod_lt_of_pos x hk
  have h2 : -k < x.tmod k := by
    have := Int.lt_tmod_of_pos x hk
    omega
  exact ⟨h2, h1⟩
theorem low_b {n d : Int} (hd : 0 < d) (hn : n.natAbs ≤ 1000000) (hd2 : d ≤ 1000000) : (low n d).num.natAbs ≤ 1000000 ∧ (0 < (low n d).den ∧ (low n d).den ≤ 1000000) ∧ Int.gcd (low n d).num (low n d).den = 1 ∧ (low n d).num * d = n * (low n d).den := by
  have h := isLow (n := n) hd
  exact ⟨Nat.le_trans h.num hn, ⟨h.den, by have := h.le; omega⟩, h.gcd, h.eq⟩
theorem alg1 {tn td nn nd t d a q : Int} (a1 : tn * q = t * td) (a2 : nn * q = d * nd) (e : t + d = 2 * a) : (tn * nd + nn * td) * q = 2 * a * (td * nd) := by grind
theorem alg2 {nn nd cn cd q d o : Int} (a1 : nn * q = d * nd) (a2 : cn * q = o * cd) : (nn * cd + cn * nd) * (4 * q) = 2 * (d + o) * (2 * nd * cd) := by grind
theorem ToneFactors_near {m : Int} (s : Sg) (x0 x1 : G) (n0 n1 n2 : Int) (h0 : -128 ≤ n0 ∧ n0 ≤ 127) (h1 : -128 ≤ n1 ∧ n1 ≤ 127) (h2 : -128 ≤ n2 ∧ n2 ≤ 127)
    (hs : nearP s 300) (ho : nearP ⟨s.c, x0, x1⟩ 300) :
    APure (C m) 10 [.agg (sc s), .agg [I x0.re, I x0.im, I x1.re, I x1.im], .agg [.v (.int .i8 n0), .v (.int .i8 n1), .v (.int .i8 n2)]] (Bo true) := by
  have hv := checkE_zero.1 hs.1
  have hvo := checkE_zero.1 ho.1
  have hq := hv.sq_pos
  have fc := near1_fit hs.2.1 (by decide); have fl := near1_fit hs.2.2.1 (by decide); have fh := near1_fit hs.2.2.2 (by decide)
  have g0 := near1_fit ho.2.2.1 (by decide); have g1 := near1_fit ho.2.2.2 (by decide)
  have hqb := sqb fc
  have bL := agab fc fl; have bH := agab fc fh
  have b0 := agab (s := ⟨s.c, x0, x1⟩) fc g0; have b1 := agab (s := ⟨s.c, x0, x1⟩) fc g1
  simp only [Int.reduceToNat] at hqb bL bH b0 b1
  have eD : dif s = aga s s.l - aga s s.h := by simp only [dif, aga, G.sub]; grind
  have eT : tot s = aga s s.l + aga s s.h := by simp only [tot, aga, G.add]; grind
  have eO : dif ⟨s.c, x0, x1⟩ = aga ⟨s.c, x0, x1⟩ x0 - aga ⟨s.c, x0, x1⟩ x1 := by simp only [dif, aga, G.sub]; grind
  have hN := low_b (n := dif s) hq (by omega) (by omega)
  have hL := low_b (n := aga s s.l) hq (by omega) (by omega)
  have hH := low_b (n := aga s s.h) hq (by omega) (by omega)
  have hT := low_b (n := tot s) hq (by omega) (by omega)
  have hC := low_b (n := dif ⟨s.c, x0, x1⟩) hq (by omega) (by omega)
  have ok1 := ok_of (turn_near hs.2) (by decide) (by decide) (by rw [turn_sq]; exact hq)
  have ok2 := ok_of (turn_near (turn_near hs.2)) (by decide) (by decide) (by rw [turn_sq, turn_sq]; exact hq)
  have ok3 := ok_of (turn_near (turn_near (turn_near hs.2))) (by decide) (by decide) (by rw [turn_sq, turn_sq, turn_sq]; exact hq)
  have f0 := tmod_b n0 (k := 16) (by decide); have f1 := tmod_b n1 (k := 16) (by decide); have f2 := tmod_b n2 (k := 21) (by decide)
  generalize hf0 : n0.tmod 16 = fre at f0
  generalize hf1 : n1.tmod 16 = fim at f1
  generalize hby : n2.tmod 21 = by' at f2
  have ff : (⟨fre, fim⟩ : G).Fit 15 := ⟨by simp only; omega, by simp only; omega⟩
  have okU : Ok (s.by ⟨1, 0⟩ ⟨by', 0⟩) := by
    have ec : (s.by ⟨1, 0⟩ ⟨by', 0⟩).c = s.c := by
      obtain ⟨⟨a, b⟩, _, _⟩ := s
      simp [Sg.by, G.mul]
    refine ok_of (n := 8000) ⟨?_, ?_, ?_⟩ (by decide) (by decide) (by rw [ec]; exact hq)
    · rw [ec]; unfold near1; have := hs.2.1; unfold near1 at this; omega
    · have h1 := mulb fl.re (y := by') (b := 20) (by omega)
      have h2 := mulb fl.im (y := by') (b := 20) (by omega)
      simp only [Int.reduceToNat] at h1 h2
      simp only [near1, Sg.by, G.mul, Int.mul_zero]
      omega
    · have h1 := mulb fh.re (y := by') (b := 20) (by omega)
      have h2 := mulb fh.im (y := by') (b := 20) (by omega)
      simp only [Int.reduceToNat] at h1 h2
      simp only [near1, Sg.by, G.mul, Int.mul_zero]
      omega
  have uD : dif (s.by ⟨1, 0⟩ ⟨by', 0⟩) = by' * dif s := by simp only [Sg.by, dif, aga, G.sub, G.mul]; grind
  have uS : sq (s.by ⟨1, 0⟩ ⟨by', 0⟩).c = sq s.c := by simp only [Sg.by, G.mul, sq]; grind
  have okW : Ok (s.add ⟨s.c, x0, x1⟩) := by
    refine ok_of (n := 600) ⟨?_, ?_, ?_⟩ (by decide) (by decide) ?_
    · have h1 := hs.2.1; unfold near1 at *; simp only [Sg.add, G.add]; omega
    · have h1 := hs.2.2.1; have h2 := ho.2.2.1; unfold near1 at *; simp only [Sg.add, G.add] at *; omega
    · have h1 := hs.2.2.2; have h2 := ho.2.2.2; unfold near1 at *; simp only [Sg.add, G.add] at *; omega
    · have e : sq (s.add ⟨s.c, x0, x1⟩).c = 4 * sq s.c := by simp only [Sg.add, G.add, sq]; grind
      rw [e]; omega
  have wD : dif (s.add ⟨s.c, x0, x1⟩) = 2 * (dif s + dif ⟨s.c, x0, x1⟩) := by simp only [Sg.add, dif, aga, G.sub, G.add]; grind
  have wS : sq (s.add ⟨s.c, x0, x1⟩).c = 4 * sq s.c := by simp only [Sg.add, G.add, sq]; grind
  have okH : Ok ⟨s.c, s.h, s.l⟩ := ⟨⟨hv.fit.c, hv.fit.h, hv.fit.l⟩, hv.nz⟩
  have hD : dif ⟨s.c, s.h, s.l⟩ = -dif s := by simp only [dif, aga, G.sub]; grind
  have okT : ¬ decide (fre = 0 ∧ fim = 0) = true → Ok (s.by ⟨fre, fim⟩ ⟨fre, fim⟩) := fun h => by
    have hz : ¬ (fre = 0 ∧ fim = 0) := by simpa using h
    have e1 := mul_near fc ff; have e2 := mul_near fl ff; have e3 := mul_near fh ff
    simp only [Int.reduceToNat] at e1 e2 e3
    exact ok_of (n := 9000) ⟨e1, e2, e3⟩ (by decide) (by decide) (by rw [by_sq]; exact Int.mul_pos (sq_pos_of (a := ⟨fre, fim⟩) hz) hq)
  have sqf : ¬ decide (fre = 0 ∧ fim = 0) = true → 0 < sq (⟨fre, fim⟩ : G) := fun h => sq_pos_of (by simpa using h)
  have k16 : ∀ t : Sg, Ok t → dif t = dif s → sq t.c = sq s.c → APure (C m) 16 [.agg (sc t)] (.tup [.agg (rc (low (dif s) (sq s.c))), I 0]) := fun t h e1 e2 => by
    have := needle_ok (m := m) (checkE_zero.2 h)
    rwa [e1, e2] at this
  refine ToneFactors_parts s x0 x1 n0 n1 n2 by' ⟨fre, fim⟩ (low (dif s) (sq s.c)) (low (aga s s.l) (sq s.c)) (low (aga s s.h) (sq s.c)) (low (tot s) (sq s.c)) (low (by' * dif s) (sq s.c)) (low (-dif s) (sq s.c)) (low (2 * aga s s.l) (sq s.c))
    (low (dif ⟨s.c, x0, x1⟩) (sq s.c)) (low (dif (s.add ⟨s.c, x0, x1⟩)) (sq (s.add ⟨s.c, x0, x1⟩).c)) (s.by ⟨fre, fim⟩ ⟨fre, fim⟩) (s.turn 1) ((s.turn 1).turn 1) (((s.turn 1).turn 1).turn 1) (s.by ⟨1, 0⟩ ⟨by', 0⟩) (s.add ⟨s.c, x0, x1⟩)
    hf0 hf1 hby (w64 (by omega)) (w64 (by omega)) (w64 (by omega)) ?_ ?_ (needle_ok hs.1) (depths_ok hs.1) (sum_ok hs.1)
    (right_pure _ _ (by omega) hN.2.1.1 (by omega) hN.2.2.1) (right_pure _ _ (by omega) hL.2.1.1 (by omega) hL.2.2.1) (right_pure _ _ (by omega) hH.2.1.1 (by omega) hH.2.2.1) (right_pure _ _ (by omega) hT.2.1.1 (by omega) hT.2.2.1) (right_pure _ _ (by omega) hC.2.1.1 (by omega) hC.2.2.1)
    ?_ ?_ ?_ ?_ (turned_ok hs.1 (by decide) (by decide)) (turned_ok (checkE_zero.2 ok1) (by decide) (by decide)) (turned_ok (checkE_zero.2 ok2) (by decide) (by decide)) ?_
    (k16 _ ok1 (turn_dif _) (turn_sq _)) (k16 _ ok2 (by rw [turn_dif, turn_dif]) (by rw [turn_sq, turn_sq])) (k16 _ ok3 (by rw [turn_dif, turn_dif, turn_dif]) (by rw [turn_sq, turn_sq, turn_sq]))
    (scaled_ok (c := ⟨1, 0⟩) (d := ⟨by', 0⟩) hs.1 ⟨by decide, by decide⟩ (by decide) ⟨by simp only; omega, by simp⟩ okU) ?_ ?_ (low_neg hq) ?_ ?_ ?_ (needle_ok ho.1) (added_ok hs.1 ho.1 okW) (needle_ok (checkE_zero.2 okW)) ?_
    ?_ ?_ ?_ ?_ ?_ ?_ ?_ ?_ ?_ ?_ ?_ ?_
  · have := near_pure (m := m) s 300 (by decide) (by decide); rwa [decide_eq_true hs] at this
  · have := near_pure (m := m) ⟨s.c, x0, x1⟩ 300 (by decide) (by decide); rwa [decide_eq_true ho] at this
  · intro h
    exact scaled_ok (c := ⟨fre, fim⟩) (d := ⟨fre, fim⟩) hs.1 (ff.mono (by decide)) (by simpa using h) (ff.mono (by decide)) (okT h)
  · intro h
    have := needle_ok (m := m) (checkE_zero.2 (okT h))
    rwa [by_dif, by_sq, low_scale (sqf h)] at this
  · intro h
    have := depths_ok (m := m) (checkE_zero.2 (okT h))
    rwa [by_low, by_high, by_sq, low_scale (sqf h), low_scale (sqf h)] at this
  · intro h
    have := sum_ok (m := m) (checkE_zero.2 (okT h))
    rwa [by_tot, by_sq, low_scale (sqf h)] at this
  · have := turned_ok (m := m) (k := 1) (checkE_zero.2 ok3) (by decide) (by decide)
    rwa [show (1 : Int).toNat = 1 from rfl, turn4] at this
  · have := needle_ok (m := m) (checkE_zero.2 okU)
    rwa [uD, uS] at this
  · have := needle_ok (m := m) (checkE_zero.2 okH)
    rwa [hD] at this
  · have h1 := mulw (x := by') (y := (low (dif s) (sq s.c)).num) (by omega) (by omega)
    have := up (m := m) (refLowest_pure (by' * (low (dif s) (sq s.c)).num) (low (dif s) (sq s.c)).den (by omega) hN.2.1.1 (by omega))
    rwa [low_eq hN.2.1.1 hq (by rw [Int.mul_assoc, hN.2.2.2, Int.mul_assoc])] at this
  · have h1 := mulw hT.1 (y := (low (dif s) (sq s.c)).den) (by omega)
    have h2 := mulw hN.1 (y := (low (tot s) (sq s.c)).den) (by omega)
    have h3 := mulw (x := (low (tot s) (sq s.c)).den) (y := (low (dif s) (sq s.c)).den) (by omega) (by omega)
    have h4 := Int.mul_pos hT.2.1.1 hN.2.1.1
    have := up (m := m) (refLowest_pure ((low (tot s) (sq s.c)).num * (low (dif s) (sq s.c)).den + (low (dif s) (sq s.c)).num * (low (tot s) (sq s.c)).den) ((low (tot s) (sq s.c)).den * (low (dif s) (sq s.c)).den) (by omega) h4 (by omega))
    rwa [low_eq h4 hq (alg1 hT.2.2.2 hN.2.2.2 (by omega : tot s + dif s = 2 * aga s s.l))] at this
  · have := up (m := m) (refLowest_pure (2 * (low (aga s s.l) (sq s.c)).num) (low (aga s s.l) (sq s.c)).den (by omega) hL.2.1.1 (by omega))
    rwa [low_eq hL.2.1.1 hq (by rw [Int.mul_assoc, hL.2.2.2, Int.mul_assoc])] at this
  · have h1 := mulw hN.1 (y := (low (dif ⟨s.c, x0, x1⟩) (sq s.c)).den) (by omega)
    have h2 := mulw hC.1 (y := (low (dif s) (sq s.c)).den) (by omega)
    have h3 := mulb (x := 2 * (low (dif s) (sq s.c)).den) (y := (low (dif ⟨s.c, x0, x1⟩) (sq s.c)).den) (a := 2000000) (b := 1000000) (by omega) (by omega)
    have h4 : 0 < 2 * (low (dif s) (sq s.c)).den * (low (dif ⟨s.c, x0, x1⟩) (sq s.c)).den := Int.mul_pos (by omega) hC.2.1.1
    have := up (m := m) (refLowest_pure ((low (dif s) (sq s.c)).num * (low (dif ⟨s.c, x0, x1⟩) (sq s.c)).den + (low (dif ⟨s.c, x0, x1⟩) (sq s.c)).num * (low (dif s) (sq s.c)).den) (2 * (low (dif s) (sq s.c)).den * (low (dif ⟨s.c, x0, x1⟩) (sq s.c)).den) (by omega) h4 (by omega))
    rwa [low_eq h4 (d' := sq (s.add ⟨s.c, x0, x1⟩).c) (n' := dif (s.add ⟨s.c, x0, x1⟩)) (by rw [wS]; omega) (by rw [wS, wD]; exact alg2 hN.2.2.2 hC.2.2.2)] at this
  · exact w64 (by have := mulw (x := by') (y := (low (dif s) (sq s.c)).num) (by omega) (by omega); omega)
  · exact w64 (by omega)
  · exact w64 (by have := mulw hT.1 (y := (low (dif s) (sq s.c)).den) (by omega); omega)
  · exact w64 (by have := mulw hN.1 (y := (low (tot s) (sq s.c)).den) (by omega); omega)
  · exact w64 (by have := mulw hT.1 (y := (low (dif s) (sq s.c)).den) (by omega); have := mulw hN.1 (y := (low (tot s) (sq s.c)).den) (by omega); omega)
  · exact w64 (by have := mulw (x := (low (tot s) (sq s.c)).den) (y := (low (dif s) (sq s.c)).den) (by omega) (by omega); omega)
  · exact w64 (by omega)
  · exact w64 (by have := mulw hN.1 (y := (low (dif ⟨s.c, x0, x1⟩) (sq s.c)).den) (by omega); omega)
  · exact w64 (by have := mulw hC.1 (y := (low (dif s) (sq s.c)).den) (by omega); omega)
  · exact w64 (by have := mulw hN.1 (y := (low (dif ⟨s.c, x0, x1⟩) (sq s.c)).den) (by omega); have := mulw hC.1 (y := (low (dif s) (sq s.c)).den) (by omega); omega)
  · exact w64 (by omega)
  · exact w64 (by have := mulb (x := 2 * (low (dif s) (sq s.c)).den) (y := (low (dif ⟨s.c, x0, x1⟩) (sq s.c)).den) (a := 2000000) (b := 1000000) (by omega) (by omega); omega)
theorem ToneFactors_pure {m : Int} (s : Sg) (x0 x1 : G) (n0 n1 n2 : Int) (h0 : -128 ≤ n0 ∧ n0 ≤ 127) (h1 : -128 ≤ n1 ∧ n1 ≤ 127) (h2 : -128 ≤ n2 ∧ n2 ≤ 127) :
    APure (C m) 10 [.agg (sc s), .agg [I x0.re, I x0.im, I x1.re, I x1.im], .agg [.v (.int .i8 n0), .v (.int .i8 n1), .v (.int .i8 n2)]] (Bo true) := by
  by_cases hs : nearP s 300
  · by_cases ho : nearP ⟨s.c, x0, x1⟩ 300
    · exact ToneFactors_near s x0 x1 n0 n1 n2 h0 h1 h2 hs ho
    · have c1 := near_pure (m := m) s 300 (by decide) (by decide)
      rw [decide_eq_true hs] at c1
      have c2 := near_pure (m := m) ⟨s.c, x0, x1⟩ 300 (by decide) (by decide)
      rw [decide_eq_false ho] at c2
      refine APure.of_body good [] (fn := Tryz.f10) (by kernel_rfl) (by kernel_rfl) rfl rfl (by kernel_rfl) rfl (by kernel_rfl) ?_
      conv => whnf
      repeat' (first
        | (refine codeK_sound good (mu := []) ?_; conv => whnf)
        | ((first | rw [wl0] | rw [wl1] | rw [wl2] | rw [wl3] | rw [wl4] | rw [wl5]); conv => whnf)
        | (refine SBool.mk (fun _ => ?_) (fun h => absurd (of_decide_eq_true rfl) h); conv => whnf)
        | (refine SBool.mk (fun h => absurd h (of_decide_eq_false rfl)) (fun _ => ?_); conv => whnf)
        | (refine SBool.mk (fun h => ?_) (fun h => ?_) <;> conv => whnf)
        | (refine SEx.mk _ (by first | exact awake_pure | exact c1 | exact c2) ?_; conv => whnf)
        | (refine SEx.mk _ (by first | exact rfl | exact ⟨of_decide_eq_true rfl, rfl⟩) ?_; conv => whnf)
        | (refine SAll.mk (fun _ => ?_); conv => whnf)
        | (refine SAnd.mk ⟨by intro c hc; simp at hc; first | (subst hc; rfl) | ((repeat' (rcases hc with rfl | hc)) <;> first | rfl | (subst hc; rfl)), by (simp; first | done | omega), by (simp; first | done | omega)⟩ ?_; conv => whnf)
        | (refine SAnd.mk (by first | exact rfl | kernel_rfl | omega | decide | exact awake_pure | exact c1 | exact c2) ?_; conv => whnf)
        | fail)
      all_goals exact ⟨PLe.refl _⟩
  · have c1 := near_pure (m := m) s 300 (by decide) (by decide)
    rw [decide_eq_false hs] at c1
    refine APure.of_body good [] (fn := Tryz.f10) (by kernel_rfl) (by kernel_rfl) rfl rfl (by kernel_rfl) rfl (by kernel_rfl) ?_
    conv => whnf
    repeat' (first
      | (refine codeK_sound good (mu := []) ?_; conv => whnf)
      | ((first | rw [wl0] | rw [wl1] | rw [wl2] | rw [wl3] | rw [wl4] | rw [wl5]); conv => whnf)
      | (refine SBool.mk (fun _ => ?_) (fun h => absurd (of_decide_eq_true rfl) h); conv => whnf)
      | (refine SBool.mk (fun h => absurd h (of_decide_eq_false rfl)) (fun _ => ?_); conv => whnf)
      | (refine SBool.mk (fun h => ?_) (fun h => ?_) <;> conv => whnf)
      | (refine SEx.mk _ (by first | exact awake_pure | exact c1) ?_; conv => whnf)
      | (refine SEx.mk _ (by first | exact rfl | exact ⟨of_decide_eq_true rfl, rfl⟩) ?_; conv => whnf)
      | (refine SAll.mk (fun _ => ?_); conv => whnf)
      | (refine SAnd.mk ⟨by intro c hc; simp at hc; first | (subst hc; rfl) | ((repeat' (rcases hc with rfl | hc)) <;> first | rfl | (subst hc; rfl)), by (simp; first | done | omega), by (simp; first | done | omega)⟩ ?_; conv => whnf)
      | (refine SAnd.mk (by first | exact rfl | kernel_rfl | omega | decide | exact awake_pure | exact c1) ?_; conv => whnf)
      | fail)
    all_goals exact ⟨PLe.refl _⟩
end Go.Proofs.Ab.Tone2
end
section
/- The law of what lies within: the plain laws, and the law. -/
set_option maxRecDepth 100000
set_option linter.unusedVariables false
set_option linter.unusedSimpArgs false
namespace Go.Proofs.Ab.Tone2
open Go Go.RowKit Go.Proofs.Ab Go.Proofs.Ab.Tone
theorem step_mid {t n lag : Int} (hl : 1 ≤ lag) : min n t ≤ n + (t - n) / lag ∧ n + (t - n) / lag ≤ max n t := by
  rcases Int.le_total n t with h | h
  · have h1 : 0 ≤ (t - n) / lag := Int.ediv_nonneg (by omega) (by omega)
    have h2 : (t - n) / lag ≤ t - n := Int.ediv_le_self _ (by omega)
    omega
  · have h1 : (t - n) / lag ≤ 0 := Int.ediv_nonpos_of_nonpos_of_neg (by omega) (by omega) |> fun h => h
    have h2 : t - n ≤ (t - n) / lag := by
      refine Int.le_ediv_of_mul_le (by omega) ?_
      have := Int.mul_le_mul_of_nonpos_left (a := t - n) (b := lag) (c := 1) (by omega) (by omega)
      omega
    omega
theorem shown_scale {r : Rx} (hr : RxOk r) {x d : Int} : shownI r (x * 1000) (1000 * d) = shownI r x d := by
  have e1 : 2 * (x * 1000) * r.scale + 1000 * d = 1000 * (2 * x * r.scale + d) := by grind
  have e2 : 2 * (1000 * d) = 1000 * (2 * d) := by grind
  unfold shownI
  rw [e1, e2, Int.mul_ediv_mul_of_pos _ _ (by decide)]
theorem left_mid {r : Rx} {s : Sg} (hr : RxOk r) (hv : Ok s) {a b c : Int} (h1 : a ≤ b) (h2 : b ≤ c) : min (leftI r s a) (leftI r s c) ≤ leftI r s b ∧ leftI r s b ≤ max (leftI r s a) (leftI r s c) := by
  have hq := hv.sq_pos
  have hm : ∀ {x y : Int}, x ≤ y → shownI r x (1000 * sq s.c) ≤ shownI r y (1000 * sq s.c) := fun h => shownI_mono hr (by omega) h
  unfold leftI
  rcases Int.le_total 0 (dif s) with h | h
  · have e1 := hm (Int.mul_le_mul_of_nonneg_left (show 1000 - b ≤ 1000 - a by omega) h)
    have e2 := hm (Int.mul_le_mul_of_nonneg_left (show 1000 - c ≤ 1000 - b by omega) h)
    omega
  · have e1 := hm (Int.mul_le_mul_of_nonpos_left h (show 1000 - b ≤ 1000 - a by omega))
    have e2 := hm (Int.mul_le_mul_of_nonpos_left h (show 1000 - c ≤ 1000 - b by omega))
    omega
theorem by_mono {s : Sg} {a b : Int} (h0 : 0 ≤ a) (h : a ≤ b) : 0 ≤ byI s a ∧ byI s a ≤ byI s b := by
  unfold byI absI
  have e : 0 ≤ max s.c.re (0 - s.c.re) + max s.c.im (0 - s.c.im) := by omega
  exact ⟨Int.mul_nonneg (by omega) e, Int.mul_le_mul_of_nonneg_right (by omega) e⟩
theorem tdiv_b {o z : Int} (h1 : -128 ≤ o ∧ o ≤ 127) (h2 : 0 ≤ z ∧ z ≤ 255) : -z ≤ (o * z).tdiv 128 ∧ (o * z).tdiv 128 ≤ z ∧ (o * z).natAbs ≤ 128 * 255 := by
  have e : (o * z).natAbs ≤ 128 * z.natAbs := mulb (by omega) (Nat.le_refl _)
  have e1 : ((o * z).tdiv 128).natAbs = (o * z).natAbs / 128 := Int.natAbs_tdiv ..
  have e2 : (o * z).natAbs / 128 ≤ z.natAbs := by omega
  refine ⟨by omega, by omega, by omega⟩
theorem sum_by {c p q z : Int} (h : (p - q).natAbs ≤ 2 * z.natAbs) : ((p - q) * c).natAbs ≤ 2 * z.natAbs * c.natAbs := mulb h (Nat.le_refl _)
theorem absI_eq (x : Int) : absI x = (x.natAbs : Int) := by unfold absI; omega
theorem told_ok {m : Int} {r : Rx} {s : Sg} (hr : RxOk r) (hv : Ok s) : APure (C m) 39 [.agg (xc r), .agg (sc s)] (.tup [I (toldI r s), St (flagB r s), I 0]) := by
  have h := up (m := m) (Told_pure r s)
  have h0 : toldE r s = 0 := toldE_zero.2 ⟨hr, hv⟩
  rwa [if_pos h0, if_pos h0, h0] at h
theorem lost_ok {m : Int} {r : Rx} {s : Sg} {a b : Int} (hr : RxOk r) (hv : Ok s) (h1 : 0 ≤ a) (h2 : a ≤ b) (h3 : b ≤ 1000) : APure (C m) 52 [.agg (xc r), .agg (sc s), .agg [I a, I b]] (.tup [.agg (ic ⟨min (leftI r s a) (leftI r s b), max (leftI r s a) (leftI r s b)⟩), I 0]) := by
  have h := up (m := m) (Lost_pure r s a b)
  have h0 : lostE r s a b = 0 := lostE_zero.2 ⟨hr, hv, ⟨h1, by omega⟩, ⟨by omega, h3⟩, h2⟩
  unfold lostV at h
  rwa [if_pos h0, h0] at h
theorem noisy_ok {m : Int} {r : Rx} {s : Sg} {n : Int} (hr : RxOk r) (hv : Ok s) (h1 : 0 ≤ n) (h2 : n ≤ 1000) : APure (C m) 53 [.agg (xc r), .agg (sc s), I n] (.tup [.agg (ic ⟨shownI r (dif s - byI s n) (sq s.c), shownI r (dif s + byI s n) (sq s.c)⟩), I 0]) := by
  have h := up (m := m) (Noisy_pure r s n)
  have h0 : noisyE r s n = 0 := noisyE_zero.2 ⟨hr, hv, h1, h2⟩
  have hb := (by_mono (s := s) h1 (Int.le_refl n)).1
  have hm := shownI_mono hr (x := dif s - byI s n) (y := dif s + byI s n) hv.sq_pos (by omega)
  unfold noisyV at h
  rwa [if_pos h0, h0, Int.min_eq_left hm, Int.max_eq_right hm] at h
theorem tmod_pos {x k : Int} (hx : 0 ≤ x) (hk : 0 < k) : 0 ≤ x.tmod k ∧ x.tmod k < k := ⟨Int.tmod_nonneg _ hx, Int.tmod_lt_of_pos x hk⟩
theorem ToneWithin_ok {m : Int} (r : Rx) (s : Sg) (lagN startN band l0 l1 l2 nz o0 o1 o2 o3 : Int) (hr : RxOk r) (hv : Ok s) (hn : nearP ⟨⟨1, 0⟩, s.l, s.h⟩ 8000)
    (b0 : 0 ≤ lagN ∧ lagN ≤ 255) (b1 : 0 ≤ startN ∧ startN ≤ 65535) (b2 : 0 ≤ l0 ∧ l0 ≤ 65535) (b3 : 0 ≤ l1 ∧ l1 ≤ 65535) (b4 : 0 ≤ l2 ∧ l2 ≤ 65535) (b5 : 0 ≤ nz ∧ nz ≤ 255)
    (d0 : -128 ≤ o0 ∧ o0 ≤ 127) (d1 : -128 ≤ o1 ∧ o1 ≤ 127) (d2 : -128 ≤ o2 ∧ o2 ≤ 127) (d3 : -128 ≤ o3 ∧ o3 ≤ 127) :
    APure (C m) 12 [.agg (xc r), .agg (sc s), .agg (hearC lagN startN band l0 l1 l2 nz o0 o1 o2 o3)] (Bo true) := by
  have hq := hv.sq_pos
  have hfu := hr.f
  have q1 : wrapK IntKind.i64 lagN = lagN := w64 (by omega)
  have q2 : wrapK IntKind.i64 startN = startN := w64 (by omega)
  have q3 : wrapK IntKind.i64 l0 = l0 := w64 (by omega)
  have q4 : wrapK IntKind.i64 l1 = l1 := w64 (by omega)
  have q5 : wrapK IntKind.i64 l2 = l2 := w64 (by omega)
  have q6 : wrapK IntKind.i64 nz = nz := w64 (by omega)
  have m1 := tmod_pos b0.1 (k := 16) (by decide)
  have y1 : wrapK IntKind.i64 (wrapK IntKind.i64 (2 * r.full) + 1) = 2 * r.full + 1 := by rw [show wrapK IntKind.i64 (2 * r.full) = 2 * r.full from w64 (by omega)]; exact w64 (by omega)
  have m2 := tmod_pos b1.1 (k := 2 * r.full + 1) (by omega)
  have m3 := tmod_pos b2.1 (k := 1001) (by decide)
  generalize hlo : l0.tmod 1001 = lo at m3
  have y2 : wrapK IntKind.i64 (1001 - lo) = 1001 - lo := w64 (by omega)
  have m4 := tmod_pos b3.1 (k := 1001 - lo) (by omega)
  generalize hhi : lo + l1.tmod (1001 - lo) = hi
  have y3 : wrapK IntKind.i64 (wrapK IntKind.i64 (hi - lo) + 1) = hi - lo + 1 := by rw [show wrapK IntKind.i64 (hi - lo) = hi - lo from w64 (by omega)]; exact w64 (by omega)
  have m5 := tmod_pos b4.1 (k := hi - lo + 1) (by omega)
  generalize hmi : lo + l2.tmod (hi - lo + 1) = mi
  generalize hlag : 1 + lagN.tmod 16 = lag
  generalize hst : startN.tmod (2 * r.full + 1) - r.full = start
  have e0 := tdiv_b d0 b5; have e1 := tdiv_b d1 b5; have e2 := tdiv_b d2 b5; have e3 := tdiv_b d3 b5
  have hn' := hn.2
  have okT : Ok ⟨s.c, ⟨s.l.re + (o0 * nz).tdiv 128, s.l.im + (o1 * nz).tdiv 128⟩, ⟨s.h.re + (o2 * nz).tdiv 128, s.h.im + (o3 * nz).tdiv 128⟩⟩ := by
    unfold near1 at hn'
    simp only at hn'
    exact ⟨⟨hv.fit.c, ⟨by simp only; omega, by simp only; omega⟩, ⟨by simp only; omega, by simp only; omega⟩⟩, hv.nz⟩
  have nb := toldI_bound hr s
  have tn : -r.full ≤ toldI r s ∧ toldI r s ≤ r.full := by
    unfold toldI
    split
    · unfold shownI; omega
    · omega
  have cF := up (m := m) (Followed_pure r (by omega) lag start [s, s, s] (by simp))
  have hF0 : followE r lag start [s, s, s] = 0 := followE_zero.2 ⟨hr, by omega, by omega, checkL_zero.2 ⟨⟨by simp, by simp⟩, fun x hx => by simp at hx; subst hx; exact hv⟩⟩
  unfold followV at cF
  rw [if_pos hF0, hF0] at cF
  have hst1 : flagB r s ≠ bNone → ∀ n, stepN r lag n s = n := fun h n => by unfold stepN; rw [if_neg h]
  have hst0 : flagB r s = bNone → ∀ n, min n (toldI r s) ≤ stepN r lag n s ∧ stepN r lag n s ≤ max n (toldI r s) := fun h n => by
    unfold stepN
    rw [if_pos h]
    exact step_mid (by omega)
  have bm := by_mono (s := s) b5.1 (Int.le_refl nz)
  have bm2 := by_mono (s := s) b5.1 (show nz ≤ 2 * nz by omega)
  have mono : ∀ {x y : Int}, x ≤ y → shownI r x (sq s.c) ≤ shownI r y (sq s.c) := fun h => shownI_mono hr hq h
  have hdt : dif s - byI s nz ≤ dif (⟨s.c, ⟨s.l.re + (o0 * nz).tdiv 128, s.l.im + (o1 * nz).tdiv 128⟩, ⟨s.h.re + (o2 * nz).tdiv 128, s.h.im + (o3 * nz).tdiv 128⟩⟩ : Sg) ∧ dif (⟨s.c, ⟨s.l.re + (o0 * nz).tdiv 128, s.l.im + (o1 * nz).tdiv 128⟩, ⟨s.h.re + (o2 * nz).tdiv 128, s.h.im + (o3 * nz).tdiv 128⟩⟩ : Sg) ≤ dif s + byI s nz := by
    generalize (o0 * nz).tdiv 128 = p0 at *; generalize (o1 * nz).tdiv 128 = p1 at *; generalize (o2 * nz).tdiv 128 = p2 at *; generalize (o3 * nz).tdiv 128 = p3 at *
    have e : dif (⟨s.c, ⟨s.l.re + p0, s.l.im + p1⟩, ⟨s.h.re + p2, s.h.im + p3⟩⟩ : Sg) = dif s + ((p0 - p2) * s.c.re + (p1 - p3) * s.c.im) := by simp only [dif, aga, G.sub]; grind
    have f1 := sum_by (c := s.c.re) (p := p0) (q := p2) (z := nz) (by omega)
    have f2 := sum_by (c := s.c.im) (p := p1) (q := p3) (z := nz) (by omega)
    have eb : byI s nz = ((2 * nz.natAbs * s.c.re.natAbs + 2 * nz.natAbs * s.c.im.natAbs : Nat) : Int) := by
      unfold byI
      rw [absI_eq, absI_eq]
      have : nz = (nz.natAbs : Int) := by omega
      rw [show (2 * nz * ((s.c.re.natAbs : Int) + (s.c.im.natAbs : Int))) = 2 * (nz.natAbs : Int) * ((s.c.re.natAbs : Int) + (s.c.im.natAbs : Int)) by rw [← this], Int.mul_add]
      simp only [Int.natCast_add, Int.natCast_mul]
      rfl
    rw [e, eb]
    omega
  refine ToneWithin_parts (decide (flagB r s ≠ bNone)) r s ⟨s.c, ⟨s.l.re + (o0 * nz).tdiv 128, s.l.im + (o1 * nz).tdiv 128⟩, ⟨s.h.re + (o2 * nz).tdiv 128, s.h.im + (o3 * nz).tdiv 128⟩⟩ lagN startN band l0 l1 l2 nz o0 o1 o2 o3 lag start lo hi mi nz (2 * nz) (toldI r s)
    (stepN r lag start s) (stepN r lag (stepN r lag start s) s) (stepN r lag (stepN r lag (stepN r lag start s) s) s) _ _ _ _ _ (flagB r s) _ ⟨min (leftI r s lo) (leftI r s hi), max (leftI r s lo) (leftI r s hi)⟩ ⟨min (leftI r s mi) (leftI r s mi), max (leftI r s mi) (leftI r s mi)⟩ ⟨min (leftI r s 0) (leftI r s 0), max (leftI r s 0) (leftI r s 0)⟩ _ _
    ?_ (by rw [y1]; omega) ?_ (by rw [q3]; exact hlo) (by rw [y2]; omega) ?_ (by rw [y3]; omega) ?_ q6 (w64 (by omega))
    ?_ ?_ ?_ (told_ok hr hv) (by rw [show wrapK IntKind.i64 (0 - r.full) = 0 - r.full from w64 (by omega)]; omega) tn.2 ?_ (fun t w => neq_string t _ _ w) ?_ (fun t w => neq_string t _ _ w) cF ?_ ?_
    (lost_ok hr hv (by omega) (by omega) (by omega)) (lost_ok hr hv (by omega) (by omega) (by omega)) (lost_ok hr hv (by omega) (by omega) (by omega)) (noisy_ok hr hv (by omega) (by omega)) (noisy_ok hr hv (by omega) (by omega))
    (by simp only; omega) (by simp only; omega) ?_ ?_ (by simp only; omega) ?_ ?_ ?_ ?_ (off0 _ _ _ _ _ _ _ _ _ _ _ _ ?_ ?_) (off1 _ _ _ _ _ _ _ _ _ _ _ _ ?_ ?_) (off2 _ _ _ _ _ _ _ _ _ _ _ _ ?_ ?_) (off3 _ _ _ _ _ _ _ _ _ _ _ _ ?_ ?_) ?_ ?_ rfl (told_ok hr okT) ?_
  · rw [q1, hlag]; exact w64 (by omega)
  · rw [q2, y1, hst]; exact w64 (by omega)
  · rw [q4, y2, hhi]; exact w64 (by omega)
  · rw [q5, y3, hmi]; exact w64 (by omega)
  · have := up (m := m) (refReceiver_pure' r); rwa [rxE_zero.2 hr] at this
  · have := near_pure (m := m) ⟨⟨1, 0⟩, s.l, s.h⟩ 8000 (by decide) (by decide); rwa [decide_eq_true hn] at this
  · have := up (m := m) (refCheckSignal_pure' s); rwa [checkE_zero.2 hv] at this
  · intro h
    have h' : flagB r s ≠ bNone := by simpa using h
    unfold toldI
    rw [if_neg h']
  · intro t w
    have := eql_string t (flagB r s) bNone w
    by_cases h : flagB r s = bNone
    · simpa [h] using this
    · simpa [h] using this
  · intro h
    have h' : flagB r s ≠ bNone := by simpa using h
    simp only [hst1 h']
    exact ⟨trivial, trivial, trivial⟩
  · intro h
    have h' : flagB r s = bNone := by simpa using h
    have g1 := hst0 h' start
    have g2 := hst0 h' (stepN r lag start s)
    have g3 := hst0 h' (stepN r lag (stepN r lag start s) s)
    omega
  · exact (by have := left_mid hr hv (a := lo) (b := mi) (c := hi) (by omega) (by omega); simp only; omega)
  · exact (by have := left_mid hr hv (a := lo) (b := mi) (c := hi) (by omega) (by omega); simp only; omega)
  · exact mono (by omega)
  · exact mono (by omega)
  · exact mono (by omega)
  · intro h
    have h' : flagB r s = bNone := by simpa using h
    have e : toldI r s = shownI r (dif s) (sq s.c) := by unfold toldI; rw [if_pos h']
    have e4 : leftI r s 0 = shownI r (dif s) (sq s.c) := by unfold leftI; exact shown_scale hr
    have g1 := mono (show dif s - byI s nz ≤ dif s by omega)
    have g2 := mono (show dif s ≤ dif s + byI s nz by omega)
    simp only
    omega
  · rw [show wrapK IntKind.i64 o0 = o0 from w64 (by omega)]; exact w64 (by omega)
  · exact w64 (by omega)
  · rw [show wrapK IntKind.i64 o1 = o1 from w64 (by omega)]; exact w64 (by omega)
  · exact w64 (by omega)
  · rw [show wrapK IntKind.i64 o2 = o2 from w64 (by omega)]; exact w64 (by omega)
  · exact w64 (by omega)
  · rw [show wrapK IntKind.i64 o3 = o3 from w64 (by omega)]; exact w64 (by omega)
  · exact w64 (by omega)
  · have := up (m := m) (refPlus_pure s.l.re s.l.im ((o0 * nz).tdiv 128) ((o1 * nz).tdiv 128))
    unfold near1 at hn'
    simp only at hn'
    rwa [wrap_id (by omega) (by omega), wrap_id (by omega) (by omega)] at this
  · have := up (m := m) (refPlus_pure s.h.re s.h.im ((o2 * nz).tdiv 128) ((o3 * nz).tdiv 128))
    unfold near1 at hn'
    simp only at hn'
    rwa [wrap_id (by omega) (by omega), wrap_id (by omega) (by omega)] at this
  · intro h
    have e : toldI r (⟨s.c, ⟨s.l.re + (o0 * nz).tdiv 128, s.l.im + (o1 * nz).tdiv 128⟩, ⟨s.h.re + (o2 * nz).tdiv 128, s.h.im + (o3 * nz).tdiv 128⟩⟩ : Sg) = shownI r (dif (⟨s.c, ⟨s.l.re + (o0 * nz).tdiv 128, s.l.im + (o1 * nz).tdiv 128⟩, ⟨s.h.re + (o2 * nz).tdiv 128, s.h.im + (o3 * nz).tdiv 128⟩⟩ : Sg)) (sq s.c) := by
      unfold toldI
      rw [if_pos h]
    rw [e]
    exact ⟨mono hdt.1, mono hdt.2⟩
theorem ToneWithin_pure {m : Int} (r : Rx) (s : Sg) (lagN startN band l0 l1 l2 nz o0 o1 o2 o3 : Int)
    (b0 : 0 ≤ lagN ∧ lagN ≤ 255) (b1 : 0 ≤ startN ∧ startN ≤ 65535) (b2 : 0 ≤ l0 ∧ l0 ≤ 65535) (b3 : 0 ≤ l1 ∧ l1 ≤ 65535) (b4 : 0 ≤ l2 ∧ l2 ≤ 65535) (b5 : 0 ≤ nz ∧ nz ≤ 255)
    (d0 : -128 ≤ o0 ∧ o0 ≤ 127) (d1 : -128 ≤ o1 ∧ o1 ≤ 127) (d2 : -128 ≤ o2 ∧ o2 ≤ 127) (d3 : -128 ≤ o3 ∧ o3 ≤ 127) :
    APure (C m) 12 [.agg (xc r), .agg (sc s), .agg (hearC lagN startN band l0 l1 l2 nz o0 o1 o2 o3)] (Bo true) := by
  have c1 := up (m := m) (refReceiver_pure' r)
  have c2 := near_pure (m := m) ⟨⟨1, 0⟩, s.l, s.h⟩ 8000 (by decide) (by decide)
  have c3 := up (m := m) (refCheckSignal_pure' s)
  by_cases h1 : rxE r = 0
  · by_cases h2 : nearP ⟨⟨1, 0⟩, s.l, s.h⟩ 8000
    · by_cases h3 : checkE s = 0
      · exact ToneWithin_ok r s lagN startN band l0 l1 l2 nz o0 o1 o2 o3 (rxE_zero.1 h1) (checkE_zero.1 h3) h2 b0 b1 b2 b3 b4 b5 d0 d1 d2 d3
      · rw [h1] at c1
        rw [decide_eq_true h2] at c2
        refine APure.of_body good [] (fn := Tryz.f12) (by kernel_rfl) (by kernel_rfl) rfl rfl (by kernel_rfl) rfl (by kernel_rfl) ?_
        conv => whnf
        repeat' (first
          | (refine codeK_sound good (mu := []) ?_; conv => whnf)
          | ((first | rw [wl0] | rw [wl1] | rw [wl2] | rw [wl3] | rw [wl4] | rw [wl5]); conv => whnf)
          | (refine SBool.mk (fun _ => ?_) (fun h => absurd (of_decide_eq_true rfl) h); conv => whnf)
          | (refine SBool.mk (fun h => absurd h (of_decide_eq_false rfl)) (fun _ => ?_); conv => whnf)
          | (refine SBool.mk (fun h => ?_) (fun h => ?_) <;> conv => whnf)
          | (refine SEx.mk _ (by first | exact awake_pure | exact c1 | exact c2 | exact c3 | exact at_pure _ _) ?_; conv => whnf)
          | (refine SEx.mk _ (by first | exact rfl | exact ⟨of_decide_eq_true rfl, rfl⟩) ?_; conv => whnf)
          | (refine SAll.mk (fun _ => ?_); conv => whnf)
          | (refine SAnd.mk ⟨by intro c hc; simp at hc; first | (subst hc; rfl) | ((repeat' (rcases hc with rfl | hc)) <;> first | rfl | (subst hc; rfl)), by (simp; first | done | omega), by (simp; first | done | omega)⟩ ?_; conv => whnf)
          | (refine SAnd.mk (by first | exact rfl | kernel_rfl | omega | decide | exact awake_pure | exact c1 | exact c2 | exact c3 | exact at_pure _ _) ?_; conv => whnf)
          | fail)
        all_goals first | exact ⟨PLe.refl _⟩ | exact absurd (by assumption) h3
    · rw [h1] at c1
      rw [decide_eq_false h2] at c2
      refine APure.of_body good [] (fn := Tryz.f12) (by kernel_rfl) (by kernel_rfl) rfl rfl (by kernel_rfl) rfl (by kernel_rfl) ?_
      conv => whnf
      repeat' (first
        | (refine codeK_sound good (mu := []) ?_; conv => whnf)
        | ((first | rw [wl0] | rw [wl1] | rw [wl2] | rw [wl3] | rw [wl4] | rw [wl5]); conv => whnf)
        | (refine SBool.mk (fun _ => ?_) (fun h => absurd (of_decide_eq_true rfl) h); conv => whnf)
        | (refine SBool.mk (fun h => absurd h (of_decide_eq_false rfl)) (fun _ => ?_); conv => whnf)
        | (refine SBool.mk (fun h => ?_) (fun h => ?_) <;> conv => whnf)
        | (refine SEx.mk _ (by first | exact awake_pure | exact c1 | exact c2 | exact at_pure _ _) ?_; conv => whnf)
        | (refine SEx.mk _ (by first | exact rfl | exact ⟨of_decide_eq_true rfl, rfl⟩) ?_; conv => whnf)
        | (refine SAll.mk (fun _ => ?_); conv => whnf)
        | (refine SAnd.mk ⟨by intro c hc; simp at hc; first | (subst hc; rfl) | ((repeat' (rcases hc with rfl | hc)) <;> first | rfl | (subst hc; rfl)), by (simp; first | done | omega), by (simp; first | done | omega)⟩ ?_; conv => whnf)
        | (refine SAnd.mk (by first | exact rfl | kernel_rfl | omega | decide | exact awake_pure | exact c1 | exact c2 | exact at_pure _ _) ?_; conv => whnf)
        | fail)
      all_goals exact ⟨PLe.refl _⟩
  · skip
    refine APure.of_body good [] (fn := Tryz.f12) (by kernel_rfl) (by kernel_rfl) rfl rfl (by kernel_rfl) rfl (by kernel_rfl) ?_
    conv => whnf
    repeat' (first
      | (refine codeK_sound good (mu := []) ?_; conv => whnf)
      | ((first | rw [wl0] | rw [wl1] | rw [wl2] | rw [wl3] | rw [wl4] | rw [wl5]); conv => whnf)
      | (refine SBool.mk (fun _ => ?_) (fun h => absurd (of_decide_eq_true rfl) h); conv => whnf)
      | (refine SBool.mk (fun h => absurd h (of_decide_eq_false rfl)) (fun _ => ?_); conv => whnf)
      | (refine SBool.mk (fun h => ?_) (fun h => ?_) <;> conv => whnf)
      | (refine SEx.mk _ (by first | exact awake_pure | exact c1) ?_; conv => whnf)
      | (refine SEx.mk _ (by first | exact rfl | exact ⟨of_decide_eq_true rfl, rfl⟩) ?_; conv => whnf)
      | (refine SAll.mk (fun _ => ?_); conv => whnf)
      | (refine SAnd.mk ⟨by intro c hc; simp at hc; first | (subst hc; rfl) | ((repeat' (rcases hc with rfl | hc)) <;> first | rfl | (subst hc; rfl)), by (simp; first | done | omega), by (simp; first | done | omega)⟩ ?_; conv => whnf)
      | (refine SAnd.mk (by first | exact rfl | kernel_rfl | omega | decide | exact awake_pure | exact c1) ?_; conv => whnf)
      | fail)
    all_goals first | exact ⟨PLe.refl _⟩ | exact absurd (by assumption) h1
end Go.Proofs.Ab.Tone2
end
section
/- More parameters' shapes. -/
set_option maxRecDepth 100000
set_option linter.unusedVariables false
set_option linter.unusedSimpArgs false
namespace Go.Proofs.Ab.Tone2
open Go Go.RowKit Go.Proofs.Ab Go.Proofs.Ab.Tone
theorem fit_four {x : PV} (h : FitP (true, [.int .i64, .int .i64, .int .i64, .int .i64]) x) : ∃ a b : G, x = .agg [I a.re, I a.im, I b.re, I b.im] := by
  obtain ⟨xs, rfl, h⟩ := h
  obtain ⟨c1, xs, rfl, h1, h⟩ := h.uncons
  obtain ⟨c2, xs, rfl, h2, h⟩ := h.uncons
  obtain ⟨c3, xs, rfl, h3, h⟩ := h.uncons
  obtain ⟨c4, xs, rfl, h4, h⟩ := h.uncons
  obtain rfl := h.unnil
  obtain ⟨n1, rfl, _⟩ := h1.int_inv
  obtain ⟨n2, rfl, _⟩ := h2.int_inv
  obtain ⟨n3, rfl, _⟩ := h3.int_inv
  obtain ⟨n4, rfl, _⟩ := h4.int_inv
  exact ⟨⟨n1, n2⟩, ⟨n3, n4⟩, rfl⟩
theorem wf_of {k : IntKind} {n : Int} (h : (Lit.int k n).wf = true) : k.min ≤ n ∧ n ≤ k.max := by
  have h' : (decide (k.min ≤ n) && decide (n ≤ k.max)) = true := h
  rwa [Bool.and_eq_true, decide_eq_true_eq, decide_eq_true_eq] at h'
theorem in8 {n : Int} (h : (Lit.int .i8 n).wf = true) : -128 ≤ n ∧ n ≤ 127 := wf_of h
theorem inU8 {n : Int} (h : (Lit.int .u8 n).wf = true) : 0 ≤ n ∧ n ≤ 255 := wf_of h
theorem inU16 {n : Int} (h : (Lit.int .u16 n).wf = true) : 0 ≤ n ∧ n ≤ 65535 := wf_of h
theorem fit_three8 {x : PV} (h : FitP (true, [.int .i8, .int .i8, .int .i8]) x) : ∃ a b c : Int, x = .agg [.v (.int .i8 a), .v (.int .i8 b), .v (.int .i8 c)] ∧ (-128 ≤ a ∧ a ≤ 127) ∧ (-128 ≤ b ∧ b ≤ 127) ∧ (-128 ≤ c ∧ c ≤ 127) := by
  obtain ⟨xs, rfl, h⟩ := h
  obtain ⟨c1, xs, rfl, h1, h⟩ := h.uncons
  obtain ⟨c2, xs, rfl, h2, h⟩ := h.uncons
  obtain ⟨c3, xs, rfl, h3, h⟩ := h.uncons
  obtain rfl := h.unnil
  obtain ⟨n1, rfl, w1⟩ := h1.int_inv
  obtain ⟨n2, rfl, w2⟩ := h2.int_inv
  obtain ⟨n3, rfl, w3⟩ := h3.int_inv
  exact ⟨n1, n2, n3, rfl, in8 w1, in8 w2, in8 w3⟩
theorem fit_gauss {x : PV} (h : FitP (true, [.int .i64, .int .i64]) x) : ∃ a : G, x = .agg [I a.re, I a.im] := by
  obtain ⟨a, b, rfl⟩ := fit_two h
  exact ⟨⟨a, b⟩, rfl⟩
theorem fit_str {x : PV} (h : FitP (false, [.str]) x) : ∃ s : ByteArray, x = St s ∧ s.size ≤ maxLen := by
  obtain ⟨c1, xs, e, h1, _⟩ := FitL.uncons h
  cases e
  obtain ⟨s, rfl, w⟩ := h1.str_inv
  exact ⟨s, rfl, w⟩
end Go.Proofs.Ab.Tone2
end
section
/- One more parameter's shape. -/
set_option maxRecDepth 100000
set_option linter.unusedVariables false
set_option linter.unusedSimpArgs false
namespace Go.Proofs.Ab.Tone2
open Go Go.RowKit Go.Proofs.Ab Go.Proofs.Ab.Tone
abbrev hearSh : List Sh := [.int .u8, .int .u16, .int .u16, .int .u16, .int .u16, .int .u16, .int .u8, .int .i8, .int .i8, .int .i8, .int .i8]
theorem fit_hear {x : PV} (h : FitP (true, hearSh) x) : ∃ a b c d e f g o0 o1 o2 o3 : Int, x = .agg (hearC a b c d e f g o0 o1 o2 o3) ∧ (0 ≤ a ∧ a ≤ 255) ∧ (0 ≤ b ∧ b ≤ 65535) ∧ (0 ≤ d ∧ d ≤ 65535) ∧ (0 ≤ e ∧ e ≤ 65535) ∧ (0 ≤ f ∧ f ≤ 65535) ∧ (0 ≤ g ∧ g ≤ 255) ∧
    (-128 ≤ o0 ∧ o0 ≤ 127) ∧ (-128 ≤ o1 ∧ o1 ≤ 127) ∧ (-128 ≤ o2 ∧ o2 ≤ 127) ∧ (-128 ≤ o3 ∧ o3 ≤ 127) := by
  obtain ⟨xs, rfl, h⟩ := h
  obtain ⟨c1, xs, rfl, h1, h⟩ := h.uncons
  obtain ⟨c2, xs, rfl, h2, h⟩ := h.uncons
  obtain ⟨c3, xs, rfl, h3, h⟩ := h.uncons
  obtain ⟨c4, xs, rfl, h4, h⟩ := h.uncons
  obtain ⟨c5, xs, rfl, h5, h⟩ := h.uncons
  obtain ⟨c6, xs, rfl, h6, h⟩ := h.uncons
  obtain ⟨c7, xs, rfl, h7, h⟩ := h.uncons
  obtain ⟨c8, xs, rfl, h8, h⟩ := h.uncons
  obtain ⟨c9, xs, rfl, h9, h⟩ := h.uncons
  obtain ⟨c10, xs, rfl, h10, h⟩ := h.uncons
  obtain ⟨c11, xs, rfl, h11, h⟩ := h.uncons
  obtain rfl := h.unnil
  obtain ⟨n1, rfl, w1⟩ := h1.int_inv
  obtain ⟨n2, rfl, w2⟩ := h2.int_inv
  obtain ⟨n3, rfl, w3⟩ := h3.int_inv
  obtain ⟨n4, rfl, w4⟩ := h4.int_inv
  obtain ⟨n5, rfl, w5⟩ := h5.int_inv
  obtain ⟨n6, rfl, w6⟩ := h6.int_inv
  obtain ⟨n7, rfl, w7⟩ := h7.int_inv
  obtain ⟨n8, rfl, w8⟩ := h8.int_inv
  obtain ⟨n9, rfl, w9⟩ := h9.int_inv
  obtain ⟨n10, rfl, w10⟩ := h10.int_inv
  obtain ⟨n11, rfl, w11⟩ := h11.int_inv
  exact ⟨n1, n2, n3, n4, n5, n6, n7, n8, n9, n10, n11, rfl, inU8 w1, inU16 w2, inU16 w4, inU16 w5, inU16 w6, inU8 w7, in8 w8, in8 w9, in8 w10, in8 w11⟩
end Go.Proofs.Ab.Tone2
end
section
/- ToneWithin: what a receiver shows lies within its full scale, what it follows within what was shown, losses and errors within their intervals: the law returns true, whatever it is handed. (Invalid receivers and signals, and greater sidebands, are left out by the law itself; the listed variables are as the program's text lays them.) -/
set_option maxRecDepth 100000
set_option linter.unusedVariables false
set_option linter.unusedSimpArgs false
namespace Go.Proofs.YtkphoimochkndaaGreatDoor
open Go Go.RowKit Go.Proofs.Ab Go.Proofs.Ab.Tone Go.Proofs.Ab.Tone2
theorem toneWithin_lifted (os : Os) (started : os.Started) (H : Type) (enc : TypeId × Value → H) :
    ReturnsInHanded {} Tryz.checked os 12 .any (fun w args => (Rows.toneWithinSpec.pre enc Tryz.prog Tryz.f12 [] false w args ∧ laidMetH Tryz.prog listed w) ∧ sizedMet enc Tryz.prog Tryz.f12 (OpenSpec.ofChange Rows.toneWithinSpec) false w args)
      (Rows.toneWithinSpec.post enc Tryz.prog Tryz.f12 false true false false) := by
  refine lifted_of started (by as_aux_lemma => kernel_rfl) Tryz.func12 (ss := [(true, fiveSh), (true, sigSh), (true, hearSh)])
    (witness #[.agg #[.int .i64 0, .int .i64 0, .int .i64 0, .int .i64 0, .int .i64 0], .agg #[.int .i64 0, .int .i64 0, .int .i64 0, .int .i64 0, .int .i64 0, .int .i64 0], .agg #[.int .u8 0, .int .u16 0, .int .u16 0, .int .u16 0, .int .u16 0, .int .u16 0, .int .u8 0, .int .i8 0, .int .i8 0, .int .i8 0, .int .i8 0]] (by as_aux_lemma => kernel_rfl) (by as_aux_lemma => kernel_rfl) (by as_aux_lemma => kernel_rfl) (World.shaped_of_ZipB (by as_aux_lemma => kernel_rfl) (by as_aux_lemma => kernel_rfl)) (laidMet_laidAll _ (by as_aux_lemma => kernel_rfl) (by as_aux_lemma => kernel_rfl)))
    ?_ (by as_aux_lemma => kernel_rfl) (by as_aux_lemma => kernel_rfl) rfl ?_ ?_
  · rw [Tryz.params12]
    intro t ht
    have hall : ([57, 25, 136].all fun u => Tryz.prog.readableRec u && decide (u < Tryz.prog.types.size)) = true := by as_aux_lemma => kernel_rfl
    have := List.all_eq_true.1 hall t (by simpa using ht)
    rw [Bool.and_eq_true, decide_eq_true_eq] at this
    exact this
  · rw [Tryz.params12]
    intro ds hd
    match ds, hd with
    | [d0, d1, d2], _ => exact ⟨rfl, rfl, rfl⟩
  · intro m xs h
    obtain ⟨x0, xs, rfl, h0, h⟩ := h.uncons
    obtain ⟨x1, xs, rfl, h1, h⟩ := h.uncons
    obtain ⟨x2, xs, rfl, h2, h⟩ := h.uncons
    obtain rfl := h.unnil
    obtain ⟨n1, n2, n3, n4, n5, rfl, _⟩ := fit_five h0
    obtain ⟨s, rfl⟩ := fit_sig h1
    obtain ⟨a, b, c, d, e, f, g, o0, o1, o2, o3, rfl, w1, w2, w3, w4, w5, w6, w7, w8, w9, w10⟩ := fit_hear h2
    exact ToneWithin_pure ⟨n1, n2, n3, n4, n5⟩ s a b c d e f g o0 o1 o2 o3 w1 w2 w3 w4 w5 w6 w7 w8 w9 w10
set_option maxHeartbeats 40000000 in
theorem toneWithin_facts : joinedFacts Tryz.pinned.checked.prog 12 Tryz.f12 Rows.toneWithinSpec Rows.toneWithinRow = true := by
  unfold joinedFacts
  simp only [Bool.and_eq_true]
  repeat' apply And.intro
  all_goals as_aux_lemma => kernel_rfl
theorem toneWithin_row : Rows.ToneWithinSaid :=
  OpenClaim.holds_of_wide 12 Tryz.f12 rfl rfl rfl rfl rfl rfl rfl ⟨rfl, rfl, rfl, rfl, rfl⟩ rfl rfl rfl rfl rfl (by as_aux_lemma => kernel_rfl) Tryz.func12 toneWithin_facts
    (of_decide_eq_true (by as_aux_lemma => kernel_rfl)) (by as_aux_lemma => unfold Func.isWrapper; first | (rw [if_pos (by decide +kernel)]; kernel_rfl) | (rw [if_neg (by decide +kernel)]; exact ⟨rfl, rfl⟩))
    (fun os started H enc _ => toneWithin_lifted os started H enc)
theorem toneWithin_named : Tryz.prog.funcNamed "glideslope/glideslopelaw02.ToneWithin" = some 12 := by kernel_rfl
theorem toneWithin_holds : Rows.ToneWithinCardSaid :=
  Claim7.holds_tied_plain_at .later [] [.data, .data, .data, .data, .data, .pinned] true (true, "6883a40308061e1e56e57a0a897ad96630f21489591d51bcd46258b6daf0fcd9") false toneWithin_row (fun _ h => by cases h) (by as_aux_lemma => kernel_rfl) (fun _ h => by cases h) toneWithin_row_tie rfl ⟨rfl, rfl⟩ (by as_aux_lemma => kernel_rfl) rfl
    (fun f fn hf hfn => by
      obtain rfl : f = 12 := Option.some.inj (toneWithin_named.symm.trans hf) |>.symm
      obtain rfl : fn = Tryz.f12 := (Option.some.inj (Tryz.func12.symm.trans hfn)).symm
      exact ⟨by as_aux_lemma => kernel_rfl, fun j t ht => by
        rw [Tryz.params12] at ht
        have hm : t ∈ [57, 25, 136] := by simpa using Array.mem_of_getElem? ht
        have hall : ([57, 25, 136].all fun u => !Tryz.prog.wantsStandIn u) = true := by as_aux_lemma => kernel_rfl
        exact (show Tryz.prog.wantsStandIn t = false by simpa using List.all_eq_true.1 hall t hm)⟩)
    (by as_aux_lemma => kernel_rfl)
#print axioms toneWithin_holds
end Go.Proofs.YtkphoimochkndaaGreatDoor
end
