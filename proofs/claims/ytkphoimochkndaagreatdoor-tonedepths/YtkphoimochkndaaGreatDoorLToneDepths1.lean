/- The proof of ToneDepths (see the last theorem): for every input that can be read the law returns true; the listed package-level variables are as the program's text lays them. -/
import Derived.Test.YtkphoimochkndaaGreatDoorK6
section
/- The law of the depths. -/
set_option maxRecDepth 100000
set_option linter.unusedVariables false
set_option linter.unusedSimpArgs false
namespace Go.Proofs.Ab.Tone2
open Go Go.RowKit Go.Proofs.Ab Go.Proofs.Ab.Tone
theorem eq_ratio_self (a b : Int) : EqAgg Tone.C 28 [I a, I b] [I a, I b] true := by
  have h := eq_ratio a b a b
  have e : decide (a = a ∧ b = b) = true := by simp
  rw [e] at h
  exact h
section
attribute [local irreducible] APure
set_option maxHeartbeats 4000000 in
theorem ToneDepths_pure {m : Int} (s : Sg) : APure (C m) 3 [.agg (sc s)] (Bo true) := by
  have c18 : APure (C m) 18 [.agg (sc s)] (I (checkE s)) := by
    have h := refCheckSignal_pure s
    rw [refCheckE_eq] at h
    exact up h
  have c15 := up (m := m) (Depths_pure s)
  have c16 := up (m := m) (Needle_pure s)
  have c17 := up (m := m) (Sum_pure s)
  have c25 := up (m := m) (CheckSignal_pure s)
  by_cases h0 : checkE s = 0
  · have h := h0
    have hv : Ok s := checkE_zero.1 h
    have hf := hv.fit.mono (n := 1000000) (by decide)
    have b1 := dif_bound hv.fit; have b2 := sq_le hv.fit.c; have b3 := hv.sq_pos
    have b4 := tot_bound hv.fit
    have b5 := aga_bound hv.fit.c hv.fit.l
    have b6 := aga_bound hv.fit.c hv.fit.h
    have c19 := up (m := m) (refSquareS_pure s hf.c)
    have c21 := up (m := m) (refLow_pure s hf)
    have c22 := up (m := m) (refHigh_pure s hf)
    have c23 := up (m := m) (refNeedle_pure s hv)
    have c24 := up (m := m) (refTotal_pure s hv.fit)
    have cl1 := up (m := m) (refLowest_pure (aga s s.l) (sq s.c) (by omega) b3 (by omega))
    have cl2 := up (m := m) (refLowest_pure (aga s s.h) (sq s.c) (by omega) b3 (by omega))
    have cl3 := up (m := m) (refLowest_pure (tot s) (sq s.c) (by omega) b3 (by omega))
    unfold depthL depthH at c15
    unfold needleR at c16
    unfold sumR at c17
    rw [if_pos h, if_pos h, h] at c15
    rw [if_pos h, h] at c16
    rw [if_pos h, h] at c17
    rw [h] at c18 c25
    refine APure.of_body good [] (fn := Tryz.f3) (by kernel_rfl) (by kernel_rfl) rfl rfl (by kernel_rfl) rfl (by kernel_rfl) ?_
    conv => whnf
    repeat' (first
      | (refine codeK_sound good (mu := []) ?_; conv => whnf)
      | ((first | rw [wl0] | rw [wl1] | rw [wl2] | rw [wl3] | rw [wl4] | rw [wl5]); conv => whnf)
      | (refine SBool.mk (fun _ => ?_) (fun h => absurd (of_decide_eq_true rfl) h); conv => whnf)
      | (refine SBool.mk (fun h => absurd h (of_decide_eq_false rfl)) (fun _ => ?_); conv => whnf)
      | (refine SBool.mk (fun h => ?_) (fun h => ?_) <;> conv => whnf)
      | (refine SEx.mk _ (by first | exact awake_pure | exact c15 | exact c16 | exact c17 | exact c18 | exact c25 | exact c19 | exact c21 | exact c22 | exact c23 | exact c24 | exact cl1 | exact cl2 | exact cl3 | exact eq_ratio_self _ _) ?_; conv => whnf)
      | (refine SEx.mk _ (by first | exact rfl | exact ⟨of_decide_eq_true rfl, rfl⟩) ?_; conv => whnf)
      | (refine SAll.mk (fun _ => ?_); conv => whnf)
      | (refine SAnd.mk ⟨by intro c hc; simp at hc; first | (subst hc; rfl) | ((repeat' (rcases hc with rfl | hc)) <;> first | rfl | (subst hc; rfl)), by (simp; first | done | omega), by (simp; first | done | omega)⟩ ?_; conv => whnf)
      | (refine SAnd.mk (by first | exact rfl | kernel_rfl | omega | decide | exact awake_pure | exact c15 | exact c16 | exact c17 | exact c18 | exact c25 | exact c19 | exact c21 | exact c22 | exact c23 | exact c24 | exact cl1 | exact cl2 | exact cl3 | exact eq_ratio_self _ _) ?_; conv => whnf)
      | fail)
    exact ⟨PLe.refl _⟩
  · unfold depthL depthH at c15
    unfold needleR at c16
    unfold sumR at c17
    rw [if_neg h0, if_neg h0] at c15
    rw [if_neg h0] at c16
    rw [if_neg h0] at c17
    refine APure.of_body good [] (fn := Tryz.f3) (by kernel_rfl) (by kernel_rfl) rfl rfl (by kernel_rfl) rfl (by kernel_rfl) ?_
    conv => whnf
    repeat' (first
      | (refine codeK_sound good (mu := []) ?_; conv => whnf)
      | ((first | rw [wl0] | rw [wl1] | rw [wl2] | rw [wl3] | rw [wl4] | rw [wl5]); conv => whnf)
      | (refine SBool.mk (fun _ => ?_) (fun h => absurd (of_decide_eq_true rfl) h); conv => whnf)
      | (refine SBool.mk (fun h => absurd h (of_decide_eq_false rfl)) (fun _ => ?_); conv => whnf)
      | (refine SBool.mk (fun h => ?_) (fun h => ?_) <;> conv => whnf)
      | (refine SEx.mk _ (by first | exact awake_pure | exact c15 | exact c16 | exact c17 | exact c18 | exact c25 | exact eq_ratio_self _ _) ?_; conv => whnf)
      | (refine SEx.mk _ (by first | exact rfl | exact ⟨of_decide_eq_true rfl, rfl⟩) ?_; conv => whnf)
      | (refine SAll.mk (fun _ => ?_); conv => whnf)
      | (refine SAnd.mk ⟨by intro c hc; simp at hc; first | (subst hc; rfl) | ((repeat' (rcases hc with rfl | hc)) <;> first | rfl | (subst hc; rfl)), by (simp; first | done | omega), by (simp; first | done | omega)⟩ ?_; conv => whnf)
      | (refine SAnd.mk (by first | exact rfl | kernel_rfl | omega | decide | exact awake_pure | exact c15 | exact c16 | exact c17 | exact c18 | exact c25 | exact eq_ratio_self _ _) ?_; conv => whnf)
      | fail)
    all_goals first | exact absurd (by assumption) h0 | exact ⟨PLe.refl _⟩ | simp_all
end
end Go.Proofs.Ab.Tone2
end
section
/- ToneDepths: for every signal the program's check, depths, needle and sum, or their errors, are the reference's: the law returns true. (The listed variables are as the program's text lays them.) -/
set_option maxRecDepth 100000
set_option linter.unusedVariables false
set_option linter.unusedSimpArgs false
namespace Go.Proofs.YtkphoimochkndaaGreatDoor
open Go Go.RowKit Go.Proofs.Ab Go.Proofs.Ab.Tone Go.Proofs.Ab.Tone2
theorem toneDepths_lifted (os : Os) (started : os.Started) (H : Type) (enc : TypeId × Value → H) :
    ReturnsInHanded {} Tryz.checked os 3 .any (fun w args => (Rows.toneDepthsSpec.pre enc Tryz.prog Tryz.f3 [] false w args ∧ laidMetH Tryz.prog listed w) ∧ sizedMet enc Tryz.prog Tryz.f3 (OpenSpec.ofChange Rows.toneDepthsSpec) false w args)
      (Rows.toneDepthsSpec.post enc Tryz.prog Tryz.f3 false true false false) := by
  refine lifted_of started (by as_aux_lemma => kernel_rfl) Tryz.func3 (ss := [(true, sigSh)])
    (witness #[.agg #[.int .i64 0, .int .i64 0, .int .i64 0, .int .i64 0, .int .i64 0, .int .i64 0]] (by as_aux_lemma => kernel_rfl) (by as_aux_lemma => kernel_rfl) (by as_aux_lemma => kernel_rfl) (World.shaped_of_ZipB (by as_aux_lemma => kernel_rfl) (by as_aux_lemma => kernel_rfl)) (laidMet_laidAll _ (by as_aux_lemma => kernel_rfl) (by as_aux_lemma => kernel_rfl)))
    ?_ (by as_aux_lemma => kernel_rfl) (by as_aux_lemma => kernel_rfl) rfl ?_ ?_
  · rw [Tryz.params3]
    intro t ht
    have hall : ([25].all fun u => Tryz.prog.readableRec u && decide (u < Tryz.prog.types.size)) = true := by as_aux_lemma => kernel_rfl
    have := List.all_eq_true.1 hall t (by simpa using ht)
    rw [Bool.and_eq_true, decide_eq_true_eq] at this
    exact this
  · rw [Tryz.params3]
    intro ds hd
    match ds, hd with
    | [d0], _ => exact ⟨rfl, rfl, rfl⟩
  · intro m xs h
    obtain ⟨x0, xs, rfl, h0, h⟩ := h.uncons
    obtain rfl := h.unnil
    obtain ⟨s, rfl⟩ := fit_sig h0
    exact ToneDepths_pure s
set_option maxHeartbeats 40000000 in
theorem toneDepths_facts : joinedFacts Tryz.pinned.checked.prog 3 Tryz.f3 Rows.toneDepthsSpec Rows.toneDepthsRow = true := by
  unfold joinedFacts
  simp only [Bool.and_eq_true]
  repeat' apply And.intro
  all_goals as_aux_lemma => kernel_rfl
theorem toneDepths_row : Rows.ToneDepthsSaid :=
  OpenClaim.holds_of_wide 3 Tryz.f3 rfl rfl rfl rfl rfl rfl rfl ⟨rfl, rfl, rfl, rfl, rfl⟩ rfl rfl rfl rfl rfl (by as_aux_lemma => kernel_rfl) Tryz.func3 toneDepths_facts
    (of_decide_eq_true (by as_aux_lemma => kernel_rfl)) (by as_aux_lemma => unfold Func.isWrapper; first | (rw [if_pos (by decide +kernel)]; kernel_rfl) | (rw [if_neg (by decide +kernel)]; exact ⟨rfl, rfl⟩))
    (fun os started H enc _ => toneDepths_lifted os started H enc)
theorem toneDepths_named : Tryz.prog.funcNamed "glideslope/glideslopelaw02.ToneDepths" = some 3 := by kernel_rfl
theorem toneDepths_holds : Rows.ToneDepthsCardSaid :=
  Claim7.holds_tied_plain_at .later [] [.data, .data, .data, .data, .data, .pinned] true (true, "6883a40308061e1e56e57a0a897ad96630f21489591d51bcd46258b6daf0fcd9") false toneDepths_row (fun _ h => by cases h) (by as_aux_lemma => kernel_rfl) (fun _ h => by cases h) toneDepths_row_tie rfl ⟨rfl, rfl⟩ (by as_aux_lemma => kernel_rfl) rfl
    (fun f fn hf hfn => by
      obtain rfl : f = 3 := Option.some.inj (toneDepths_named.symm.trans hf) |>.symm
      obtain rfl : fn = Tryz.f3 := (Option.some.inj (Tryz.func3.symm.trans hfn)).symm
      exact ⟨by as_aux_lemma => kernel_rfl, fun j t ht => by
        rw [Tryz.params3] at ht
        have hm : t ∈ [25] := by simpa using Array.mem_of_getElem? ht
        have hall : ([25].all fun u => !Tryz.prog.wantsStandIn u) = true := by as_aux_lemma => kernel_rfl
        exact (show Tryz.prog.wantsStandIn t = false by simpa using List.all_eq_true.1 hall t hm)⟩)
    (by as_aux_lemma => kernel_rfl)
#print axioms toneDepths_holds
end Go.Proofs.YtkphoimochkndaaGreatDoor
end
