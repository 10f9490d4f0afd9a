/- The proof of ToneAgrees (see the last theorem): for every input that can be read the law returns true; the listed package-level variables are as the program's text lays them. -/
import Derived.Test.YtkphoimochkndaaGreatDoorLToneAgrees2
section
/- ToneAgrees: a signal that captures is heard alone, two signals with one needle are heard with this one, the needle of both lies between both, and a crossing is where the needle changes its side or is none: the law returns true, whatever it is handed. (Invalid signals and greater parts are left out by the law itself; the listed variables are as the program's text lays them.) -/
set_option maxRecDepth 100000
set_option linter.unusedVariables false
set_option linter.unusedSimpArgs false
namespace Go.Proofs.YtkphoimochkndaaGreatDoor
open Go Go.RowKit Go.Proofs.Ab Go.Proofs.Ab.Tone Go.Proofs.Ab.Tone2
theorem toneAgrees_lifted (os : Os) (started : os.Started) (H : Type) (enc : TypeId × Value → H) :
    ReturnsInHanded {} Tryz.checked os 13 .any (fun w args => (Rows.toneAgreesSpec.pre enc Tryz.prog Tryz.f13 [] false w args ∧ laidMetH Tryz.prog listed w) ∧ sizedMet enc Tryz.prog Tryz.f13 (OpenSpec.ofChange Rows.toneAgreesSpec) false w args)
      (Rows.toneAgreesSpec.post enc Tryz.prog Tryz.f13 false true false false) := by
  refine lifted_of started (by as_aux_lemma => kernel_rfl) Tryz.func13 (ss := [(true, sigSh), (true, sigSh), (true, [.int .u16, .sl sigSh])])
    (witness #[.agg #[.int .i64 0, .int .i64 0, .int .i64 0, .int .i64 0, .int .i64 0, .int .i64 0], .agg #[.int .i64 0, .int .i64 0, .int .i64 0, .int .i64 0, .int .i64 0, .int .i64 0], .agg #[.int .u16 0, .slice none 0 0]] (by as_aux_lemma => kernel_rfl) (by as_aux_lemma => kernel_rfl) (by as_aux_lemma => kernel_rfl) (World.shaped_of_ZipB (by as_aux_lemma => kernel_rfl) (by as_aux_lemma => kernel_rfl)) (laidMet_laidAll _ (by as_aux_lemma => kernel_rfl) (by as_aux_lemma => kernel_rfl)))
    ?_ (by as_aux_lemma => kernel_rfl) (by as_aux_lemma => kernel_rfl) rfl ?_ ?_
  · rw [Tryz.params13]
    intro t ht
    have hall : ([25, 25, 140].all fun u => Tryz.prog.readableRec u && decide (u < Tryz.prog.types.size)) = true := by as_aux_lemma => kernel_rfl
    have := List.all_eq_true.1 hall t (by simpa using ht)
    rw [Bool.and_eq_true, decide_eq_true_eq] at this
    exact this
  · rw [Tryz.params13]
    intro ds hd
    match ds, hd with
    | [d0, d1, d2], _ => exact ⟨rfl, rfl, rfl⟩
  · intro m xs h
    obtain ⟨x0, xs, rfl, h0, h⟩ := h.uncons
    obtain ⟨x1, xs, rfl, h1, h⟩ := h.uncons
    obtain ⟨x2, xs, rfl, h2, h⟩ := h.uncons
    obtain rfl := h.unnil
    obtain ⟨a, rfl⟩ := fit_sig h0
    obtain ⟨b, rfl⟩ := fit_sig h1
    obtain ⟨n, l, rfl, hn⟩ := fit_bands h2
    exact ToneAgrees_pure a b n l hn
set_option maxHeartbeats 40000000 in
theorem toneAgrees_facts : joinedFacts Tryz.pinned.checked.prog 13 Tryz.f13 Rows.toneAgreesSpec Rows.toneAgreesRow = true := by
  unfold joinedFacts
  simp only [Bool.and_eq_true]
  repeat' apply And.intro
  all_goals as_aux_lemma => kernel_rfl
theorem toneAgrees_row : Rows.ToneAgreesSaid :=
  OpenClaim.holds_of_wide 13 Tryz.f13 rfl rfl rfl rfl rfl rfl rfl ⟨rfl, rfl, rfl, rfl, rfl⟩ rfl rfl rfl rfl rfl (by as_aux_lemma => kernel_rfl) Tryz.func13 toneAgrees_facts
    (of_decide_eq_true (by as_aux_lemma => kernel_rfl)) (by as_aux_lemma => unfold Func.isWrapper; first | (rw [if_pos (by decide +kernel)]; kernel_rfl) | (rw [if_neg (by decide +kernel)]; exact ⟨rfl, rfl⟩))
    (fun os started H enc _ => toneAgrees_lifted os started H enc)
theorem toneAgrees_named : Tryz.prog.funcNamed "glideslope/glideslopelaw02.ToneAgrees" = some 13 := by kernel_rfl
theorem toneAgrees_holds : Rows.ToneAgreesCardSaid :=
  Claim7.holds_tied_plain_at .later [] [.data, .data, .data, .data, .data, .pinned] true (true, "6883a40308061e1e56e57a0a897ad96630f21489591d51bcd46258b6daf0fcd9") false toneAgrees_row (fun _ h => by cases h) (by as_aux_lemma => kernel_rfl) (fun _ h => by cases h) toneAgrees_row_tie rfl ⟨rfl, rfl⟩ (by as_aux_lemma => kernel_rfl) rfl
    (fun f fn hf hfn => by
      obtain rfl : f = 13 := Option.some.inj (toneAgrees_named.symm.trans hf) |>.symm
      obtain rfl : fn = Tryz.f13 := (Option.some.inj (Tryz.func13.symm.trans hfn)).symm
      exact ⟨by as_aux_lemma => kernel_rfl, fun j t ht => by
        rw [Tryz.params13] at ht
        have hm : t ∈ [25, 25, 140] := by simpa using Array.mem_of_getElem? ht
        have hall : ([25, 25, 140].all fun u => !Tryz.prog.wantsStandIn u) = true := by as_aux_lemma => kernel_rfl
        exact (show Tryz.prog.wantsStandIn t = false by simpa using List.all_eq_true.1 hall t hm)⟩)
    (by as_aux_lemma => kernel_rfl)
#print axioms toneAgrees_holds
end Go.Proofs.YtkphoimochkndaaGreatDoor
end
