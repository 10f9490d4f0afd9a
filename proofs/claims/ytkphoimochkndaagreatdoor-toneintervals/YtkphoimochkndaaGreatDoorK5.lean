/- The machine, the contracts and the walks on which ToneDepths rests: a part of the proof. -/
import Derived.Test.YtkphoimochkndaaGreatDoorK4
import Derived.Laws.FloatArith
import Derived.Laws.ComplexArith
import Derived.Laws.Cover2
import Derived.ChangeKeysEq
section
/- Comparisons; Crossings. -/
set_option maxRecDepth 100000
set_option linter.unusedVariables false
set_option linter.unusedSimpArgs false
namespace Go.Proofs.Ab.Tone
open Go Go.RowKit Go.Proofs.Ab
open Go.Proofs.Ab.Tone2 (cmp3)
theorem isNaN_pure (a : Int) : APure C 170 [I a] (Bo false) := by
  refine APure.of_body good [] (fn := Tryz.f170) (by kernel_rfl) (by kernel_rfl) rfl rfl (by kernel_rfl) rfl (by kernel_rfl) ?_
  conv => whnf
  refine SBool.mk (fun _ => ?_) (fun h => absurd rfl h)
  conv => whnf
  exact ⟨PLe.refl _⟩
theorem cmp_pure (a b : Int) : APure C 133 [I a, I b] (I (cmp3 a b)) := by
  refine APure.of_body good [] (fn := Tryz.f133) (by kernel_rfl) (by kernel_rfl) rfl rfl (by kernel_rfl) rfl (by kernel_rfl) ?_
  conv => whnf
  repeat' (first
    | (refine codeK_sound good (mu := []) ?_; conv => whnf)
    | ((first | rw [wl0] | rw [wl1] | rw [wl2] | rw [wl3] | rw [wl4] | rw [wl5]); conv => whnf)
    | (refine SBool.mk (fun _ => ?_) (fun h => absurd (of_decide_eq_true rfl) h); conv => whnf)
    | (refine SBool.mk (fun h => absurd h (of_decide_eq_false rfl)) (fun _ => ?_); conv => whnf)
    | (refine SBool.mk (fun h => ?_) (fun h => ?_) <;> conv => whnf)
    | (refine SEx.mk _ (by first | exact isNaN_pure _) ?_; conv => whnf)
    | (refine SEx.mk _ (by first | exact rfl | exact ⟨of_decide_eq_true rfl, rfl⟩) ?_; conv => whnf)
    | (refine SAll.mk (fun _ => ?_); conv => whnf)
    | (refine SAnd.mk ⟨by intro c hc; simp at hc; first | (subst hc; rfl) | ((repeat' (rcases hc with rfl | hc)) <;> first | rfl | (subst hc; rfl)), by (simp; first | done | omega), by (simp; first | done | omega)⟩ ?_; conv => whnf)
    | (refine SAnd.mk (by first | exact rfl | kernel_rfl | omega | decide | exact isNaN_pure _) ?_; conv => whnf)
    | fail)
  all_goals exact ⟨PLe.of_eq (by simp [cmp3, *])⟩
theorem compare_pure (s : Sg) (hf : s.Fit 1000000) : APure C 128 [.agg (sc s)] (I (cmp3 (dif s) 0)) := by
  refine APure.of_body good [] (fn := Tryz.f128) (by kernel_rfl) (by kernel_rfl) rfl rfl (by kernel_rfl) rfl (by kernel_rfl) ?_
  conv => whnf
  repeat' (first
    | (refine codeK_sound good (mu := []) ?_; conv => whnf)
    | ((first | rw [wl0] | rw [wl1] | rw [wl2] | rw [wl3] | rw [wl4] | rw [wl5]); conv => whnf)
    | (refine SBool.mk (fun _ => ?_) (fun h => absurd (of_decide_eq_true rfl) h); conv => whnf)
    | (refine SBool.mk (fun h => absurd h (of_decide_eq_false rfl)) (fun _ => ?_); conv => whnf)
    | (refine SBool.mk (fun h => ?_) (fun h => ?_) <;> conv => whnf)
    | (refine SEx.mk _ (by first | exact difference_pure s hf | exact cmp_pure _ _) ?_; conv => whnf)
    | (refine SEx.mk _ (by first | exact rfl | exact ⟨of_decide_eq_true rfl, rfl⟩) ?_; conv => whnf)
    | (refine SAll.mk (fun _ => ?_); conv => whnf)
    | (refine SAnd.mk ⟨by intro c hc; simp at hc; first | (subst hc; rfl) | ((repeat' (rcases hc with rfl | hc)) <;> first | rfl | (subst hc; rfl)), by (simp; first | done | omega), by (simp; first | done | omega)⟩ ?_; conv => whnf)
    | (refine SAnd.mk (by first | exact rfl | kernel_rfl | omega | decide | exact difference_pure s hf | exact cmp_pure _ _) ?_; conv => whnf)
    | fail)
  exact ⟨PLe.refl _⟩
end Go.Proofs.Ab.Tone
namespace Go.Proofs.Ab.Tone2
open Go Go.RowKit Go.Proofs.Ab Go.Proofs.Ab.Tone
theorem all_pure {m : Int} (xs : List Sg) : APure (C m) 129 [.seq 6 (xs.map sc)] (.fn 167 [.ref [.seq 6 (xs.map sc)]]) := by
  refine APure.of_body good [] (fn := Tryz.f129) (by kernel_rfl) (by kernel_rfl) rfl rfl (by kernel_rfl) rfl (by kernel_rfl) ?_
  conv => whnf
  repeat' (first
    | (refine codeK_sound good (mu := []) ?_; conv => whnf)
    | ((first | rw [wl0] | rw [wl1] | rw [wl2] | rw [wl3] | rw [wl4] | rw [wl5]); conv => whnf)
    | (refine SBool.mk (fun _ => ?_) (fun h => absurd (of_decide_eq_true rfl) h); conv => whnf)
    | (refine SBool.mk (fun h => absurd h (of_decide_eq_false rfl)) (fun _ => ?_); conv => whnf)
    | (refine SBool.mk (fun h => ?_) (fun h => ?_) <;> conv => whnf)
    | (refine SEx.mk _ (by first | exact rfl | exact ⟨of_decide_eq_true rfl, rfl⟩) ?_; conv => whnf)
    | (refine SAll.mk (fun _ => ?_); conv => whnf)
    | (refine SAnd.mk ⟨by intro c hc; simp at hc; first | (subst hc; rfl) | ((repeat' (rcases hc with rfl | hc)) <;> first | rfl | (subst hc; rfl)), by (simp; first | done | omega), by (simp; first | done | omega)⟩ ?_; conv => whnf)
    | (refine SAnd.mk (by first | exact rfl | kernel_rfl | omega | decide) ?_; conv => whnf)
    | fail)
  exact ⟨PLe.refl _⟩
/-- The same, within a round. -/
noncomputable abbrev CR (m : Int) : Cx := { P := (C m).P, tab := (C m).tab, glob := (C m).glob, inR := true, tabs := (C m).tabs }
theorem goodR {m : Int} : (CR m).Good := ⟨(good (m := m)).tab, (good (m := m)).mixed⟩
theorem cellsP_one : ∀ (zs : List Sp) (c : PV), c ∈ (cellsP zs).flatten → c.one = true
  | [], c, h => by simp at h
  | z :: zs, c, h => by
    have h' : c ∈ I z.1 :: I z.2 :: (cellsP zs).flatten := h
    rcases List.mem_cons.1 h' with rfl | h'
    · rfl
    · rcases List.mem_cons.1 h' with rfl | h'
      · rfl
      · exact cellsP_one zs c h'
theorem crossP_len (xs : List Sg) : ∀ k, (crossP xs k).length ≤ k
  | 0 => by simp [crossP]
  | k + 1 => by
    have := crossP_len xs k
    unfold crossP
    split
    · simp; omega
    · omega
theorem flat1 : ∀ l : List Int, (cells1 l).flatten = l.map I
  | [] => rfl
  | x :: l => by
    have := flat1 l
    simp only [cells1, List.map_cons, List.flatten_cons] at this ⊢
    rw [this]
    rfl
theorem sgn_cases (s : Sg) : sgn s = -1 ∨ sgn s = 0 ∨ sgn s = 1 := by
  unfold sgn cmp3
  split
  · exact .inl rfl
  · split
    · exact .inr (.inr rfl)
    · exact .inr (.inl rfl)
set_option maxHeartbeats 40000000 in
theorem Crossings_pure {m : Int} (xs : List Sg) (hl : xs.length ≤ 1000000) :
    APure (C m) 58 [.seq 6 (xs.map sc)] (.tup [if checkL xs = 0 then seqP (crossL xs) else nilS, I (checkL xs)]) := by
  refine APure.of_body good [1005, 1006, 1007, 33, 73] (fn := Tryz.f58) (by kernel_rfl) (by kernel_rfl) rfl rfl (by kernel_rfl) rfl (by kernel_rfl) ?_
  conv => whnf
  repeat' (first
    | (refine codeK_sound good (mu := [1005, 1006, 1007, 33, 73]) ?_; conv => whnf)
    | ((first | rw [wl0] | rw [wl1] | rw [wl2] | rw [wl3] | rw [wl4] | rw [wl5]); conv => whnf)
    | (refine SBool.mk (fun _ => ?_) (fun h => absurd (of_decide_eq_true rfl) h); conv => whnf)
    | (refine SBool.mk (fun h => absurd h (of_decide_eq_false rfl)) (fun _ => ?_); conv => whnf)
    | (refine SBool.mk (fun h => ?_) (fun h => ?_) <;> conv => whnf)
    | (refine SEx.mk _ (by first | exact up (checkSignals_pure xs hl)) ?_; conv => whnf)
    | (refine SEx.mk _ (by first | exact rfl | exact ⟨of_decide_eq_true rfl, rfl⟩) ?_; conv => whnf)
    | (refine SAll.mk (fun _ => ?_); conv => whnf)
    | (refine SAnd.mk ⟨by intro c hc; simp at hc; first | (subst hc; rfl) | ((repeat' (rcases hc with rfl | hc)) <;> first | rfl | (subst hc; rfl)), by (simp; first | done | omega), by (simp; first | done | omega)⟩ ?_; conv => whnf)
    | (refine SAnd.mk (by first | exact rfl | kernel_rfl | omega | decide | exact up (checkSignals_pure xs hl)) ?_; conv => whnf)
    | fail)
  · have hx : ∀ s ∈ xs, Ok s := (checkL_zero.1 h).2
    have hll := (checkL_zero.1 h).1.2
    have hmk : (((xs.map sc).length : Int) = ((xs.map sc).length : Int) ∧ 0 ≤ ((xs.map sc).length : Int) ∧ ((8 : Nat) : Int) * ((xs.map sc).length : Int) ≤ 281474976710656 ∧ ((xs.map sc).length : Int) ≤ 9223372036854775807) := by
      rw [List.length_map]
      exact ⟨rfl, by omega, by omega, by omega⟩
    have hcp : ∀ c ∈ (xs.map fun x => [I (sgn x)]).flatten, c.one = true := by
      intro c hc
      simp only [List.mem_flatten, List.mem_map] at hc
      obtain ⟨l, ⟨s, _, rfl⟩, hc⟩ := hc
      simp at hc
      subst hc
      rfl
    conv => whnf
    repeat' (first
      | (refine codeK_sound good (mu := [1005, 1006, 1007, 33, 73]) ?_; conv => whnf)
      | ((first | rw [wl0] | rw [wl1] | rw [wl2] | rw [wl3] | rw [wl4] | rw [wl5]); conv => whnf)
      | (refine SBool.mk (fun _ => ?_) (fun h => absurd (of_decide_eq_true rfl) h); conv => whnf)
      | (refine SBool.mk (fun h => absurd h (of_decide_eq_false rfl)) (fun _ => ?_); conv => whnf)
      | (refine SBool.mk (fun h => ?_) (fun h => ?_) <;> conv => whnf)
      | (refine SEx.mk _ (by first | exact hmk | exact hcp | exact up (mapped117_pure sgn 128 [] xs hl (fun s hs => compare_pure s ((hx s hs).fit.mono (by decide)))) | exact all_pure xs) ?_; conv => whnf)
      | (refine SEx.mk _ (by first | exact rfl | exact ⟨of_decide_eq_true rfl, rfl⟩) ?_; conv => whnf)
      | (refine SAll.mk (fun _ => ?_); conv => whnf)
      | (refine SAnd.mk (by first | exact hmk | exact hcp) ?_; conv => whnf)
      | (refine SAnd.mk ⟨by intro c hc; simp at hc; first | (subst hc; rfl) | ((repeat' (rcases hc with rfl | hc)) <;> first | rfl | (subst hc; rfl)), by (simp; first | done | omega), by (simp; first | done | omega)⟩ ?_; conv => whnf)
      | (refine SAnd.mk (by first | exact rfl | kernel_rfl | omega | decide | exact hmk | exact hcp | exact up (mapped117_pure sgn 128 [] xs hl (fun s hs => compare_pure s ((hx s hs).fit.mono (by decide)))) | exact all_pure xs) ?_; conv => whnf)
      | fail)
    rename_i g5 g6 g7
    refine ⟨AWp.le (t := ⟨[(22, .p (.fn 167 [.ref [.seq 6 (xs.map sc)]])), (7, .box 6 0), (6, .box 5 0), (5, .box 1 0)], [], [(0, (3, 1, cells1 (signs xs))), (7, (143, 2, [])), (8, (143, 2, []))], 9, [], [(1, .hold g5 47 (.own 0)), (5, .hold g6 94 (.own 8)), (6, .hold g7 94 (.own 7))], []⟩) ?_ ?_⟩
    · refine SLe.rowH 6 143 2 ?_
      conv => whnf
      refine SLe.rowH 5 143 2 ?_
      conv => whnf
      skip
      · refine SLe.ofO [(6, 6), (5, 5), (1, 1)] [(0, 0), (7, 7), (8, 8)] [(1, 1), (5, 5), (6, 6)] rfl rfl rfl ?_
        conv => whnf
        repeat' (first
        | exact True.intro
        | (refine SAnd.mk (show _ = (_ : List (List PV)) from by simp [cells1, signs, List.take_of_length_le]) ?_; conv => whnf)
        | (refine SAnd.mk (PLe.of_eq (by simp only [wrapK]; rw [wrap_id (by first | omega | (simp only; done) | (simp only; omega) | simp) (by first | omega | (simp only; done) | (simp only; omega) | simp)]; simp)) ?_; conv => whnf)
        | (refine SAnd.mk (PLe.refl _) ?_; conv => whnf)
        | (refine SAnd.mk (PLeL.refl _) ?_; conv => whnf)
        | (refine SAnd.mk (PLe.of_eq (by simp)) ?_; conv => whnf)
        | (refine SAnd.mk rfl ?_; conv => whnf)
        | (refine SAnd.mk ⟨rfl, rfl⟩ ?_; conv => whnf)
        | (refine SAnd.mk ⟨rfl, rfl, rfl⟩ ?_; conv => whnf))
    · refine AWp.post (AWp.rangeF rfl ?_)
      conv => whnf
      intro gd gl L hLp hLa hLb
      refine ACall.inline good [] (fn := Tryz.f167) (by kernel_rfl) (by kernel_rfl) rfl rfl (by kernel_rfl) rfl (by kernel_rfl) ?_
      conv => whnf
      refine ⟨AWp.loop (ι := { k : Nat // k ≤ xs.length }) (fun k => ⟨[(7, .p (I k.1)), (6, .p (I xs.length)), (5, .p (.seq 6 (xs.map sc))), (0, .p (.v (.func (.yield gl) #[] #[])))], [], [(0, (3, 1, cells1 (signs xs))), (7, (143, 2, cellsP (crossP xs k.1))), (8, (143, 2, cellsP (spans (zeroP xs) k.1)))], 11, [(22, .p (.fn 167 [.ref [.seq 6 (xs.map sc)]])), (7, .box 6 0), (6, .box 5 0), (5, .box 1 0)],
        [(10, .loop gl .ready Tryz.f58.ntmps [(22, .p (.fn 167 [.ref [.seq 6 (xs.map sc)]])), (7, .box 6 0), (6, .box 5 0), (5, .box 1 0)] L), (9, .dfr gd), (1, .hold g5 47 (.own 0)), (5, .hold g6 94 (.own 8)), (6, .hold g7 94 (.own 7))], []⟩) (fun k => xs.length - k.1) ⟨0, by simp⟩ ?_ ?_⟩
      · skip
        · refine SLe.ofO [(6, 6), (5, 5), (1, 1)] [(0, 0), (7, 7), (8, 8)] [(10, 10), (9, 9), (1, 1), (5, 5), (6, 6)] rfl rfl rfl ?_
          conv => whnf
          repeat' (first
          | exact True.intro
          | (refine SAnd.mk (PLe.of_eq (by simp only [wrapK]; rw [wrap_id (by first | omega | (simp only; done) | (simp only; omega) | simp) (by first | omega | (simp only; done) | (simp only; omega) | simp)]; simp)) ?_; conv => whnf)
          | (refine SAnd.mk (PLe.refl _) ?_; conv => whnf)
          | (refine SAnd.mk (PLeL.refl _) ?_; conv => whnf)
          | (refine SAnd.mk (PLe.of_eq (by simp)) ?_; conv => whnf)
          | (refine SAnd.mk rfl ?_; conv => whnf)
          | (refine SAnd.mk ⟨rfl, rfl⟩ ?_; conv => whnf)
          | (refine SAnd.mk ⟨rfl, rfl, rfl⟩ ?_; conv => whnf))
      · rintro ⟨k, hk⟩
        refine codeK_sound good (mu := []) ?_
        conv => whnf
        refine SBool.mk (fun hc => ?_) (fun hc => ?_)
        · conv => whnf
          have hkl : k < xs.length := by simpa using hc
          refine SEx.mk (sc xs[k]) (by simp [hkl]) ?_
          conv => whnf
          repeat' (first
            | (refine codeK_sound good (mu := []) ?_; conv => whnf)
            | ((first | rw [wl0] | rw [wl1] | rw [wl2] | rw [wl3] | rw [wl4] | rw [wl5]); conv => whnf)
            | (refine SBool.mk (fun _ => ?_) (fun h => absurd (of_decide_eq_true rfl) h); conv => whnf)
            | (refine SBool.mk (fun h => absurd h (of_decide_eq_false rfl)) (fun _ => ?_); conv => whnf)
            | (refine SBool.mk (fun h => ?_) (fun h => ?_) <;> conv => whnf)
            | (refine SEx.mk _ (by first | exact rfl | exact ⟨of_decide_eq_true rfl, rfl⟩) ?_; conv => whnf)
            | (refine SAll.mk (fun _ => ?_); conv => whnf)
            | (refine SAnd.mk ⟨by intro c hc; simp at hc; first | (subst hc; rfl) | ((repeat' (rcases hc with rfl | hc)) <;> first | rfl | (subst hc; rfl)), by (simp; first | done | omega), by (simp; first | done | omega)⟩ ?_; conv => whnf)
            | (refine SAnd.mk (by first | exact rfl | kernel_rfl | omega | decide) ?_; conv => whnf)
            | fail)
          refine SRound.of good [33] (n := 10) (ps := [23]) rfl hLp hLa hLb ?_
          conv => whnf
          refine SAnd.mk rfl ?_
          conv => whnf
          clear hLp hLa hLb
          have hbd : ∀ i, i < xs.length → 0 ≤ (i : Int) ∧ (i : Int) < (((3, 1, cells1 (signs xs)) : Nat × Nat × List (List PV)).snd.snd.length : Int) := fun i hi => ⟨by omega, by
            show (i : Int) < (((cells1 (signs xs)).length : Nat) : Int)
            rw [show (cells1 (signs xs)).length = xs.length by simp [cells1, signs]]
            omega⟩
          have hdk : ∀ i (hi : i < xs.length) (K : List PV → Prop), K (I (sgn xs[i]) :: ((signs xs).map I).drop (i + 1)) → dropK ((3, 1, cells1 (signs xs)) : Nat × Nat × List (List PV)).snd.snd.flatten ((i : Int).toNat * 1) K := fun i hi K hK => by
            have e : (cells1 (signs xs)).flatten = (signs xs).map I := flat1 _
            refine dropK_of (r := I (sgn xs[i]) :: ((signs xs).map I).drop (i + 1)) ?_ ?_ hK
            · show i * 1 ≤ (cells1 (signs xs)).flatten.length
              rw [e]; simp [signs]; omega
            · show (cells1 (signs xs)).flatten.drop (i * 1) = _
              rw [e, Nat.mul_one, List.drop_eq_getElem_cons (by simpa [signs] using hi)]
              simp [signs]
          have hok := hx _ (List.getElem_mem hkl)
          have hcl := crossP_len xs k
          have hzl := spans_len (zeroP xs) k
          refine AWp.block (AWp.mid ⟨[(8, .box 12 0), (22, .p (.fn 167 [.ref [.seq 6 (xs.map sc)]])), (7, .box 6 0), (6, .box 5 0), (5, .box 1 0)], [(12, (185, [I xs[k].c.re, I xs[k].c.im, I xs[k].l.re, I xs[k].l.im, I xs[k].h.re, I xs[k].h.im, I k]))], [(0, (3, 1, cells1 (signs xs))), (7, (143, 2, cellsP (crossP xs k))), (8, (143, 2, cellsP (spans (zeroP xs) (k + 1))))], 13, [(7, .p (I k)), (6, .p (I xs.length)), (5, .p (.seq 6 (xs.map sc))), (0, .p (.v (.func (.yield gl) #[] #[]))), (Tryz.f167.ntmps + 22, .p (.fn 167 [.ref [.seq 6 (xs.map sc)]])), (Tryz.f167.ntmps + 7, .box 6 0), (Tryz.f167.ntmps + 6, .box 5 0), (Tryz.f167.ntmps + 5, .box 1 0)], [(10, .loop gl .busy Tryz.f58.ntmps [(22, .p (.fn 167 [.ref [.seq 6 (xs.map sc)]])), (7, .box 6 0), (6, .box 5 0), (5, .box 1 0)] L), (9, .dfr gd), (1, .hold g5 47 (.own 0)), (5, .hold g6 94 (.own 8)), (6, .hold g7 94 (.own 7))], []⟩ ?_ ?_)
          · refine codeK_sound goodR (mu := [33]) ?_
            rcases k with _ | j
            · skip
              conv => whnf
              repeat' (first
                | (refine codeK_sound good (mu := []) ?_; conv => whnf)
                | ((first | rw [wl0] | rw [wl1] | rw [wl2] | rw [wl3] | rw [wl4] | rw [wl5]); conv => whnf)
                | (refine SBool.mk (fun _ => ?_) (fun h => absurd (of_decide_eq_true rfl) h); conv => whnf)
                | (refine SBool.mk (fun h => absurd h (of_decide_eq_false rfl)) (fun _ => ?_); conv => whnf)
                | (refine SBool.mk (fun h => ?_) (fun h => ?_) <;> conv => whnf)
                | (refine SEx.mk _ (by first | exact rfl | exact ⟨of_decide_eq_true rfl, rfl⟩) ?_; conv => whnf)
                | (refine SAll.mk (fun _ => ?_); conv => whnf)
                | (refine SAnd.mk ⟨by intro c hc; simp at hc; first | (subst hc; rfl) | ((repeat' (rcases hc with rfl | hc)) <;> first | rfl | (subst hc; rfl)), by (simp; first | done | omega), by (simp; first | done | omega)⟩ ?_; conv => whnf)
                | (refine SAnd.mk (by first | exact rfl | kernel_rfl | omega | decide) ?_; conv => whnf)
                | fail)
              refine ⟨⟨1, by omega⟩, by simp only; omega, ?_⟩
              skip
              · refine SLe.ofO [(6, 6), (5, 5), (1, 1)] [(0, 0), (7, 7), (8, 8)] [(10, 10), (9, 9), (1, 1), (5, 5), (6, 6)] rfl rfl rfl ?_
                conv => whnf
                repeat' (first
                | exact True.intro
                | (refine SAnd.mk (PLe.of_eq (by simp only [wrapK]; rw [wrap_id (by first | omega | (simp only; done) | (simp only; omega) | simp) (by first | omega | (simp only; done) | (simp only; omega) | simp)]; simp)) ?_; conv => whnf)
                | (refine SAnd.mk (PLe.refl _) ?_; conv => whnf)
                | (refine SAnd.mk (PLeL.refl _) ?_; conv => whnf)
                | (refine SAnd.mk (PLe.of_eq (by simp)) ?_; conv => whnf)
                | (refine SAnd.mk rfl ?_; conv => whnf)
                | (refine SAnd.mk ⟨rfl, rfl⟩ ?_; conv => whnf)
                | (refine SAnd.mk ⟨rfl, rfl, rfl⟩ ?_; conv => whnf))
            · have hjl : j < xs.length := by omega
              have hz : EqAgg (CR m) 23 [I xs[j + 1].c.re, I xs[j + 1].c.im] [I 0, I 0] false := by
                have h1 := eq_gauss xs[j + 1].c.re xs[j + 1].c.im 0 0
                rw [show decide (xs[j + 1].c.re = 0 ∧ xs[j + 1].c.im = 0) = false from decide_eq_false (fun ⟨e1, e2⟩ => by
                  have := hok.sq_pos
                  simp [sq, e1, e2] at this)] at h1
                exact h1
              have hw1 : wrapK IntKind.i64 (((j + 1 : Nat) : Int) - 1) = (j : Int) := by
                rw [show (((j + 1 : Nat) : Int) - 1) = (j : Int) by omega]
                exact w64 (by omega)
              have hw2 : wrapK IntKind.i64 (((j + 1 : Nat) : Int) + 1) = ((j + 1 : Nat) : Int) + 1 := w64 (by omega)
              have hw3 : wrapK IntKind.i64 (sgn xs[j + 1] * sgn xs[j]) = sgn xs[j + 1] * sgn xs[j] := w64 (by
                rcases sgn_cases xs[j + 1] with h | h | h <;> rcases sgn_cases xs[j] with h' | h' | h' <;> rw [h, h'] <;> decide)
              have hcB : crossB xs (j + 1) = decide (sgn xs[j + 1] * sgn xs[j] < 0) := by
                simp [crossB, hkl, hjl]
              conv => whnf
              repeat' (first
                | (refine codeK_sound good (mu := [33]) ?_; conv => whnf)
                | ((first | rw [wl0] | rw [wl1] | rw [wl2] | rw [wl3] | rw [wl4] | rw [wl5]); conv => whnf)
                | (refine SBool.mk (fun _ => ?_) (fun h => absurd (of_decide_eq_true rfl) h); conv => whnf)
                | (refine SBool.mk (fun h => absurd h (of_decide_eq_false rfl)) (fun _ => ?_); conv => whnf)
                | (refine SBool.mk (fun h => ?_) (fun h => ?_) <;> conv => whnf)
                | (rw [hw1]; conv => whnf)
                | (rw [hw3]; conv => whnf)
                | (refine hdk (j + 1) hkl _ ?_; conv => whnf)
                | (refine hdk j hjl _ ?_; conv => whnf)
                | (refine SEx.mk _ (by first | exact hz | exact hbd (j + 1) hkl | exact hbd j hjl) ?_; conv => whnf)
                | (refine SEx.mk _ (by first | exact rfl | exact ⟨of_decide_eq_true rfl, rfl⟩) ?_; conv => whnf)
                | (refine SAll.mk (fun _ => ?_); conv => whnf)
                | (refine SAnd.mk (by first | exact hz | exact hbd (j + 1) hkl | exact hbd j hjl) ?_; conv => whnf)
                | (refine SAnd.mk ⟨by intro c hc; simp at hc; first | (subst hc; rfl) | ((repeat' (rcases hc with rfl | hc)) <;> first | rfl | (subst hc; rfl)), by (simp; first | done | omega), by (simp; first | done | omega)⟩ ?_; conv => whnf)
                | (refine SAnd.mk (by first | exact rfl | kernel_rfl | omega | decide | exact hz | exact hbd (j + 1) hkl | exact hbd j hjl) ?_; conv => whnf)
                | fail)
              · rw [hw3] at h
                have hP : crossB xs (j + 1) = true := by rw [hcB]; exact decide_eq_true h
                refine ⟨⟨j + 1 + 1, by omega⟩, by simp only; omega, ?_⟩
                skip
                · refine SLe.ofO [(6, 6), (5, 5), (1, 1)] [(0, 0), (7, 35), (8, 8)] [(10, 10), (9, 9), (1, 1), (5, 5), (6, 6)] rfl rfl rfl ?_
                  conv => whnf
                  repeat' (first
                  | exact True.intro
                  | (refine SAnd.mk (show _ = (_ : List (List PV)) from by rw [hw2]; simp [crossP, hP]) ?_; conv => whnf)
                  | (refine SAnd.mk (PLe.of_eq (by simp only [wrapK]; rw [wrap_id (by first | omega | (simp only; done) | (simp only; omega) | simp) (by first | omega | (simp only; done) | (simp only; omega) | simp)]; simp)) ?_; conv => whnf)
                  | (refine SAnd.mk (PLe.refl _) ?_; conv => whnf)
                  | (refine SAnd.mk (PLeL.refl _) ?_; conv => whnf)
                  | (refine SAnd.mk (PLe.of_eq (by simp)) ?_; conv => whnf)
                  | (refine SAnd.mk rfl ?_; conv => whnf)
                  | (refine SAnd.mk ⟨rfl, rfl⟩ ?_; conv => whnf)
                  | (refine SAnd.mk ⟨rfl, rfl, rfl⟩ ?_; conv => whnf))
              · rw [hw3] at h
                have hP : crossB xs (j + 1) = false := by rw [hcB]; exact decide_eq_false h
                refine ⟨⟨j + 1 + 1, by omega⟩, by simp only; omega, ?_⟩
                skip
                · refine SLe.ofO [(6, 6), (5, 5), (1, 1)] [(0, 0), (7, 7), (8, 8)] [(10, 10), (9, 9), (1, 1), (5, 5), (6, 6)] rfl rfl rfl ?_
                  conv => whnf
                  repeat' (first
                  | exact True.intro
                  | (refine SAnd.mk (show _ = (_ : List (List PV)) from by simp [crossP, hP]) ?_; conv => whnf)
                  | (refine SAnd.mk (PLe.of_eq (by simp only [wrapK]; rw [wrap_id (by first | omega | (simp only; done) | (simp only; omega) | simp) (by first | omega | (simp only; done) | (simp only; omega) | simp)]; simp)) ?_; conv => whnf)
                  | (refine SAnd.mk (PLe.refl _) ?_; conv => whnf)
                  | (refine SAnd.mk (PLeL.refl _) ?_; conv => whnf)
                  | (refine SAnd.mk (PLe.of_eq (by simp)) ?_; conv => whnf)
                  | (refine SAnd.mk rfl ?_; conv => whnf)
                  | (refine SAnd.mk ⟨rfl, rfl⟩ ?_; conv => whnf)
                  | (refine SAnd.mk ⟨rfl, rfl, rfl⟩ ?_; conv => whnf))
              · exact absurd (by omega) h
          · refine codeK_sound goodR (mu := [33]) ?_
            have wk : wrapK IntKind.i64 ((k : Int) + 1) = k + 1 := w64 (by omega)
            conv => whnf
            repeat' (first
              | (refine codeK_sound good (mu := [33]) ?_; conv => whnf)
              | ((first | rw [wl0] | rw [wl1] | rw [wl2] | rw [wl3] | rw [wl4] | rw [wl5]); conv => whnf)
              | (refine SBool.mk (fun _ => ?_) (fun h => absurd (of_decide_eq_true rfl) h); conv => whnf)
              | (refine SBool.mk (fun h => absurd h (of_decide_eq_false rfl)) (fun _ => ?_); conv => whnf)
              | (refine SBool.mk (fun h => ?_) (fun h => ?_) <;> conv => whnf)
              | (refine hdk k hkl _ ?_; conv => whnf)
              | (refine SEx.mk _ (by first | exact hbd k hkl) ?_; conv => whnf)
              | (refine SEx.mk _ (by first | exact rfl | exact ⟨of_decide_eq_true rfl, rfl⟩) ?_; conv => whnf)
              | (refine SAll.mk (fun _ => ?_); conv => whnf)
              | (refine SAnd.mk (by first | exact hbd k hkl) ?_; conv => whnf)
              | (refine SAnd.mk ⟨by intro c hc; simp at hc; first | (subst hc; rfl) | ((repeat' (rcases hc with rfl | hc)) <;> first | rfl | (subst hc; rfl)), by (simp; first | done | omega), by (simp; first | done | omega)⟩ ?_; conv => whnf)
              | (refine SAnd.mk (by first | exact rfl | kernel_rfl | omega | decide | exact hbd k hkl) ?_; conv => whnf)
              | fail)
            · have hP : zeroP xs k = true := by simp [zeroP, hkl]; exact h
              obtain ⟨ys, hys⟩ : ∃ ys, ys = spans (zeroP xs) k := ⟨_, rfl⟩
              have hstep : spans (zeroP xs) (k + 1) = joinP ys k := by simp [spans, hP, hys]
              rw [← hys] at hzl
              rw [← hys]
              rcases List.eq_nil_or_concat ys with rfl | ⟨zs, q, rfl⟩
              · have hw0 : wrapK IntKind.i64 ((((143, 2, cellsP []) : Nat × Nat × List (List PV)).snd.snd.length : Int) - 1) = -1 := by kernel_rfl
                refine ACall.inline goodR [] (fn := Tryz.f130) (by kernel_rfl) (by kernel_rfl) rfl rfl (by kernel_rfl) rfl (by kernel_rfl) ?_
                conv => whnf
                rw [hw0]
                conv => whnf
                repeat' (first
                  | (refine codeK_sound good (mu := [33]) ?_; conv => whnf)
                  | ((first | rw [wl0] | rw [wl1] | rw [wl2] | rw [wl3] | rw [wl4] | rw [wl5]); conv => whnf)
                  | (refine SBool.mk (fun _ => ?_) (fun h => absurd (of_decide_eq_true rfl) h); conv => whnf)
                  | (refine SBool.mk (fun h => absurd h (of_decide_eq_false rfl)) (fun _ => ?_); conv => whnf)
                  | (refine SBool.mk (fun h => ?_) (fun h => ?_) <;> conv => whnf)
                  | (refine SEx.mk _ (by first | exact rfl | exact ⟨of_decide_eq_true rfl, rfl⟩) ?_; conv => whnf)
                  | (refine SAll.mk (fun _ => ?_); conv => whnf)
                  | (refine SAnd.mk ⟨by intro c hc; simp at hc; first | (subst hc; rfl) | ((repeat' (rcases hc with rfl | hc)) <;> first | rfl | (subst hc; rfl)), by (simp; first | done | omega), by (simp; first | done | omega)⟩ ?_; conv => whnf)
                  | (refine SAnd.mk (by first | exact rfl | kernel_rfl | omega | decide) ?_; conv => whnf)
                  | fail)
                skip
                · refine SLe.ofO [(12, 12), (6, 6), (5, 5), (1, 1)] [(0, 0), (7, 7), (8, 13)] [(10, 10), (9, 9), (1, 1), (5, 5), (6, 6)] rfl rfl rfl ?_
                  conv => whnf
                  repeat' (first
                  | exact True.intro
                  | (refine SAnd.mk (show _ = (_ : List (List PV)) from by simp only [hstep, wk]; simp [joinP]) ?_; conv => whnf)
                  | (refine SAnd.mk (PLe.of_eq (by simp only [wrapK]; rw [wrap_id (by first | omega | (simp only; done) | (simp only; omega) | simp) (by first | omega | (simp only; done) | (simp only; omega) | simp)]; simp)) ?_; conv => whnf)
                  | (refine SAnd.mk (PLe.refl _) ?_; conv => whnf)
                  | (refine SAnd.mk (PLeL.refl _) ?_; conv => whnf)
                  | (refine SAnd.mk (PLe.of_eq (by simp)) ?_; conv => whnf)
                  | (refine SAnd.mk rfl ?_; conv => whnf)
                  | (refine SAnd.mk ⟨rfl, rfl⟩ ?_; conv => whnf)
                  | (refine SAnd.mk ⟨rfl, rfl, rfl⟩ ?_; conv => whnf))
              · rw [List.concat_eq_append] at *
                have hl1 : (zs ++ [q]).length = zs.length + 1 := by simp
                have hl2 : (cellsP (zs ++ [q])).length = zs.length + 1 := by simp
                have hw1 : wrapK IntKind.i64 ((((143, 2, cellsP (zs ++ [q])) : Nat × Nat × List (List PV)).snd.snd.length : Int) - 1) = zs.length := by
                  show wrapK IntKind.i64 ((((cellsP (zs ++ [q])).length : Nat) : Int) - 1) = zs.length
                  rw [hl2, show (((zs.length + 1 : Nat) : Int) - 1) = zs.length by omega]
                  exact w64 (by omega)
                refine ACall.inline goodR [] (fn := Tryz.f130) (by kernel_rfl) (by kernel_rfl) rfl rfl (by kernel_rfl) rfl (by kernel_rfl) ?_
                conv => whnf
                rw [hw1]
                refine SBool.mk (fun _ => ?_) (fun h => absurd (by omega) h)
                have hin : 0 ≤ (zs.length : Int) ∧ (zs.length : Int) < (((143, 2, cellsP (zs ++ [q])) : Nat × Nat × List (List PV)).snd.snd.length : Int) := ⟨by omega, by
                  show (zs.length : Int) < (((cellsP (zs ++ [q])).length : Nat) : Int)
                  rw [hl2]; omega⟩
                have hdk2 : ∀ K : List PV → Prop, K [I q.2] → dropK ((143, 2, cellsP (zs ++ [q])) : Nat × Nat × List (List PV)).snd.snd.flatten (((zs.length : Int)).toNat * 2 + 1) K := fun K hk => dropK_of (r := [I q.2]) (by show zs.length * 2 + 1 ≤ (cellsP (zs ++ [q])).flatten.length; rw [flatP_len, hl1]; omega) (flatP_drop zs q) hk
                have hsz : zs.length + 1 ≤ 256 := by rw [hl1] at hzl; omega
                conv => whnf
                repeat' (first
                  | (refine codeK_sound good (mu := [33]) ?_; conv => whnf)
                  | ((first | rw [wl0] | rw [wl1] | rw [wl2] | rw [wl3] | rw [wl4] | rw [wl5]); conv => whnf)
                  | (refine SBool.mk (fun _ => ?_) (fun h => absurd (of_decide_eq_true rfl) h); conv => whnf)
                  | (refine SBool.mk (fun h => absurd h (of_decide_eq_false rfl)) (fun _ => ?_); conv => whnf)
                  | (refine SBool.mk (fun h => ?_) (fun h => ?_) <;> conv => whnf)
                  | (refine hdk2 _ ?_; conv => whnf)
                  | (refine SEx.mk _ (by first | exact hin | exact storeP zs q _) ?_; conv => whnf)
                  | (refine SEx.mk _ (by first | exact rfl | exact ⟨of_decide_eq_true rfl, rfl⟩) ?_; conv => whnf)
                  | (refine SAll.mk (fun _ => ?_); conv => whnf)
                  | (refine SAnd.mk (by first | exact hin | exact storeP zs q _) ?_; conv => whnf)
                  | (refine SAnd.mk ⟨by intro c hc; simp at hc; first | (subst hc; rfl) | ((repeat' (rcases hc with rfl | hc)) <;> first | rfl | (subst hc; rfl)), by (simp; first | done | omega), by (simp; first | done | omega)⟩ ?_; conv => whnf)
                  | (refine SAnd.mk (by first | exact rfl | kernel_rfl | omega | decide | exact hin | exact storeP zs q _) ?_; conv => whnf)
                  | fail)
                · have hq : q.2 = (k : Int) := h
                  skip
                  · refine SLe.ofO [(12, 12), (6, 6), (5, 5), (1, 1)] [(0, 0), (7, 7), (8, 8)] [(10, 10), (9, 9), (1, 1), (5, 5), (6, 6)] rfl rfl rfl ?_
                    conv => whnf
                    repeat' (first
                    | exact True.intro
                    | (refine SAnd.mk (show _ = (_ : List (List PV)) from by simp only [hstep, hq, wk]; simp [joinP, hq]) ?_; conv => whnf)
                    | (refine SAnd.mk (PLe.of_eq (by simp only [wrapK]; rw [wrap_id (by first | omega | (simp only; done) | (simp only; omega) | simp) (by first | omega | (simp only; done) | (simp only; omega) | simp)]; simp)) ?_; conv => whnf)
                    | (refine SAnd.mk (PLe.refl _) ?_; conv => whnf)
                    | (refine SAnd.mk (PLeL.refl _) ?_; conv => whnf)
                    | (refine SAnd.mk (PLe.of_eq (by simp)) ?_; conv => whnf)
                    | (refine SAnd.mk rfl ?_; conv => whnf)
                    | (refine SAnd.mk ⟨rfl, rfl⟩ ?_; conv => whnf)
                    | (refine SAnd.mk ⟨rfl, rfl, rfl⟩ ?_; conv => whnf))
                · have hq : ¬ q.2 = (k : Int) := h
                  skip
                  · refine SLe.ofO [(12, 12), (6, 6), (5, 5), (1, 1)] [(0, 0), (7, 7), (8, 13)] [(10, 10), (9, 9), (1, 1), (5, 5), (6, 6)] rfl rfl rfl ?_
                    conv => whnf
                    repeat' (first
                    | exact True.intro
                    | (refine SAnd.mk (show _ = (_ : List (List PV)) from by simp only [hstep, wk]; simp [joinP, hq]) ?_; conv => whnf)
                    | (refine SAnd.mk (PLe.of_eq (by simp only [wrapK]; rw [wrap_id (by first | omega | (simp only; done) | (simp only; omega) | simp) (by first | omega | (simp only; done) | (simp only; omega) | simp)]; simp)) ?_; conv => whnf)
                    | (refine SAnd.mk (PLe.refl _) ?_; conv => whnf)
                    | (refine SAnd.mk (PLeL.refl _) ?_; conv => whnf)
                    | (refine SAnd.mk (PLe.of_eq (by simp)) ?_; conv => whnf)
                    | (refine SAnd.mk rfl ?_; conv => whnf)
                    | (refine SAnd.mk ⟨rfl, rfl⟩ ?_; conv => whnf)
                    | (refine SAnd.mk ⟨rfl, rfl, rfl⟩ ?_; conv => whnf))
            · have hP : zeroP xs k = false := by simp [zeroP, hkl]; exact h
              skip
              · refine SLe.ofO [(12, 12), (6, 6), (5, 5), (1, 1)] [(0, 0), (7, 7), (8, 8)] [(10, 10), (9, 9), (1, 1), (5, 5), (6, 6)] rfl rfl rfl ?_
                conv => whnf
                repeat' (first
                | exact True.intro
                | (refine SAnd.mk (show _ = (_ : List (List PV)) from by simp [spans, hP]) ?_; conv => whnf)
                | (refine SAnd.mk (PLe.of_eq (by simp only [wrapK]; rw [wrap_id (by first | omega | (simp only; done) | (simp only; omega) | simp) (by first | omega | (simp only; done) | (simp only; omega) | simp)]; simp)) ?_; conv => whnf)
                | (refine SAnd.mk (PLe.refl _) ?_; conv => whnf)
                | (refine SAnd.mk (PLeL.refl _) ?_; conv => whnf)
                | (refine SAnd.mk (PLe.of_eq (by simp)) ?_; conv => whnf)
                | (refine SAnd.mk rfl ?_; conv => whnf)
                | (refine SAnd.mk ⟨rfl, rfl⟩ ?_; conv => whnf)
                | (refine SAnd.mk ⟨rfl, rfl, rfl⟩ ?_; conv => whnf))
        · have : k = xs.length := by simp at hc; omega
          subst this
          have hcl := crossP_len xs xs.length
          have hzl := spans_len (zeroP xs) xs.length
          obtain ⟨os, hos⟩ : ∃ os, os = crossP xs xs.length := ⟨_, rfl⟩
          obtain ⟨zs, hzs⟩ : ∃ zs, zs = spans (zeroP xs) xs.length := ⟨_, rfl⟩
          rw [← hos] at hcl
          rw [← hzs] at hzl
          rw [← hos, ← hzs]
          conv => whnf
          refine SAnd.mk rfl ?_
          conv => whnf
          refine ⟨⟨[(7, .box 6 0), (6, .box 5 0)], [], [(7, (143, 2, cellsP os))], 9, [], [(5, .hold g6 94 (.p (seqP zs))), (6, .hold g7 94 (.own 7)), (9, .dfr gd)], [gd]⟩, SLe.shutB 8 ?_, ?_⟩
          · conv => whnf
            skip
            · refine SLe.ofO [(6, 6), (5, 5)] [(7, 7)] [(5, 5), (6, 6), (9, 9)] rfl rfl rfl ?_
              conv => whnf
              repeat' (first
              | exact True.intro
              | (refine SAnd.mk (PLe.of_eq (by simp only [wrapK]; rw [wrap_id (by first | omega | (simp only; done) | (simp only; omega) | simp) (by first | omega | (simp only; done) | (simp only; omega) | simp)]; simp)) ?_; conv => whnf)
              | (refine SAnd.mk (PLe.refl _) ?_; conv => whnf)
              | (refine SAnd.mk (PLeL.refl _) ?_; conv => whnf)
              | (refine SAnd.mk (PLe.of_eq (by simp)) ?_; conv => whnf)
              | (refine SAnd.mk rfl ?_; conv => whnf)
              | (refine SAnd.mk ⟨rfl, rfl⟩ ?_; conv => whnf)
              | (refine SAnd.mk ⟨rfl, rfl, rfl⟩ ?_; conv => whnf))
          · have happ : (∀ c ∈ (cellsP zs).flatten, c.one = true) ∧ ((cellsP os).length + (cellsP zs).length) * 16 ≤ 140737488355328 ∧ (cellsP os).length + (cellsP zs).length ≤ 9223372036854775807 := by
              refine ⟨fun c hc => ?_, ?_, ?_⟩
              · exact cellsP_one zs c hc
              · simp; omega
              · simp; omega
            conv => whnf
            repeat' (first
              | (refine codeK_sound good (mu := [73]) ?_; conv => whnf)
              | ((first | rw [wl0] | rw [wl1] | rw [wl2] | rw [wl3] | rw [wl4] | rw [wl5]); conv => whnf)
              | (refine SBool.mk (fun _ => ?_) (fun h => absurd (of_decide_eq_true rfl) h); conv => whnf)
              | (refine SBool.mk (fun h => absurd h (of_decide_eq_false rfl)) (fun _ => ?_); conv => whnf)
              | (refine SBool.mk (fun h => ?_) (fun h => ?_) <;> conv => whnf)
              | (refine SEx.mk _ (by first | exact happ) ?_; conv => whnf)
              | (refine SEx.mk _ (by first | exact rfl | exact ⟨of_decide_eq_true rfl, rfl⟩) ?_; conv => whnf)
              | (refine SAll.mk (fun _ => ?_); conv => whnf)
              | (refine SAnd.mk (by first | exact happ) ?_; conv => whnf)
              | (refine SAnd.mk ⟨by intro c hc; simp at hc; first | (subst hc; rfl) | ((repeat' (rcases hc with rfl | hc)) <;> first | rfl | (subst hc; rfl)), by (simp; first | done | omega), by (simp; first | done | omega)⟩ ?_; conv => whnf)
              | (refine SAnd.mk (by first | exact rfl | kernel_rfl | omega | decide | exact happ) ?_; conv => whnf)
              | fail)
            refine sort_call (ys := os ++ zs) (by show some _ = some _; simp) (by simp; omega) (fun ys' hperm hsort => ?_)
            conv => whnf
            conv => whnf
            repeat' (first
              | (refine codeK_sound good (mu := []) ?_; conv => whnf)
              | ((first | rw [wl0] | rw [wl1] | rw [wl2] | rw [wl3] | rw [wl4] | rw [wl5]); conv => whnf)
              | (refine SBool.mk (fun _ => ?_) (fun h => absurd (of_decide_eq_true rfl) h); conv => whnf)
              | (refine SBool.mk (fun h => absurd h (of_decide_eq_false rfl)) (fun _ => ?_); conv => whnf)
              | (refine SBool.mk (fun h => ?_) (fun h => ?_) <;> conv => whnf)
              | (refine SEx.mk _ (by first | exact rfl | exact ⟨of_decide_eq_true rfl, rfl⟩) ?_; conv => whnf)
              | (refine SAll.mk (fun _ => ?_); conv => whnf)
              | (refine SAnd.mk ⟨by intro c hc; simp at hc; first | (subst hc; rfl) | ((repeat' (rcases hc with rfl | hc)) <;> first | rfl | (subst hc; rfl)), by (simp; first | done | omega), by (simp; first | done | omega)⟩ ?_; conv => whnf)
              | (refine SAnd.mk (by first | exact rfl | kernel_rfl | omega | decide) ?_; conv => whnf)
              | fail)
            have e := crossL_of (xs := xs) (by rw [← hos, ← hzs]; exact hperm) hsort
            exact ⟨PLe.of_eq (by rw [if_pos h, ← e, h])⟩
  · exact ⟨PLe.of_eq (by rw [if_neg h])⟩
end Go.Proofs.Ab.Tone2
end
section
/- The law's own small functions; lists compared. -/
set_option maxRecDepth 100000
set_option linter.unusedVariables false
set_option linter.unusedSimpArgs false
namespace Go.Proofs.Ab.Tone2
open Go Go.RowKit Go.Proofs.Ab Go.Proofs.Ab.Tone
theorem at_pure {m : Int} (a b : Int) : APure (C m) 70 [I a, I b] (.agg [I a, I b]) := by
  refine APure.of_body good [] (fn := Tryz.f70) (by kernel_rfl) (by kernel_rfl) rfl rfl (by kernel_rfl) rfl (by kernel_rfl) ?_
  conv => whnf
  repeat' (first
    | (refine codeK_sound good (mu := []) ?_; conv => whnf)
    | ((first | rw [wl0] | rw [wl1] | rw [wl2] | rw [wl3] | rw [wl4] | rw [wl5]); conv => whnf)
    | (refine SBool.mk (fun _ => ?_) (fun h => absurd (of_decide_eq_true rfl) h); conv => whnf)
    | (refine SBool.mk (fun h => absurd h (of_decide_eq_false rfl)) (fun _ => ?_); conv => whnf)
    | (refine SBool.mk (fun h => ?_) (fun h => ?_) <;> conv => whnf)
    | (refine SEx.mk _ (by first | exact rfl | exact ⟨of_decide_eq_true rfl, rfl⟩) ?_; conv => whnf)
    | (refine SAll.mk (fun _ => ?_); conv => whnf)
    | (refine SAnd.mk ⟨by intro c hc; simp at hc; first | (subst hc; rfl) | ((repeat' (rcases hc with rfl | hc)) <;> first | rfl | (subst hc; rfl)), by (simp; first | done | omega), by (simp; first | done | omega)⟩ ?_; conv => whnf)
    | (refine SAnd.mk (by first | exact rfl | kernel_rfl | omega | decide) ?_; conv => whnf)
    | fail)
  exact ⟨PLe.refl _⟩
theorem ratio_pure {m : Int} (a b : Int) : APure (C m) 72 [I a, I b] (.agg [I a, I b]) := by
  refine APure.of_body good [] (fn := Tryz.f72) (by kernel_rfl) (by kernel_rfl) rfl rfl (by kernel_rfl) rfl (by kernel_rfl) ?_
  conv => whnf
  repeat' (first
    | (refine codeK_sound good (mu := []) ?_; conv => whnf)
    | ((first | rw [wl0] | rw [wl1] | rw [wl2] | rw [wl3] | rw [wl4] | rw [wl5]); conv => whnf)
    | (refine SBool.mk (fun _ => ?_) (fun h => absurd (of_decide_eq_true rfl) h); conv => whnf)
    | (refine SBool.mk (fun h => absurd h (of_decide_eq_false rfl)) (fun _ => ?_); conv => whnf)
    | (refine SBool.mk (fun h => ?_) (fun h => ?_) <;> conv => whnf)
    | (refine SEx.mk _ (by first | exact rfl | exact ⟨of_decide_eq_true rfl, rfl⟩) ?_; conv => whnf)
    | (refine SAll.mk (fun _ => ?_); conv => whnf)
    | (refine SAnd.mk ⟨by intro c hc; simp at hc; first | (subst hc; rfl) | ((repeat' (rcases hc with rfl | hc)) <;> first | rfl | (subst hc; rfl)), by (simp; first | done | omega), by (simp; first | done | omega)⟩ ?_; conv => whnf)
    | (refine SAnd.mk (by first | exact rfl | kernel_rfl | omega | decide) ?_; conv => whnf)
    | fail)
  exact ⟨PLe.refl _⟩
theorem span_pure {m : Int} (a b : Int) : APure (C m) 84 [I a, I b] (.agg [I a, I b]) := by
  refine APure.of_body good [] (fn := Tryz.f84) (by kernel_rfl) (by kernel_rfl) rfl rfl (by kernel_rfl) rfl (by kernel_rfl) ?_
  conv => whnf
  repeat' (first
    | (refine codeK_sound good (mu := []) ?_; conv => whnf)
    | ((first | rw [wl0] | rw [wl1] | rw [wl2] | rw [wl3] | rw [wl4] | rw [wl5]); conv => whnf)
    | (refine SBool.mk (fun _ => ?_) (fun h => absurd (of_decide_eq_true rfl) h); conv => whnf)
    | (refine SBool.mk (fun h => absurd h (of_decide_eq_false rfl)) (fun _ => ?_); conv => whnf)
    | (refine SBool.mk (fun h => ?_) (fun h => ?_) <;> conv => whnf)
    | (refine SEx.mk _ (by first | exact rfl | exact ⟨of_decide_eq_true rfl, rfl⟩) ?_; conv => whnf)
    | (refine SAll.mk (fun _ => ?_); conv => whnf)
    | (refine SAnd.mk ⟨by intro c hc; simp at hc; first | (subst hc; rfl) | ((repeat' (rcases hc with rfl | hc)) <;> first | rfl | (subst hc; rfl)), by (simp; first | done | omega), by (simp; first | done | omega)⟩ ?_; conv => whnf)
    | (refine SAnd.mk (by first | exact rfl | kernel_rfl | omega | decide) ?_; conv => whnf)
    | fail)
  exact ⟨PLe.refl _⟩
theorem to_pure {m : Int} (a b : Int) : APure (C m) 79 [I a, I b] (.agg [I a, I b]) := by
  refine APure.of_body good [] (fn := Tryz.f79) (by kernel_rfl) (by kernel_rfl) rfl rfl (by kernel_rfl) rfl (by kernel_rfl) ?_
  conv => whnf
  repeat' (first
    | (refine codeK_sound good (mu := []) ?_; conv => whnf)
    | ((first | rw [wl0] | rw [wl1] | rw [wl2] | rw [wl3] | rw [wl4] | rw [wl5]); conv => whnf)
    | (refine SBool.mk (fun _ => ?_) (fun h => absurd (of_decide_eq_true rfl) h); conv => whnf)
    | (refine SBool.mk (fun h => absurd h (of_decide_eq_false rfl)) (fun _ => ?_); conv => whnf)
    | (refine SBool.mk (fun h => ?_) (fun h => ?_) <;> conv => whnf)
    | (refine SEx.mk _ (by first | exact rfl | exact ⟨of_decide_eq_true rfl, rfl⟩) ?_; conv => whnf)
    | (refine SAll.mk (fun _ => ?_); conv => whnf)
    | (refine SAnd.mk ⟨by intro c hc; simp at hc; first | (subst hc; rfl) | ((repeat' (rcases hc with rfl | hc)) <;> first | rfl | (subst hc; rfl)), by (simp; first | done | omega), by (simp; first | done | omega)⟩ ?_; conv => whnf)
    | (refine SAnd.mk (by first | exact rfl | kernel_rfl | omega | decide) ?_; conv => whnf)
    | fail)
  exact ⟨PLe.refl _⟩
theorem of_pure {m : Int} (a b c : Int) : APure (C m) 82 [I a, I b, I c] (.agg [I a, I 0, I b, I 0, I c, I 0]) := by
  refine APure.of_body good [] (fn := Tryz.f82) (by kernel_rfl) (by kernel_rfl) rfl rfl (by kernel_rfl) rfl (by kernel_rfl) ?_
  conv => whnf
  repeat' (first
    | (refine codeK_sound good (mu := []) ?_; conv => whnf)
    | ((first | rw [wl0] | rw [wl1] | rw [wl2] | rw [wl3] | rw [wl4] | rw [wl5]); conv => whnf)
    | (refine SBool.mk (fun _ => ?_) (fun h => absurd (of_decide_eq_true rfl) h); conv => whnf)
    | (refine SBool.mk (fun h => absurd h (of_decide_eq_false rfl)) (fun _ => ?_); conv => whnf)
    | (refine SBool.mk (fun h => ?_) (fun h => ?_) <;> conv => whnf)
    | (refine SEx.mk _ (by first | exact at_pure _ _) ?_; conv => whnf)
    | (refine SEx.mk _ (by first | exact rfl | exact ⟨of_decide_eq_true rfl, rfl⟩) ?_; conv => whnf)
    | (refine SAll.mk (fun _ => ?_); conv => whnf)
    | (refine SAnd.mk ⟨by intro c hc; simp at hc; first | (subst hc; rfl) | ((repeat' (rcases hc with rfl | hc)) <;> first | rfl | (subst hc; rfl)), by (simp; first | done | omega), by (simp; first | done | omega)⟩ ?_; conv => whnf)
    | (refine SAnd.mk (by first | exact rfl | kernel_rfl | omega | decide | exact at_pure _ _) ?_; conv => whnf)
    | fail)
  exact ⟨PLe.refl _⟩
theorem set_pure {m : Int} : APure (C m) 83 [] (.agg [I 100, I 30, I 50, I 200, I 600]) := by
  refine APure.of_body good [] (fn := Tryz.f83) (by kernel_rfl) (by kernel_rfl) rfl rfl (by kernel_rfl) rfl (by kernel_rfl) ?_
  conv => whnf
  repeat' (first
    | (refine codeK_sound good (mu := []) ?_; conv => whnf)
    | ((first | rw [wl0] | rw [wl1] | rw [wl2] | rw [wl3] | rw [wl4] | rw [wl5]); conv => whnf)
    | (refine SBool.mk (fun _ => ?_) (fun h => absurd (of_decide_eq_true rfl) h); conv => whnf)
    | (refine SBool.mk (fun h => absurd h (of_decide_eq_false rfl)) (fun _ => ?_); conv => whnf)
    | (refine SBool.mk (fun h => ?_) (fun h => ?_) <;> conv => whnf)
    | (refine SEx.mk _ (by first | exact to_pure _ _) ?_; conv => whnf)
    | (refine SEx.mk _ (by first | exact rfl | exact ⟨of_decide_eq_true rfl, rfl⟩) ?_; conv => whnf)
    | (refine SAll.mk (fun _ => ?_); conv => whnf)
    | (refine SAnd.mk ⟨by intro c hc; simp at hc; first | (subst hc; rfl) | ((repeat' (rcases hc with rfl | hc)) <;> first | rfl | (subst hc; rfl)), by (simp; first | done | omega), by (simp; first | done | omega)⟩ ?_; conv => whnf)
    | (refine SAnd.mk (by first | exact rfl | kernel_rfl | omega | decide | exact to_pure _ _) ?_; conv => whnf)
    | fail)
  exact ⟨PLe.refl _⟩
theorem PLe.nil (sz : Nat) : PLe nilS (.seq sz []) := fun w ok u h => by
  rw [v_inv h]
  exact .seq sz [] none 0 0 [] rfl (Nat.le_refl _) (Nat.zero_le _) (by simp) rfl (by simp) (by omega)
theorem take_eq_succ {α : Type} {a b : List α} {k : Nat} (ha : k < a.length) (hb : k < b.length) (h : a.take k = b.take k) (he : a[k] = b[k]) : a.take (k + 1) = b.take (k + 1) := by
  rw [List.take_succ_eq_append_getElem ha, List.take_succ_eq_append_getElem hb, h, he]
theorem take_ne {α : Type} {a b : List α} {k : Nat} (ha : k < a.length) (hb : k < b.length) (he : ¬ a[k] = b[k]) : a ≠ b := fun e => he (by subst e; rfl)
theorem sameInts_pure {m : Int} (a b : List Int) (hl : a.length ≤ 1000000) : APure (C m) 46 [.seq 1 (cells1 a), .seq 1 (cells1 b)] (Bo (decide (a = b))) := by
  have ea : (cells1 a).length = a.length := by simp [cells1]
  have eb : (cells1 b).length = b.length := by simp [cells1]
  refine APure.of_body good [] (fn := Tryz.f46) (by kernel_rfl) (by kernel_rfl) rfl rfl (by kernel_rfl) rfl (by kernel_rfl) ?_
  conv => whnf
  repeat' (first
    | (refine codeK_sound good (mu := []) ?_; conv => whnf)
    | ((first | rw [wl0] | rw [wl1] | rw [wl2] | rw [wl3] | rw [wl4] | rw [wl5]); conv => whnf)
    | (refine SBool.mk (fun _ => ?_) (fun h => absurd (of_decide_eq_true rfl) h); conv => whnf)
    | (refine SBool.mk (fun h => absurd h (of_decide_eq_false rfl)) (fun _ => ?_); conv => whnf)
    | (refine SBool.mk (fun h => ?_) (fun h => ?_) <;> conv => whnf)
    | (refine SEx.mk _ (by first | exact rfl | exact ⟨of_decide_eq_true rfl, rfl⟩) ?_; conv => whnf)
    | (refine SAll.mk (fun _ => ?_); conv => whnf)
    | (refine SAnd.mk ⟨by intro c hc; simp at hc; first | (subst hc; rfl) | ((repeat' (rcases hc with rfl | hc)) <;> first | rfl | (subst hc; rfl)), by (simp; first | done | omega), by (simp; first | done | omega)⟩ ?_; conv => whnf)
    | (refine SAnd.mk (by first | exact rfl | kernel_rfl | omega | decide) ?_; conv => whnf)
    | fail)
  · have hab : a.length = b.length := by rw [ea, eb] at h; omega
    refine ⟨AWp.loop (ι := { k : Nat // k ≤ a.length ∧ a.take k = b.take k }) (fun k => ⟨[(5, .p (I k.1)), (1, .p (.seq 1 (cells1 b))), (0, .p (.seq 1 (cells1 a)))], [], [], 0, [], [], []⟩) (fun k => a.length - k.1) ⟨0, by simp⟩ ?_ ?_⟩
    · skip
      · refine SLe.of [] [] rfl rfl ?_
        conv => whnf
        repeat' (first
        | exact True.intro
        | (refine SAnd.mk (PLe.of_eq (by simp only [wrapK]; rw [wrap_id (by first | omega | (simp only; done) | (simp only; omega) | simp) (by first | omega | (simp only; done) | (simp only; omega) | simp)]; simp)) ?_; conv => whnf)
        | (refine SAnd.mk (PLe.refl _) ?_; conv => whnf)
        | (refine SAnd.mk (PLeL.refl _) ?_; conv => whnf)
        | (refine SAnd.mk (PLe.of_eq (by simp)) ?_; conv => whnf)
        | (refine SAnd.mk rfl ?_; conv => whnf)
        | (refine SAnd.mk ⟨rfl, rfl⟩ ?_; conv => whnf)
        | (refine SAnd.mk ⟨rfl, rfl, rfl⟩ ?_; conv => whnf))
    · rintro ⟨k, hk, hab2⟩
      refine codeK_sound good (mu := []) ?_
      conv => whnf
      refine SBool.mk (fun hc => ?_) (fun hc => ?_)
      · have hc' : (k : Int) < ((cells1 a).length : Int) := hc
        have hkl : k < a.length := by rw [ea] at hc'; omega
        have hkb : k < b.length := by omega
        have hea : 0 ≤ (k : Int) ∧ (cells1 a)[((k : Int)).toNat]? = some [I a[k]] := ⟨by omega, by show (cells1 a)[k]? = _; simp [cells1, hkl]⟩
        have heb : 0 ≤ (k : Int) ∧ (cells1 b)[((k : Int)).toNat]? = some [I b[k]] := ⟨by omega, by show (cells1 b)[k]? = _; simp [cells1, hkb]⟩
        have wk : wrapK IntKind.i64 ((k : Int) + 1) = k + 1 := w64 (by omega)
        conv => whnf
        repeat' (first
          | (refine codeK_sound good (mu := []) ?_; conv => whnf)
          | ((first | rw [wl0] | rw [wl1] | rw [wl2] | rw [wl3] | rw [wl4] | rw [wl5]); conv => whnf)
          | (refine SBool.mk (fun _ => ?_) (fun h => absurd (of_decide_eq_true rfl) h); conv => whnf)
          | (refine SBool.mk (fun h => absurd h (of_decide_eq_false rfl)) (fun _ => ?_); conv => whnf)
          | (refine SBool.mk (fun h => ?_) (fun h => ?_) <;> conv => whnf)
          | (refine SEx.mk _ (by first | exact hea | exact heb) ?_; conv => whnf)
          | (refine SEx.mk _ (by first | exact rfl | exact ⟨of_decide_eq_true rfl, rfl⟩) ?_; conv => whnf)
          | (refine SAll.mk (fun _ => ?_); conv => whnf)
          | (refine SAnd.mk (by first | exact hea | exact heb) ?_; conv => whnf)
          | (refine SAnd.mk ⟨by intro c hc; simp at hc; first | (subst hc; rfl) | ((repeat' (rcases hc with rfl | hc)) <;> first | rfl | (subst hc; rfl)), by (simp; first | done | omega), by (simp; first | done | omega)⟩ ?_; conv => whnf)
          | (refine SAnd.mk (by first | exact rfl | kernel_rfl | omega | decide | exact hea | exact heb) ?_; conv => whnf)
          | fail)
        · refine ⟨⟨k + 1, by omega, take_eq_succ hkl hkb hab2 h⟩, by simp only; omega, ?_⟩
          skip
          · refine SLe.of [] [] rfl rfl ?_
            conv => whnf
            repeat' (first
            | exact True.intro
            | (refine SAnd.mk (PLe.of_eq (by simp only [wrapK]; rw [wrap_id (by first | omega | (simp only; done) | (simp only; omega) | simp) (by first | omega | (simp only; done) | (simp only; omega) | simp)]; simp)) ?_; conv => whnf)
            | (refine SAnd.mk (PLe.refl _) ?_; conv => whnf)
            | (refine SAnd.mk (PLeL.refl _) ?_; conv => whnf)
            | (refine SAnd.mk (PLe.of_eq (by simp)) ?_; conv => whnf)
            | (refine SAnd.mk rfl ?_; conv => whnf)
            | (refine SAnd.mk ⟨rfl, rfl⟩ ?_; conv => whnf)
            | (refine SAnd.mk ⟨rfl, rfl, rfl⟩ ?_; conv => whnf))
        · exact ⟨PLe.of_eq (by rw [decide_eq_false (take_ne hkl hkb h)])⟩
      · have hc' : ¬ (k : Int) < ((cells1 a).length : Int) := hc
        have hkl : k = a.length := by rw [ea] at hc'; omega
        have e : a = b := by
          rw [hkl, List.take_length] at hab2
          rw [hab2, hab, List.take_length]
        conv => whnf
        repeat' (first
          | (refine codeK_sound good (mu := []) ?_; conv => whnf)
          | ((first | rw [wl0] | rw [wl1] | rw [wl2] | rw [wl3] | rw [wl4] | rw [wl5]); conv => whnf)
          | (refine SBool.mk (fun _ => ?_) (fun h => absurd (of_decide_eq_true rfl) h); conv => whnf)
          | (refine SBool.mk (fun h => absurd h (of_decide_eq_false rfl)) (fun _ => ?_); conv => whnf)
          | (refine SBool.mk (fun h => ?_) (fun h => ?_) <;> conv => whnf)
          | (refine SEx.mk _ (by first | exact rfl | exact ⟨of_decide_eq_true rfl, rfl⟩) ?_; conv => whnf)
          | (refine SAll.mk (fun _ => ?_); conv => whnf)
          | (refine SAnd.mk ⟨by intro c hc; simp at hc; first | (subst hc; rfl) | ((repeat' (rcases hc with rfl | hc)) <;> first | rfl | (subst hc; rfl)), by (simp; first | done | omega), by (simp; first | done | omega)⟩ ?_; conv => whnf)
          | (refine SAnd.mk (by first | exact rfl | kernel_rfl | omega | decide) ?_; conv => whnf)
          | fail)
        exact ⟨PLe.of_eq (by rw [decide_eq_true e])⟩
  · have hab : a ≠ b := fun e => by subst e; exact h rfl
    exact ⟨PLe.of_eq (by rw [decide_eq_false hab])⟩
theorem eq_span (a b c d : Int) : EqAgg Tone.C 143 [I a, I b] [I c, I d] (decide (a = c ∧ b = d)) :=
  eqAgg2 (f1 := ⟨ "From", 3, 0, false, "", "", 0⟩) (f2 := ⟨ "To", 3, 1, false, "", "", 8⟩) (by kernel_rfl) (by kernel_rfl) (by kernel_rfl) (by decide) (by decide) (by kernel_rfl) (by kernel_rfl) rfl rfl (by kernel_rfl) a b c d
theorem sameSpans_pure {m : Int} (a b : List Sp) (hl : a.length ≤ 1000000) : APure (C m) 62 [seqP a, seqP b] (Bo (decide (a = b))) := by
  have ea : (cellsP a).length = a.length := by simp [cellsP]
  have eb : (cellsP b).length = b.length := by simp [cellsP]
  refine APure.of_body good [] (fn := Tryz.f62) (by kernel_rfl) (by kernel_rfl) rfl rfl (by kernel_rfl) rfl (by kernel_rfl) ?_
  conv => whnf
  repeat' (first
    | (refine codeK_sound good (mu := []) ?_; conv => whnf)
    | ((first | rw [wl0] | rw [wl1] | rw [wl2] | rw [wl3] | rw [wl4] | rw [wl5]); conv => whnf)
    | (refine SBool.mk (fun _ => ?_) (fun h => absurd (of_decide_eq_true rfl) h); conv => whnf)
    | (refine SBool.mk (fun h => absurd h (of_decide_eq_false rfl)) (fun _ => ?_); conv => whnf)
    | (refine SBool.mk (fun h => ?_) (fun h => ?_) <;> conv => whnf)
    | (refine SEx.mk _ (by first | exact rfl | exact ⟨of_decide_eq_true rfl, rfl⟩) ?_; conv => whnf)
    | (refine SAll.mk (fun _ => ?_); conv => whnf)
    | (refine SAnd.mk ⟨by intro c hc; simp at hc; first | (subst hc; rfl) | ((repeat' (rcases hc with rfl | hc)) <;> first | rfl | (subst hc; rfl)), by (simp; first | done | omega), by (simp; first | done | omega)⟩ ?_; conv => whnf)
    | (refine SAnd.mk (by first | exact rfl | kernel_rfl | omega | decide) ?_; conv => whnf)
    | fail)
  · have hab : a.length = b.length := by rw [ea, eb] at h; omega
    refine ⟨AWp.loop (ι := { k : Nat // k ≤ a.length ∧ a.take k = b.take k }) (fun k => ⟨[(5, .p (I k.1)), (1, .p (seqP b)), (0, .p (seqP a))], [], [], 0, [], [], []⟩) (fun k => a.length - k.1) ⟨0, by simp⟩ ?_ ?_⟩
    · skip
      · refine SLe.of [] [] rfl rfl ?_
        conv => whnf
        repeat' (first
        | exact True.intro
        | (refine SAnd.mk (PLe.of_eq (by simp only [wrapK]; rw [wrap_id (by first | omega | (simp only; done) | (simp only; omega) | simp) (by first | omega | (simp only; done) | (simp only; omega) | simp)]; simp)) ?_; conv => whnf)
        | (refine SAnd.mk (PLe.refl _) ?_; conv => whnf)
        | (refine SAnd.mk (PLeL.refl _) ?_; conv => whnf)
        | (refine SAnd.mk (PLe.of_eq (by simp)) ?_; conv => whnf)
        | (refine SAnd.mk rfl ?_; conv => whnf)
        | (refine SAnd.mk ⟨rfl, rfl⟩ ?_; conv => whnf)
        | (refine SAnd.mk ⟨rfl, rfl, rfl⟩ ?_; conv => whnf))
    · rintro ⟨k, hk, hab2⟩
      refine codeK_sound good (mu := []) ?_
      conv => whnf
      refine SBool.mk (fun hc => ?_) (fun hc => ?_)
      · have hc' : (k : Int) < ((cellsP a).length : Int) := hc
        have hkl : k < a.length := by rw [ea] at hc'; omega
        have hkb : k < b.length := by omega
        have hea : 0 ≤ (k : Int) ∧ (cellsP a)[((k : Int)).toNat]? = some [I a[k].1, I a[k].2] := ⟨by omega, by show (cellsP a)[k]? = _; simp [cellsP, hkl]⟩
        have heb : 0 ≤ (k : Int) ∧ (cellsP b)[((k : Int)).toNat]? = some [I b[k].1, I b[k].2] := ⟨by omega, by show (cellsP b)[k]? = _; simp [cellsP, hkb]⟩
        have wk : wrapK IntKind.i64 ((k : Int) + 1) = k + 1 := w64 (by omega)
        conv => whnf
        repeat' (first
          | (refine codeK_sound good (mu := []) ?_; conv => whnf)
          | ((first | rw [wl0] | rw [wl1] | rw [wl2] | rw [wl3] | rw [wl4] | rw [wl5]); conv => whnf)
          | (refine SBool.mk (fun _ => ?_) (fun h => absurd (of_decide_eq_true rfl) h); conv => whnf)
          | (refine SBool.mk (fun h => absurd h (of_decide_eq_false rfl)) (fun _ => ?_); conv => whnf)
          | (refine SBool.mk (fun h => ?_) (fun h => ?_) <;> conv => whnf)
          | (refine SEx.mk _ (by first | exact hea | exact heb | exact eq_span _ _ _ _) ?_; conv => whnf)
          | (refine SEx.mk _ (by first | exact rfl | exact ⟨of_decide_eq_true rfl, rfl⟩) ?_; conv => whnf)
          | (refine SAll.mk (fun _ => ?_); conv => whnf)
          | (refine SAnd.mk (by first | exact hea | exact heb) ?_; conv => whnf)
          | (refine SAnd.mk ⟨by intro c hc; simp at hc; first | (subst hc; rfl) | ((repeat' (rcases hc with rfl | hc)) <;> first | rfl | (subst hc; rfl)), by (simp; first | done | omega), by (simp; first | done | omega)⟩ ?_; conv => whnf)
          | (refine SAnd.mk (by first | exact rfl | kernel_rfl | omega | decide | exact hea | exact heb | exact eq_span _ _ _ _) ?_; conv => whnf)
          | fail)
        · have he : a[k] = b[k] := by
            have := of_decide_eq_true h
            exact Prod.ext this.1 this.2
          refine ⟨⟨k + 1, by omega, take_eq_succ hkl hkb hab2 he⟩, by simp only; omega, ?_⟩
          skip
          · refine SLe.of [] [] rfl rfl ?_
            conv => whnf
            repeat' (first
            | exact True.intro
            | (refine SAnd.mk (PLe.of_eq (by simp only [wrapK]; rw [wrap_id (by first | omega | (simp only; done) | (simp only; omega) | simp) (by first | omega | (simp only; done) | (simp only; omega) | simp)]; simp)) ?_; conv => whnf)
            | (refine SAnd.mk (PLe.refl _) ?_; conv => whnf)
            | (refine SAnd.mk (PLeL.refl _) ?_; conv => whnf)
            | (refine SAnd.mk (PLe.of_eq (by simp)) ?_; conv => whnf)
            | (refine SAnd.mk rfl ?_; conv => whnf)
            | (refine SAnd.mk ⟨rfl, rfl⟩ ?_; conv => whnf)
            | (refine SAnd.mk ⟨rfl, rfl, rfl⟩ ?_; conv => whnf))
        · have he : ¬ a[k] = b[k] := fun e => h (by simp [e])
          exact ⟨PLe.of_eq (by rw [decide_eq_false (take_ne hkl hkb he)])⟩
      · have hc' : ¬ (k : Int) < ((cellsP a).length : Int) := hc
        have hkl : k = a.length := by rw [ea] at hc'; omega
        have e : a = b := by
          rw [hkl, List.take_length] at hab2
          rw [hab2, hab, List.take_length]
        conv => whnf
        repeat' (first
          | (refine codeK_sound good (mu := []) ?_; conv => whnf)
          | ((first | rw [wl0] | rw [wl1] | rw [wl2] | rw [wl3] | rw [wl4] | rw [wl5]); conv => whnf)
          | (refine SBool.mk (fun _ => ?_) (fun h => absurd (of_decide_eq_true rfl) h); conv => whnf)
          | (refine SBool.mk (fun h => absurd h (of_decide_eq_false rfl)) (fun _ => ?_); conv => whnf)
          | (refine SBool.mk (fun h => ?_) (fun h => ?_) <;> conv => whnf)
          | (refine SEx.mk _ (by first | exact rfl | exact ⟨of_decide_eq_true rfl, rfl⟩) ?_; conv => whnf)
          | (refine SAll.mk (fun _ => ?_); conv => whnf)
          | (refine SAnd.mk ⟨by intro c hc; simp at hc; first | (subst hc; rfl) | ((repeat' (rcases hc with rfl | hc)) <;> first | rfl | (subst hc; rfl)), by (simp; first | done | omega), by (simp; first | done | omega)⟩ ?_; conv => whnf)
          | (refine SAnd.mk (by first | exact rfl | kernel_rfl | omega | decide) ?_; conv => whnf)
          | fail)
        exact ⟨PLe.of_eq (by rw [decide_eq_true e])⟩
  · have hab : a ≠ b := fun e => by subst e; exact h rfl
    exact ⟨PLe.of_eq (by rw [decide_eq_false hab])⟩
end Go.Proofs.Ab.Tone2
end
section
/- Samples of a signal. -/
set_option maxRecDepth 100000
set_option linter.unusedVariables false
set_option linter.unusedSimpArgs false
namespace Go.Proofs.Ab.Tone
open Go Go.RowKit Go.Proofs.Ab
def smps (s : Sg) : List PV := [cf (smp s 1 1), cf (smp s 1 (-1)), cf (smp s (-1) 1), cf (smp s (-1) (-1))]
def outK (s : Sg) : Nat → List PV
  | 0 => [zc, zc, zc, zc]
  | 1 => [cf (smp s 1 1), zc, zc, zc]
  | 2 => [cf (smp s 1 1), cf (smp s 1 (-1)), zc, zc]
  | 3 => [cf (smp s 1 1), cf (smp s 1 (-1)), cf (smp s (-1) 1), zc]
  | _ => smps s
theorem le4 {k : Nat} (h : k ≤ 4) : k = 0 ∨ k = 1 ∨ k = 2 ∨ k = 3 ∨ k = 4 := by omega
set_option maxHeartbeats 2000000 in
theorem Sampled_pure (s : Sg) : APure C 73 [.agg (sc s)] (.tup [.agg (sampledV s), I (checkE s)]) := by
  refine APure.of_body good [] (fn := Tryz.f73) (by kernel_rfl) (by kernel_rfl) rfl rfl (by kernel_rfl) rfl (by kernel_rfl) ?_
  conv => whnf
  repeat' (first
    | (refine codeK_sound good (mu := []) ?_; conv => whnf)
    | ((first | rw [wl0] | rw [wl1] | rw [wl2] | rw [wl3] | rw [wl4] | rw [wl5]); conv => whnf)
    | (refine SBool.mk (fun _ => ?_) (fun h => absurd (of_decide_eq_true rfl) h); conv => whnf)
    | (refine SBool.mk (fun h => absurd h (of_decide_eq_false rfl)) (fun _ => ?_); conv => whnf)
    | (refine SBool.mk (fun h => ?_) (fun h => ?_) <;> conv => whnf)
    | (refine SEx.mk _ (by first | exact CheckSignal_pure _) ?_; conv => whnf)
    | (refine SEx.mk _ (by first | exact rfl | exact ⟨of_decide_eq_true rfl, rfl⟩) ?_; conv => whnf)
    | (refine SAll.mk (fun _ => ?_); conv => whnf)
    | (refine SAnd.mk ⟨by intro c hc; simp at hc; first | (subst hc; rfl) | ((repeat' (rcases hc with rfl | hc)) <;> first | rfl | (subst hc; rfl)), by (simp; first | done | omega), by (simp; first | done | omega)⟩ ?_; conv => whnf)
    | (refine SAnd.mk (by first | exact rfl | kernel_rfl | omega | decide | exact CheckSignal_pure _) ?_; conv => whnf)
    | fail)
  · have hv := checkE_zero.1 h
    have hf := hv.fit
    have u1 : G.Fit ⟨1, 0⟩ 1000000 := ⟨by decide, by decide⟩
    have u2 : G.Fit ⟨-1, 0⟩ 1000000 := ⟨by decide, by decide⟩
    have l1 := times_fit s.l ⟨1, 0⟩ (hf.l.mono (by decide)) u1
    have l2 := times_fit s.l ⟨-1, 0⟩ (hf.l.mono (by decide)) u2
    have h1 := times_fit s.h ⟨1, 0⟩ (hf.h.mono (by decide)) u1
    have h2 := times_fit s.h ⟨-1, 0⟩ (hf.h.mono (by decide)) u2
    have fl1 := mul_fit hf.l (σ := 1) (.inl rfl)
    have fl2 := mul_fit hf.l (σ := -1) (.inr rfl)
    have fh1 := mul_fit hf.h (σ := 1) (.inl rfl)
    have fh2 := mul_fit hf.h (σ := -1) (.inr rfl)
    have p1 := plus_fit s.c (s.l.mul ⟨1, 0⟩) 10000 (by decide) hf.c fl1
    have p2 := plus_fit s.c (s.l.mul ⟨-1, 0⟩) 10000 (by decide) hf.c fl2
    have fp1 := hf.c.add fl1
    have fp2 := hf.c.add fl2
    have q1 := plus_fit (s.c.add (s.l.mul ⟨1, 0⟩)) (s.h.mul ⟨1, 0⟩) 20000 (by decide) fp1 (fh1.mono (by decide))
    have q2 := plus_fit (s.c.add (s.l.mul ⟨1, 0⟩)) (s.h.mul ⟨-1, 0⟩) 20000 (by decide) fp1 (fh2.mono (by decide))
    have q3 := plus_fit (s.c.add (s.l.mul ⟨-1, 0⟩)) (s.h.mul ⟨1, 0⟩) 20000 (by decide) fp2 (fh1.mono (by decide))
    have q4 := plus_fit (s.c.add (s.l.mul ⟨-1, 0⟩)) (s.h.mul ⟨-1, 0⟩) 20000 (by decide) fp2 (fh2.mono (by decide))
    refine ⟨AWp.loop (ι := { k : Nat // k ≤ 4 }) (fun k => ⟨[(16, .p (I k.1)), (4, .box 1 0), (2, .box 0 0), (1, .p (.ref (sc s)))], [(0, (120, [zc, zc, zc, zc])), (1, (120, outK s k.1))], [], 2, [], [], []⟩) (fun k => 4 - k.1) ⟨0, by omega⟩ ?_ ?_⟩
    · refine SLe.of [(0, 0), (1, 1)] [] rfl rfl ?_
      conv => whnf
      repeat' (first
      | exact True.intro
      | (refine SAnd.mk (PLe.of_eq (by simp only [wrapK]; rw [wrap_id (by first | omega | (simp only; done) | (simp only; omega) | simp) (by first | omega | (simp only; done) | (simp only; omega) | simp)]; simp)) ?_; conv => whnf)
      | (refine SAnd.mk (PLe.refl _) ?_; conv => whnf)
      | (refine SAnd.mk (PLeL.refl _) ?_; conv => whnf)
      | (refine SAnd.mk (PLe.of_eq (by simp)) ?_; conv => whnf)
      | (refine SAnd.mk rfl ?_; conv => whnf)
      | (refine SAnd.mk ⟨rfl, rfl⟩ ?_; conv => whnf)
      | (refine SAnd.mk ⟨rfl, rfl, rfl⟩ ?_; conv => whnf))
    · rintro ⟨k, hk⟩
      rcases le4 hk with rfl | rfl | rfl | rfl | rfl
      · as_aux_lemma =>
          conv => whnf
          repeat' (first
            | (refine codeK_sound good (mu := []) ?_; conv => whnf)
            | ((first | rw [wl0] | rw [wl1] | rw [wl2] | rw [wl3] | rw [wl4] | rw [wl5]); conv => whnf)
            | (refine SBool.mk (fun _ => ?_) (fun h => absurd (of_decide_eq_true rfl) h); conv => whnf)
            | (refine SBool.mk (fun h => absurd h (of_decide_eq_false rfl)) (fun _ => ?_); conv => whnf)
            | (refine SBool.mk (fun h => ?_) (fun h => ?_) <;> conv => whnf)
            | refine SCode.mk (AWp.rounds 3 ?_)
            | (refine SEx.mk _ (by first | exact tones_pure | exact tones1_pure s | exact tones2_pure s | exact l1 | exact h1 | exact p1 | exact q1 | exact sample_pure _) ?_; conv => whnf)
            | (refine SEx.mk _ (by first | exact rfl | exact ⟨of_decide_eq_true rfl, rfl⟩) ?_; conv => whnf)
            | (refine SAll.mk (fun _ => ?_); conv => whnf)
            | (refine SAnd.mk (by first | exact h1) ?_; conv => whnf)
            | (refine SAnd.mk ⟨by intro c hc; simp at hc; first | (subst hc; rfl) | ((repeat' (rcases hc with rfl | hc)) <;> first | rfl | (subst hc; rfl)), by (simp; first | done | omega), by (simp; first | done | omega)⟩ ?_; conv => whnf)
            | (refine SAnd.mk (by first | exact rfl | kernel_rfl | omega | decide | exact tones_pure | exact tones1_pure s | exact tones2_pure s | exact l1 | exact h1 | exact p1 | exact q1 | exact sample_pure _) ?_; conv => whnf)
            | fail)
          refine ⟨⟨1, by omega⟩, by simp only; omega, ?_⟩
          · refine SLe.of [(0, 0), (1, 1)] [] rfl rfl ?_
            conv => whnf
            repeat' (first
            | exact True.intro
            | (refine SAnd.mk (PLe.of_eq (by simp only [wrapK]; rw [wrap_id (by first | omega | (simp only; done) | (simp only; omega) | simp) (by first | omega | (simp only; done) | (simp only; omega) | simp)]; simp)) ?_; conv => whnf)
            | (refine SAnd.mk (PLe.refl _) ?_; conv => whnf)
            | (refine SAnd.mk (PLeL.refl _) ?_; conv => whnf)
            | (refine SAnd.mk (PLe.of_eq (by simp)) ?_; conv => whnf)
            | (refine SAnd.mk rfl ?_; conv => whnf)
            | (refine SAnd.mk ⟨rfl, rfl⟩ ?_; conv => whnf)
            | (refine SAnd.mk ⟨rfl, rfl, rfl⟩ ?_; conv => whnf))
      · as_aux_lemma =>
          conv => whnf
          repeat' (first
            | (refine codeK_sound good (mu := []) ?_; conv => whnf)
            | ((first | rw [wl0] | rw [wl1] | rw [wl2] | rw [wl3] | rw [wl4] | rw [wl5]); conv => whnf)
            | (refine SBool.mk (fun _ => ?_) (fun h => absurd (of_decide_eq_true rfl) h); conv => whnf)
            | (refine SBool.mk (fun h => absurd h (of_decide_eq_false rfl)) (fun _ => ?_); conv => whnf)
            | (refine SBool.mk (fun h => ?_) (fun h => ?_) <;> conv => whnf)
            | refine SCode.mk (AWp.rounds 3 ?_)
            | (refine SEx.mk _ (by first | exact tones_pure | exact tones1_pure s | exact tones2_pure s | exact l1 | exact h2 | exact p1 | exact q2 | exact sample_pure _) ?_; conv => whnf)
            | (refine SEx.mk _ (by first | exact rfl | exact ⟨of_decide_eq_true rfl, rfl⟩) ?_; conv => whnf)
            | (refine SAll.mk (fun _ => ?_); conv => whnf)
            | (refine SAnd.mk (by first | exact h2) ?_; conv => whnf)
            | (refine SAnd.mk ⟨by intro c hc; simp at hc; first | (subst hc; rfl) | ((repeat' (rcases hc with rfl | hc)) <;> first | rfl | (subst hc; rfl)), by (simp; first | done | omega), by (simp; first | done | omega)⟩ ?_; conv => whnf)
            | (refine SAnd.mk (by first | exact rfl | kernel_rfl | omega | decide | exact tones_pure | exact tones1_pure s | exact tones2_pure s | exact l1 | exact h2 | exact p1 | exact q2 | exact sample_pure _) ?_; conv => whnf)
            | fail)
          refine ⟨⟨2, by omega⟩, by simp only; omega, ?_⟩
          · refine SLe.of [(0, 0), (1, 1)] [] rfl rfl ?_
            conv => whnf
            repeat' (first
            | exact True.intro
            | (refine SAnd.mk (PLe.of_eq (by simp only [wrapK]; rw [wrap_id (by first | omega | (simp only; done) | (simp only; omega) | simp) (by first | omega | (simp only; done) | (simp only; omega) | simp)]; simp)) ?_; conv => whnf)
            | (refine SAnd.mk (PLe.refl _) ?_; conv => whnf)
            | (refine SAnd.mk (PLeL.refl _) ?_; conv => whnf)
            | (refine SAnd.mk (PLe.of_eq (by simp)) ?_; conv => whnf)
            | (refine SAnd.mk rfl ?_; conv => whnf)
            | (refine SAnd.mk ⟨rfl, rfl⟩ ?_; conv => whnf)
            | (refine SAnd.mk ⟨rfl, rfl, rfl⟩ ?_; conv => whnf))
      · as_aux_lemma =>
          conv => whnf
          repeat' (first
            | (refine codeK_sound good (mu := []) ?_; conv => whnf)
            | ((first | rw [wl0] | rw [wl1] | rw [wl2] | rw [wl3] | rw [wl4] | rw [wl5]); conv => whnf)
            | (refine SBool.mk (fun _ => ?_) (fun h => absurd (of_decide_eq_true rfl) h); conv => whnf)
            | (refine SBool.mk (fun h => absurd h (of_decide_eq_false rfl)) (fun _ => ?_); conv => whnf)
            | (refine SBool.mk (fun h => ?_) (fun h => ?_) <;> conv => whnf)
            | refine SCode.mk (AWp.rounds 3 ?_)
            | (refine SEx.mk _ (by first | exact tones_pure | exact tones1_pure s | exact tones2_pure s | exact l2 | exact h1 | exact p2 | exact q3 | exact sample_pure _) ?_; conv => whnf)
            | (refine SEx.mk _ (by first | exact rfl | exact ⟨of_decide_eq_true rfl, rfl⟩) ?_; conv => whnf)
            | (refine SAll.mk (fun _ => ?_); conv => whnf)
            | (refine SAnd.mk (by first | exact h1) ?_; conv => whnf)
            | (refine SAnd.mk ⟨by intro c hc; simp at hc; first | (subst hc; rfl) | ((repeat' (rcases hc with rfl | hc)) <;> first | rfl | (subst hc; rfl)), by (simp; first | done | omega), by (simp; first | done | omega)⟩ ?_; conv => whnf)
            | (refine SAnd.mk (by first | exact rfl | kernel_rfl | omega | decide | exact tones_pure | exact tones1_pure s | exact tones2_pure s | exact l2 | exact h1 | exact p2 | exact q3 | exact sample_pure _) ?_; conv => whnf)
            | fail)
          refine ⟨⟨3, by omega⟩, by simp only; omega, ?_⟩
          · refine SLe.of [(0, 0), (1, 1)] [] rfl rfl ?_
            conv => whnf
            repeat' (first
            | exact True.intro
            | (refine SAnd.mk (PLe.of_eq (by simp only [wrapK]; rw [wrap_id (by first | omega | (simp only; done) | (simp only; omega) | simp) (by first | omega | (simp only; done) | (simp only; omega) | simp)]; simp)) ?_; conv => whnf)
            | (refine SAnd.mk (PLe.refl _) ?_; conv => whnf)
            | (refine SAnd.mk (PLeL.refl _) ?_; conv => whnf)
            | (refine SAnd.mk (PLe.of_eq (by simp)) ?_; conv => whnf)
            | (refine SAnd.mk rfl ?_; conv => whnf)
            | (refine SAnd.mk ⟨rfl, rfl⟩ ?_; conv => whnf)
            | (refine SAnd.mk ⟨rfl, rfl, rfl⟩ ?_; conv => whnf))
      · as_aux_lemma =>
          conv => whnf
          repeat' (first
            | (refine codeK_sound good (mu := []) ?_; conv => whnf)
            | ((first | rw [wl0] | rw [wl1] | rw [wl2] | rw [wl3] | rw [wl4] | rw [wl5]); conv => whnf)
            | (refine SBool.mk (fun _ => ?_) (fun h => absurd (of_decide_eq_true rfl) h); conv => whnf)
            | (refine SBool.mk (fun h => absurd h (of_decide_eq_false rfl)) (fun _ => ?_); conv => whnf)
            | (refine SBool.mk (fun h => ?_) (fun h => ?_) <;> conv => whnf)
            | refine SCode.mk (AWp.rounds 3 ?_)
            | (refine SEx.mk _ (by first | exact tones_pure | exact tones1_pure s | exact tones2_pure s | exact l2 | exact h2 | exact p2 | exact q4 | exact sample_pure _) ?_; conv => whnf)
            | (refine SEx.mk _ (by first | exact rfl | exact ⟨of_decide_eq_true rfl, rfl⟩) ?_; conv => whnf)
            | (refine SAll.mk (fun _ => ?_); conv => whnf)
            | (refine SAnd.mk (by first | exact h2) ?_; conv => whnf)
            | (refine SAnd.mk ⟨by intro c hc; simp at hc; first | (subst hc; rfl) | ((repeat' (rcases hc with rfl | hc)) <;> first | rfl | (subst hc; rfl)), by (simp; first | done | omega), by (simp; first | done | omega)⟩ ?_; conv => whnf)
            | (refine SAnd.mk (by first | exact rfl | kernel_rfl | omega | decide | exact tones_pure | exact tones1_pure s | exact tones2_pure s | exact l2 | exact h2 | exact p2 | exact q4 | exact sample_pure _) ?_; conv => whnf)
            | fail)
          refine ⟨⟨4, by omega⟩, by simp only; omega, ?_⟩
          · refine SLe.of [(0, 0), (1, 1)] [] rfl rfl ?_
            conv => whnf
            repeat' (first
            | exact True.intro
            | (refine SAnd.mk (PLe.of_eq (by simp only [wrapK]; rw [wrap_id (by first | omega | (simp only; done) | (simp only; omega) | simp) (by first | omega | (simp only; done) | (simp only; omega) | simp)]; simp)) ?_; conv => whnf)
            | (refine SAnd.mk (PLe.refl _) ?_; conv => whnf)
            | (refine SAnd.mk (PLeL.refl _) ?_; conv => whnf)
            | (refine SAnd.mk (PLe.of_eq (by simp)) ?_; conv => whnf)
            | (refine SAnd.mk rfl ?_; conv => whnf)
            | (refine SAnd.mk ⟨rfl, rfl⟩ ?_; conv => whnf)
            | (refine SAnd.mk ⟨rfl, rfl, rfl⟩ ?_; conv => whnf))
      · as_aux_lemma =>
          conv => whnf
          repeat' (first
            | (refine codeK_sound good (mu := []) ?_; conv => whnf)
            | ((first | rw [wl0] | rw [wl1] | rw [wl2] | rw [wl3] | rw [wl4] | rw [wl5]); conv => whnf)
            | (refine SBool.mk (fun _ => ?_) (fun h => absurd (of_decide_eq_true rfl) h); conv => whnf)
            | (refine SBool.mk (fun h => absurd h (of_decide_eq_false rfl)) (fun _ => ?_); conv => whnf)
            | (refine SBool.mk (fun h => ?_) (fun h => ?_) <;> conv => whnf)
            | (refine SEx.mk _ (by first | exact rfl | exact ⟨of_decide_eq_true rfl, rfl⟩) ?_; conv => whnf)
            | (refine SAll.mk (fun _ => ?_); conv => whnf)
            | (refine SAnd.mk ⟨by intro c hc; simp at hc; first | (subst hc; rfl) | ((repeat' (rcases hc with rfl | hc)) <;> first | rfl | (subst hc; rfl)), by (simp; first | done | omega), by (simp; first | done | omega)⟩ ?_; conv => whnf)
            | (refine SAnd.mk (by first | exact rfl | kernel_rfl | omega | decide) ?_; conv => whnf)
            | fail)
          exact ⟨PLe.of_eq (by unfold sampledV; rw [if_pos h, h])⟩
  · exact ⟨PLe.of_eq (by unfold sampledV; rw [if_neg h])⟩
end Go.Proofs.Ab.Tone
end
section
/- Floating point on integers: the operations, run. -/
set_option linter.unusedVariables false
set_option linter.unusedSimpArgs false
namespace Go.Proofs.Ab
open Go Ieee
theorem ord_eq (a b : Int) : (some (compare a b) == some Ordering.eq) = decide (a = b) := by
  simp only [compare, compareOfLessAndEq]
  by_cases h : a < b
  · have : ¬ a = b := by omega
    simp [h, this]
  · by_cases e : a = b <;> simp [h, e]
theorem ord_lt (a b : Int) : (some (compare a b) == some Ordering.lt) = decide (a < b) := by
  simp only [compare, compareOfLessAndEq]
  by_cases h : a < b
  · simp [h]
  · by_cases e : a = b <;> simp [h, e]
theorem ord_gt (a b : Int) : (some (compare a b) == some Ordering.gt) = decide (b < a) := by
  simp only [compare, compareOfLessAndEq]
  by_cases h : a < b
  · have : ¬ b < a := by omega
    simp [h, this]
  · by_cases e : a = b
    · simp [e]
    · have : b < a := by omega
      simp [h, e, this]
section
variable {P : Program} {k : FloatKind} {x y : Nat} {a b : Int} (hx : FInt k x a) (hy : FInt k y b) (t : TypeId)
include hx hy
theorem run_feql (w : World) : (binOp .eql t (.float k x) (.float k y)).run P w = .ok (.bool (decide (a = b))) w := by
  rw [binOp_float_cmp_eql, hx.order hy, ord_eq]; rfl
theorem run_fneq (w : World) : (binOp .neq t (.float k x) (.float k y)).run P w = .ok (.bool (decide (a ≠ b))) w := by
  rw [binOp_float_cmp_neq, hx.order hy, bne, ord_eq]
  by_cases h : a = b <;> simp [h]
theorem run_flss (w : World) : (binOp .lss t (.float k x) (.float k y)).run P w = .ok (.bool (decide (a < b))) w := by
  rw [binOp_float_cmp_lss, hx.order hy, ord_lt]; rfl
theorem run_fgtr (w : World) : (binOp .gtr t (.float k x) (.float k y)).run P w = .ok (.bool (decide (b < a))) w := by
  rw [binOp_float_cmp_gtr, hx.order hy, ord_gt]; rfl
theorem run_fmax : ∃ r, FInt k r (max a b) ∧ ∀ w, (Builtin.max2 (.float k x) (.float k y)).run P w = .ok (.float k r) w := by
  have ho := hx.order hy
  rcases Int.lt_trichotomy a b with h | h | h
  · refine ⟨y, by rw [Int.max_eq_right (by omega)]; exact hy, fun w => ?_⟩
    have hc : compare a b = .lt := by simp [compare, compareOfLessAndEq, h]
    simp [Builtin.max2, ho, hc]
  · subst h
    refine ⟨if (k.decode x).neg then y else x, ?_, fun w => ?_⟩
    · rw [Int.max_self]
      split
      · exact hy
      · exact hx
    · have hc : compare a a = .eq := by simp [compare, compareOfLessAndEq]
      simp [Builtin.max2, ho, hc]
  · refine ⟨x, by rw [Int.max_eq_left (by omega)]; exact hx, fun w => ?_⟩
    have hc : compare a b = .gt := by
      have h1 : ¬ a < b := by omega
      have h2 : ¬ a = b := by omega
      simp [compare, compareOfLessAndEq, h1, h2]
    simp [Builtin.max2, ho, hc]
end
theorem run_fneg {P : Program} (k : FloatKind) (x : Nat) (w : World) : (Op.unary .neg (.float k x)).run P w = .ok (.float k (Op.negFloat k x)) w := rfl
theorem floatEq_int {k : FloatKind} {x y : Nat} {a b : Int} (hx : FInt k x a) (hy : FInt k y b) : Op.floatEq k x y = decide (a = b) := by
  unfold Op.floatEq
  rw [hx.order hy, ord_eq]
theorem FInt.zero32 : FInt .f32 0 0 := (by decide +kernel : floatOfInt .f32 0 = 0) ▸ FInt.ofInt32 (n := 0) (by decide)
theorem FInt.zero64 : FInt .f64 0 0 := (by decide +kernel : floatOfInt .f64 0 = 0) ▸ FInt.ofInt (n := 0) (by decide)
end Go.Proofs.Ab
end
section
/- Panels whose parts are integers. -/
set_option maxRecDepth 100000
set_option linter.unusedVariables false
set_option linter.unusedSimpArgs false
namespace Go.Proofs.Ab.Tone
open Go Go.RowKit Go.Proofs.Ab
theorem f40 : FInt .f64 4787326403894837248 1099511627776 := (by decide +kernel : floatOfInt .f64 1099511627776 = 4787326403894837248) ▸ FInt.ofInt (n := 1099511627776) (by decide)
theorem fmost : FInt .f64 4675730371722084352 40000 := (by decide +kernel : floatOfInt .f64 40000 = 4675730371722084352) ▸ FInt.ofInt (n := 40000) (by decide)
theorem fleast : FInt .f64 13899102408576860160 (-40000) := (by decide +kernel : floatOfInt .f64 (-40000) = 13899102408576860160) ▸ FInt.ofInt (n := -40000) (by decide)
abbrev fp (x : Nat) : PV := .v (.float .f32 x)
abbrev cz (x y : Nat) : PV := .v (.complex .f32 x y)
theorem checkPart_pure {x : Nat} {n : Int} (hx : FInt .f32 x n) (hn : n.natAbs < 16777216) : APure C 183 [fp x] (I (within n (-40000) 40000)) := by
  obtain ⟨y, hy, fy⟩ := hx.wide (by omega)
  obtain ⟨z, hz, fz⟩ := fy.sub fy (by omega)
  have fng := fy.neg
  obtain ⟨m, fm, hm⟩ := run_fmax (P := C.P) fy fng
  have hi := fy.int (by omega) (by omega)
  have fo := FInt.ofInt (n := n) (by omega)
  have c1 : ∀ w, (binOp .neq 227 (.float .f64 z) (.float .f64 0)).run C.P w = .ok (.bool false) w := fun w => by
    rw [run_fneq fz FInt.zero64 227 w]; simp
  have c2 : ∀ w, (binOp .lss 227 (.float .f64 m) (.float .f64 4787326403894837248)).run C.P w = .ok (.bool true) w := fun w => by
    rw [run_flss fm f40 227 w]
    have : max n (-n) < 1099511627776 := by omega
    simp [this]
  have c3 : ∀ w, (binOp .neq 227 (.float .f64 (floatOfInt .f64 n)) (.float .f64 y)).run C.P w = .ok (.bool false) w := fun w => by
    rw [run_fneq fo fy 227 w]; simp
  refine APure.of_body good [] (fn := Tryz.f183) (by kernel_rfl) (by kernel_rfl) rfl rfl (by kernel_rfl) rfl (by kernel_rfl) ?_
  conv => whnf
  repeat' (first
    | (refine codeK_sound good (mu := []) ?_; conv => whnf)
    | ((first | rw [wl0] | rw [wl1] | rw [wl2] | rw [wl3] | rw [wl4] | rw [wl5]); conv => whnf)
    | (refine SBool.mk (fun _ => ?_) (fun h => absurd (of_decide_eq_true rfl) h); conv => whnf)
    | (refine SBool.mk (fun h => absurd h (of_decide_eq_false rfl)) (fun _ => ?_); conv => whnf)
    | (refine SBool.mk (fun h => ?_) (fun h => ?_) <;> conv => whnf)
    | (refine SEx.mk _ (by first | exact (fun w => run_convert_float_float w 125 227 .f32 .f64 x y (by kernel_rfl) (by kernel_rfl) hy) | exact (fun w => run_float_arith w .sub 227 .f64 y y z hz) | exact c1 | exact (fun w => run_fneg .f64 y w) | exact hm | exact c2 | exact (fun w => run_convert_float_int w 227 3 .f64 .i64 y n (by kernel_rfl) (by kernel_rfl) hi) | exact (fun w => run_convert_int_float w 3 227 .i64 .f64 n (by kernel_rfl) (by kernel_rfl)) | exact c3 | exact (fun w => run_fgtr fy fmost 227 w) | exact (fun w => run_flss fy fleast 227 w) | exact when_pure _ _) ?_; conv => whnf)
    | (refine SEx.mk _ (by first | exact rfl | exact ⟨of_decide_eq_true rfl, rfl⟩) ?_; conv => whnf)
    | (refine SAll.mk (fun _ => ?_); conv => whnf)
    | (refine SAnd.mk (by first | exact hm) ?_; conv => whnf)
    | (refine SAnd.mk ⟨by intro c hc; simp at hc; first | (subst hc; rfl) | ((repeat' (rcases hc with rfl | hc)) <;> first | rfl | (subst hc; rfl)), by (simp; first | done | omega), by (simp; first | done | omega)⟩ ?_; conv => whnf)
    | (refine SAnd.mk (by first | exact rfl | kernel_rfl | omega | decide | exact (fun w => run_convert_float_float w 125 227 .f32 .f64 x y (by kernel_rfl) (by kernel_rfl) hy) | exact (fun w => run_float_arith w .sub 227 .f64 y y z hz) | exact c1 | exact (fun w => run_fneg .f64 y w) | exact hm | exact c2 | exact (fun w => run_convert_float_int w 227 3 .f64 .i64 y n (by kernel_rfl) (by kernel_rfl) hi) | exact (fun w => run_convert_int_float w 3 227 .i64 .f64 n (by kernel_rfl) (by kernel_rfl)) | exact c3 | exact (fun w => run_fgtr fy fmost 227 w) | exact (fun w => run_flss fy fleast 227 w) | exact when_pure _ _) ?_; conv => whnf)
    | fail)
  all_goals simp only [decide_eq_true_eq] at *
  all_goals first
    | exact ⟨PLe.of_eq (by rw [show within n (-40000) 40000 = 3 from if_pos (by omega)]; rfl)⟩
    | exact ⟨PLe.of_eq (by rw [show within n (-40000) 40000 = 0 from if_neg (by omega)]; rfl)⟩
/-- Four samples that stand for complex integers. -/
structure FG (x y : Nat) (a : G) : Prop where
  re : FInt .f32 x a.re
  im : FInt .f32 y a.im
structure Pn where
  x0 : Nat
  y0 : Nat
  x1 : Nat
  y1 : Nat
  x2 : Nat
  y2 : Nat
  x3 : Nat
  y3 : Nat
  a0 : G
  a1 : G
  a2 : G
  a3 : G
abbrev pc (p : Pn) : List PV := [cz p.x0 p.y0, cz p.x1 p.y1, cz p.x2 p.y2, cz p.x3 p.y3]
abbrev p4 (p : Pn) : List PV := [I p.a0.re, I p.a0.im, I p.a1.re, I p.a1.im, I p.a2.re, I p.a2.im, I p.a3.re, I p.a3.im]
structure Pn.Is (p : Pn) : Prop where
  g0 : FG p.x0 p.y0 p.a0
  g1 : FG p.x1 p.y1 p.a1
  g2 : FG p.x2 p.y2 p.a2
  g3 : FG p.x3 p.y3 p.a3
  f0 : p.a0.Fit 1000000
  f1 : p.a1.Fit 1000000
  f2 : p.a2.Fit 1000000
  f3 : p.a3.Fit 1000000
def sampE (a : G) : Int := firstOf [within a.re (-40000) 40000, within a.im (-40000) 40000]
theorem checkPanel1_pure {x y : Nat} {a : G} (h : FG x y a) (hf : a.Fit 1000000) : APure C 182 [cz x y] (I (sampE a)) := by
  have h1 := hf.re; have h2 := hf.im
  refine APure.of_body good [] (fn := Tryz.f182) (by kernel_rfl) (by kernel_rfl) rfl rfl (by kernel_rfl) rfl (by kernel_rfl) ?_
  conv => whnf
  repeat' (first
    | (refine codeK_sound good (mu := []) ?_; conv => whnf)
    | ((first | rw [wl0] | rw [wl1] | rw [wl2] | rw [wl3] | rw [wl4] | rw [wl5]); conv => whnf)
    | (refine SBool.mk (fun _ => ?_) (fun h => absurd (of_decide_eq_true rfl) h); conv => whnf)
    | (refine SBool.mk (fun h => absurd h (of_decide_eq_false rfl)) (fun _ => ?_); conv => whnf)
    | (refine SBool.mk (fun h => ?_) (fun h => ?_) <;> conv => whnf)
    | (refine SEx.mk _ (by first | exact checkPart_pure h.re (by omega) | exact checkPart_pure h.im (by omega) | exact first2_pure _ _) ?_; conv => whnf)
    | (refine SEx.mk _ (by first | exact rfl | exact ⟨of_decide_eq_true rfl, rfl⟩) ?_; conv => whnf)
    | (refine SAll.mk (fun _ => ?_); conv => whnf)
    | (refine SAnd.mk ⟨by intro c hc; simp at hc; first | (subst hc; rfl) | ((repeat' (rcases hc with rfl | hc)) <;> first | rfl | (subst hc; rfl)), by (simp; first | done | omega), by (simp; first | done | omega)⟩ ?_; conv => whnf)
    | (refine SAnd.mk (by first | exact rfl | kernel_rfl | omega | decide | exact checkPart_pure h.re (by omega) | exact checkPart_pure h.im (by omega) | exact first2_pure _ _) ?_; conv => whnf)
    | fail)
  exact ⟨PLe.refl _⟩
def panelE (p : Pn) : Int := firstOf [sampE p.a0, sampE p.a1, sampE p.a2, sampE p.a3]
theorem checkPanel_pure (p : Pn) (h : p.Is) : APure C 147 [.agg (pc p)] (I (panelE p)) := by
  have m : APure C 181 [.seq 1 [[cz p.x0 p.y0], [cz p.x1 p.y1], [cz p.x2 p.y2], [cz p.x3 p.y3]], .fn 182 []] (.seq 1 [[I (sampE p.a0)], [I (sampE p.a1)], [I (sampE p.a2)], [I (sampE p.a3)]]) := by
    refine APure.of_body good [] (fn := Tryz.f181) (by kernel_rfl) (by kernel_rfl) rfl rfl (by kernel_rfl) rfl (by kernel_rfl) ?_
    conv => whnf
    repeat' (first
      | (refine codeK_sound good (mu := []) ?_; conv => whnf)
      | ((first | rw [wl0] | rw [wl1] | rw [wl2] | rw [wl3] | rw [wl4] | rw [wl5]); conv => whnf)
      | (refine SBool.mk (fun _ => ?_) (fun h => absurd (of_decide_eq_true rfl) h); conv => whnf)
      | (refine SBool.mk (fun h => absurd h (of_decide_eq_false rfl)) (fun _ => ?_); conv => whnf)
      | (refine SBool.mk (fun h => ?_) (fun h => ?_) <;> conv => whnf)
      | refine SCode.mk (AWp.rounds 5 ?_)
      | (refine SEx.mk _ (by first | exact checkPanel1_pure h.g0 h.f0 | exact checkPanel1_pure h.g1 h.f1 | exact checkPanel1_pure h.g2 h.f2 | exact checkPanel1_pure h.g3 h.f3) ?_; conv => whnf)
      | (refine SEx.mk _ (by first | exact rfl | exact ⟨of_decide_eq_true rfl, rfl⟩) ?_; conv => whnf)
      | (refine SAll.mk (fun _ => ?_); conv => whnf)
      | (refine SAnd.mk ⟨by intro c hc; simp at hc; first | (subst hc; rfl) | ((repeat' (rcases hc with rfl | hc)) <;> first | rfl | (subst hc; rfl)), by (simp; first | done | omega), by (simp; first | done | omega)⟩ ?_; conv => whnf)
      | (refine SAnd.mk (by first | exact rfl | kernel_rfl | omega | decide | exact checkPanel1_pure h.g0 h.f0 | exact checkPanel1_pure h.g1 h.f1 | exact checkPanel1_pure h.g2 h.f2 | exact checkPanel1_pure h.g3 h.f3) ?_; conv => whnf)
      | fail)
    all_goals exact ⟨PLe.refl _⟩
  refine APure.of_body good [] (fn := Tryz.f147) (by kernel_rfl) (by kernel_rfl) rfl rfl (by kernel_rfl) rfl (by kernel_rfl) ?_
  conv => whnf
  repeat' (first
    | (refine codeK_sound good (mu := []) ?_; conv => whnf)
    | ((first | rw [wl0] | rw [wl1] | rw [wl2] | rw [wl3] | rw [wl4] | rw [wl5]); conv => whnf)
    | (refine SBool.mk (fun _ => ?_) (fun h => absurd (of_decide_eq_true rfl) h); conv => whnf)
    | (refine SBool.mk (fun h => absurd h (of_decide_eq_false rfl)) (fun _ => ?_); conv => whnf)
    | (refine SBool.mk (fun h => ?_) (fun h => ?_) <;> conv => whnf)
    | (refine SEx.mk _ (by first | exact m | exact first4_pure _ _ _ _) ?_; conv => whnf)
    | (refine SEx.mk _ (by first | exact rfl | exact ⟨of_decide_eq_true rfl, rfl⟩) ?_; conv => whnf)
    | (refine SAll.mk (fun _ => ?_); conv => whnf)
    | (refine SAnd.mk ⟨by intro c hc; simp at hc; first | (subst hc; rfl) | ((repeat' (rcases hc with rfl | hc)) <;> first | rfl | (subst hc; rfl)), by (simp; first | done | omega), by (simp; first | done | omega)⟩ ?_; conv => whnf)
    | (refine SAnd.mk (by first | exact rfl | kernel_rfl | omega | decide | exact m | exact first4_pure _ _ _ _) ?_; conv => whnf)
    | fail)
  exact ⟨PLe.refl _⟩
theorem nothing_pure : APure C 148 [] (.agg [zc, zc, zc, zc]) := by
  refine APure.of_body good [] (fn := Tryz.f148) (by kernel_rfl) (by kernel_rfl) rfl rfl (by kernel_rfl) rfl (by kernel_rfl) ?_
  conv => whnf
  repeat' (first
    | (refine codeK_sound good (mu := []) ?_; conv => whnf)
    | ((first | rw [wl0] | rw [wl1] | rw [wl2] | rw [wl3] | rw [wl4] | rw [wl5]); conv => whnf)
    | (refine SBool.mk (fun _ => ?_) (fun h => absurd (of_decide_eq_true rfl) h); conv => whnf)
    | (refine SBool.mk (fun h => absurd h (of_decide_eq_false rfl)) (fun _ => ?_); conv => whnf)
    | (refine SBool.mk (fun h => ?_) (fun h => ?_) <;> conv => whnf)
    | (refine SEx.mk _ (by first | exact rfl | exact ⟨of_decide_eq_true rfl, rfl⟩) ?_; conv => whnf)
    | (refine SAll.mk (fun _ => ?_); conv => whnf)
    | (refine SAnd.mk ⟨by intro c hc; simp at hc; first | (subst hc; rfl) | ((repeat' (rcases hc with rfl | hc)) <;> first | rfl | (subst hc; rfl)), by (simp; first | done | omega), by (simp; first | done | omega)⟩ ?_; conv => whnf)
    | (refine SAnd.mk (by first | exact rfl | kernel_rfl | omega | decide) ?_; conv => whnf)
    | fail)
  exact ⟨PLe.refl _⟩
end Go.Proofs.Ab.Tone
end
section
/- The signal of four complex integers. -/
set_option maxRecDepth 100000
set_option linter.unusedVariables false
set_option linter.unusedSimpArgs false
namespace Go.Proofs.Ab.Tone
open Go Go.RowKit Go.Proofs.Ab
structure Q4 where
  a0 : G
  a1 : G
  a2 : G
  a3 : G
abbrev qc (q : Q4) : List PV := [I q.a0.re, I q.a0.im, I q.a1.re, I q.a1.im, I q.a2.re, I q.a2.im, I q.a3.re, I q.a3.im]
structure Q4.Fit (q : Q4) : Prop where
  f0 : q.a0.Fit 1000000
  f1 : q.a1.Fit 1000000
  f2 : q.a2.Fit 1000000
  f3 : q.a3.Fit 1000000
def dot1 (q : Q4) (s0 : Int) : G := (⟨0, 0⟩ : G).add (q.a0.mul ⟨s0, 0⟩)
def dot2 (q : Q4) (s0 s1 : Int) : G := (dot1 q s0).add (q.a1.mul ⟨s1, 0⟩)
def dot3 (q : Q4) (s0 s1 s2 : Int) : G := (dot2 q s0 s1).add (q.a2.mul ⟨s2, 0⟩)
def dot4 (q : Q4) (s0 s1 s2 s3 : Int) : G := (dot3 q s0 s1 s2).add (q.a3.mul ⟨s3, 0⟩)
theorem r184_0 : APure C 184 [I 0] (I 1) := by
  refine APure.of_body good [] (fn := Tryz.f184) (by kernel_rfl) (by kernel_rfl) rfl rfl (by kernel_rfl) rfl (by kernel_rfl) ?_
  conv => whnf
  repeat' (first
    | (refine codeK_sound good (mu := []) ?_; conv => whnf)
    | ((first | rw [wl0] | rw [wl1] | rw [wl2] | rw [wl3] | rw [wl4] | rw [wl5]); conv => whnf)
    | (refine SBool.mk (fun _ => ?_) (fun h => absurd (of_decide_eq_true rfl) h); conv => whnf)
    | (refine SBool.mk (fun h => absurd h (of_decide_eq_false rfl)) (fun _ => ?_); conv => whnf)
    | (refine SBool.mk (fun h => ?_) (fun h => ?_) <;> conv => whnf)
    | (refine SEx.mk _ (by first | exact rfl | exact ⟨of_decide_eq_true rfl, rfl⟩) ?_; conv => whnf)
    | (refine SAll.mk (fun _ => ?_); conv => whnf)
    | (refine SAnd.mk ⟨by intro c hc; simp at hc; first | (subst hc; rfl) | ((repeat' (rcases hc with rfl | hc)) <;> first | rfl | (subst hc; rfl)), by (simp; first | done | omega), by (simp; first | done | omega)⟩ ?_; conv => whnf)
    | (refine SAnd.mk (by first | exact rfl | kernel_rfl | omega | decide) ?_; conv => whnf)
    | fail)
  all_goals exact ⟨PLe.of_eq (by kernel_rfl)⟩
theorem r184_1 : APure C 184 [I 1] (I 1) := by
  refine APure.of_body good [] (fn := Tryz.f184) (by kernel_rfl) (by kernel_rfl) rfl rfl (by kernel_rfl) rfl (by kernel_rfl) ?_
  conv => whnf
  repeat' (first
    | (refine codeK_sound good (mu := []) ?_; conv => whnf)
    | ((first | rw [wl0] | rw [wl1] | rw [wl2] | rw [wl3] | rw [wl4] | rw [wl5]); conv => whnf)
    | (refine SBool.mk (fun _ => ?_) (fun h => absurd (of_decide_eq_true rfl) h); conv => whnf)
    | (refine SBool.mk (fun h => absurd h (of_decide_eq_false rfl)) (fun _ => ?_); conv => whnf)
    | (refine SBool.mk (fun h => ?_) (fun h => ?_) <;> conv => whnf)
    | (refine SEx.mk _ (by first | exact rfl | exact ⟨of_decide_eq_true rfl, rfl⟩) ?_; conv => whnf)
    | (refine SAll.mk (fun _ => ?_); conv => whnf)
    | (refine SAnd.mk ⟨by intro c hc; simp at hc; first | (subst hc; rfl) | ((repeat' (rcases hc with rfl | hc)) <;> first | rfl | (subst hc; rfl)), by (simp; first | done | omega), by (simp; first | done | omega)⟩ ?_; conv => whnf)
    | (refine SAnd.mk (by first | exact rfl | kernel_rfl | omega | decide) ?_; conv => whnf)
    | fail)
  all_goals exact ⟨PLe.of_eq (by kernel_rfl)⟩
theorem r184_2 : APure C 184 [I 2] (I 1) := by
  refine APure.of_body good [] (fn := Tryz.f184) (by kernel_rfl) (by kernel_rfl) rfl rfl (by kernel_rfl) rfl (by kernel_rfl) ?_
  conv => whnf
  repeat' (first
    | (refine codeK_sound good (mu := []) ?_; conv => whnf)
    | ((first | rw [wl0] | rw [wl1] | rw [wl2] | rw [wl3] | rw [wl4] | rw [wl5]); conv => whnf)
    | (refine SBool.mk (fun _ => ?_) (fun h => absurd (of_decide_eq_true rfl) h); conv => whnf)
    | (refine SBool.mk (fun h => absurd h (of_decide_eq_false rfl)) (fun _ => ?_); conv => whnf)
    | (refine SBool.mk (fun h => ?_) (fun h => ?_) <;> conv => whnf)
    | (refine SEx.mk _ (by first | exact rfl | exact ⟨of_decide_eq_true rfl, rfl⟩) ?_; conv => whnf)
    | (refine SAll.mk (fun _ => ?_); conv => whnf)
    | (refine SAnd.mk ⟨by intro c hc; simp at hc; first | (subst hc; rfl) | ((repeat' (rcases hc with rfl | hc)) <;> first | rfl | (subst hc; rfl)), by (simp; first | done | omega), by (simp; first | done | omega)⟩ ?_; conv => whnf)
    | (refine SAnd.mk (by first | exact rfl | kernel_rfl | omega | decide) ?_; conv => whnf)
    | fail)
  all_goals exact ⟨PLe.of_eq (by kernel_rfl)⟩
theorem r184_3 : APure C 184 [I 3] (I 1) := by
  refine APure.of_body good [] (fn := Tryz.f184) (by kernel_rfl) (by kernel_rfl) rfl rfl (by kernel_rfl) rfl (by kernel_rfl) ?_
  conv => whnf
  repeat' (first
    | (refine codeK_sound good (mu := []) ?_; conv => whnf)
    | ((first | rw [wl0] | rw [wl1] | rw [wl2] | rw [wl3] | rw [wl4] | rw [wl5]); conv => whnf)
    | (refine SBool.mk (fun _ => ?_) (fun h => absurd (of_decide_eq_true rfl) h); conv => whnf)
    | (refine SBool.mk (fun h => absurd h (of_decide_eq_false rfl)) (fun _ => ?_); conv => whnf)
    | (refine SBool.mk (fun h => ?_) (fun h => ?_) <;> conv => whnf)
    | (refine SEx.mk _ (by first | exact rfl | exact ⟨of_decide_eq_true rfl, rfl⟩) ?_; conv => whnf)
    | (refine SAll.mk (fun _ => ?_); conv => whnf)
    | (refine SAnd.mk ⟨by intro c hc; simp at hc; first | (subst hc; rfl) | ((repeat' (rcases hc with rfl | hc)) <;> first | rfl | (subst hc; rfl)), by (simp; first | done | omega), by (simp; first | done | omega)⟩ ?_; conv => whnf)
    | (refine SAnd.mk (by first | exact rfl | kernel_rfl | omega | decide) ?_; conv => whnf)
    | fail)
  all_goals exact ⟨PLe.of_eq (by kernel_rfl)⟩
theorem r185_0 : APure C 185 [I 0, .ref [I 1, I 1, I (-1), I (-1)]] (I 1) := by
  refine APure.of_body good [] (fn := Tryz.f185) (by kernel_rfl) (by kernel_rfl) rfl rfl (by kernel_rfl) rfl (by kernel_rfl) ?_
  conv => whnf
  repeat' (first
    | (refine codeK_sound good (mu := []) ?_; conv => whnf)
    | ((first | rw [wl0] | rw [wl1] | rw [wl2] | rw [wl3] | rw [wl4] | rw [wl5]); conv => whnf)
    | (refine SBool.mk (fun _ => ?_) (fun h => absurd (of_decide_eq_true rfl) h); conv => whnf)
    | (refine SBool.mk (fun h => absurd h (of_decide_eq_false rfl)) (fun _ => ?_); conv => whnf)
    | (refine SBool.mk (fun h => ?_) (fun h => ?_) <;> conv => whnf)
    | (refine SEx.mk _ (by first | exact rfl | exact ⟨of_decide_eq_true rfl, rfl⟩) ?_; conv => whnf)
    | (refine SAll.mk (fun _ => ?_); conv => whnf)
    | (refine SAnd.mk ⟨by intro c hc; simp at hc; first | (subst hc; rfl) | ((repeat' (rcases hc with rfl | hc)) <;> first | rfl | (subst hc; rfl)), by (simp; first | done | omega), by (simp; first | done | omega)⟩ ?_; conv => whnf)
    | (refine SAnd.mk (by first | exact rfl | kernel_rfl | omega | decide) ?_; conv => whnf)
    | fail)
  all_goals exact ⟨PLe.of_eq (by kernel_rfl)⟩
theorem r185_1 : APure C 185 [I 1, .ref [I 1, I 1, I (-1), I (-1)]] (I 1) := by
  refine APure.of_body good [] (fn := Tryz.f185) (by kernel_rfl) (by kernel_rfl) rfl rfl (by kernel_rfl) rfl (by kernel_rfl) ?_
  conv => whnf
  repeat' (first
    | (refine codeK_sound good (mu := []) ?_; conv => whnf)
    | ((first | rw [wl0] | rw [wl1] | rw [wl2] | rw [wl3] | rw [wl4] | rw [wl5]); conv => whnf)
    | (refine SBool.mk (fun _ => ?_) (fun h => absurd (of_decide_eq_true rfl) h); conv => whnf)
    | (refine SBool.mk (fun h => absurd h (of_decide_eq_false rfl)) (fun _ => ?_); conv => whnf)
    | (refine SBool.mk (fun h => ?_) (fun h => ?_) <;> conv => whnf)
    | (refine SEx.mk _ (by first | exact rfl | exact ⟨of_decide_eq_true rfl, rfl⟩) ?_; conv => whnf)
    | (refine SAll.mk (fun _ => ?_); conv => whnf)
    | (refine SAnd.mk ⟨by intro c hc; simp at hc; first | (subst hc; rfl) | ((repeat' (rcases hc with rfl | hc)) <;> first | rfl | (subst hc; rfl)), by (simp; first | done | omega), by (simp; first | done | omega)⟩ ?_; conv => whnf)
    | (refine SAnd.mk (by first | exact rfl | kernel_rfl | omega | decide) ?_; conv => whnf)
    | fail)
  all_goals exact ⟨PLe.of_eq (by kernel_rfl)⟩
theorem r185_2 : APure C 185 [I 2, .ref [I 1, I 1, I (-1), I (-1)]] (I (-1)) := by
  refine APure.of_body good [] (fn := Tryz.f185) (by kernel_rfl) (by kernel_rfl) rfl rfl (by kernel_rfl) rfl (by kernel_rfl) ?_
  conv => whnf
  repeat' (first
    | (refine codeK_sound good (mu := []) ?_; conv => whnf)
    | ((first | rw [wl0] | rw [wl1] | rw [wl2] | rw [wl3] | rw [wl4] | rw [wl5]); conv => whnf)
    | (refine SBool.mk (fun _ => ?_) (fun h => absurd (of_decide_eq_true rfl) h); conv => whnf)
    | (refine SBool.mk (fun h => absurd h (of_decide_eq_false rfl)) (fun _ => ?_); conv => whnf)
    | (refine SBool.mk (fun h => ?_) (fun h => ?_) <;> conv => whnf)
    | (refine SEx.mk _ (by first | exact rfl | exact ⟨of_decide_eq_true rfl, rfl⟩) ?_; conv => whnf)
    | (refine SAll.mk (fun _ => ?_); conv => whnf)
    | (refine SAnd.mk ⟨by intro c hc; simp at hc; first | (subst hc; rfl) | ((repeat' (rcases hc with rfl | hc)) <;> first | rfl | (subst hc; rfl)), by (simp; first | done | omega), by (simp; first | done | omega)⟩ ?_; conv => whnf)
    | (refine SAnd.mk (by first | exact rfl | kernel_rfl | omega | decide) ?_; conv => whnf)
    | fail)
  all_goals exact ⟨PLe.of_eq (by kernel_rfl)⟩
theorem r185_3 : APure C 185 [I 3, .ref [I 1, I 1, I (-1), I (-1)]] (I (-1)) := by
  refine APure.of_body good [] (fn := Tryz.f185) (by kernel_rfl) (by kernel_rfl) rfl rfl (by kernel_rfl) rfl (by kernel_rfl) ?_
  conv => whnf
  repeat' (first
    | (refine codeK_sound good (mu := []) ?_; conv => whnf)
    | ((first | rw [wl0] | rw [wl1] | rw [wl2] | rw [wl3] | rw [wl4] | rw [wl5]); conv => whnf)
    | (refine SBool.mk (fun _ => ?_) (fun h => absurd (of_decide_eq_true rfl) h); conv => whnf)
    | (refine SBool.mk (fun h => absurd h (of_decide_eq_false rfl)) (fun _ => ?_); conv => whnf)
    | (refine SBool.mk (fun h => ?_) (fun h => ?_) <;> conv => whnf)
    | (refine SEx.mk _ (by first | exact rfl | exact ⟨of_decide_eq_true rfl, rfl⟩) ?_; conv => whnf)
    | (refine SAll.mk (fun _ => ?_); conv => whnf)
    | (refine SAnd.mk ⟨by intro c hc; simp at hc; first | (subst hc; rfl) | ((repeat' (rcases hc with rfl | hc)) <;> first | rfl | (subst hc; rfl)), by (simp; first | done | omega), by (simp; first | done | omega)⟩ ?_; conv => whnf)
    | (refine SAnd.mk (by first | exact rfl | kernel_rfl | omega | decide) ?_; conv => whnf)
    | fail)
  all_goals exact ⟨PLe.of_eq (by kernel_rfl)⟩
theorem r186_0 : APure C 186 [I 0, .ref [I 1, I (-1), I 1, I (-1)]] (I 1) := by
  refine APure.of_body good [] (fn := Tryz.f186) (by kernel_rfl) (by kernel_rfl) rfl rfl (by kernel_rfl) rfl (by kernel_rfl) ?_
  conv => whnf
  repeat' (first
    | (refine codeK_sound good (mu := []) ?_; conv => whnf)
    | ((first | rw [wl0] | rw [wl1] | rw [wl2] | rw [wl3] | rw [wl4] | rw [wl5]); conv => whnf)
    | (refine SBool.mk (fun _ => ?_) (fun h => absurd (of_decide_eq_true rfl) h); conv => whnf)
    | (refine SBool.mk (fun h => absurd h (of_decide_eq_false rfl)) (fun _ => ?_); conv => whnf)
    | (refine SBool.mk (fun h => ?_) (fun h => ?_) <;> conv => whnf)
    | (refine SEx.mk _ (by first | exact rfl | exact ⟨of_decide_eq_true rfl, rfl⟩) ?_; conv => whnf)
    | (refine SAll.mk (fun _ => ?_); conv => whnf)
    | (refine SAnd.mk ⟨by intro c hc; simp at hc; first | (subst hc; rfl) | ((repeat' (rcases hc with rfl | hc)) <;> first | rfl | (subst hc; rfl)), by (simp; first | done | omega), by (simp; first | done | omega)⟩ ?_; conv => whnf)
    | (refine SAnd.mk (by first | exact rfl | kernel_rfl | omega | decide) ?_; conv => whnf)
    | fail)
  all_goals exact ⟨PLe.of_eq (by kernel_rfl)⟩
theorem r186_1 : APure C 186 [I 1, .ref [I 1, I (-1), I 1, I (-1)]] (I (-1)) := by
  refine APure.of_body good [] (fn := Tryz.f186) (by kernel_rfl) (by kernel_rfl) rfl rfl (by kernel_rfl) rfl (by kernel_rfl) ?_
  conv => whnf
  repeat' (first
    | (refine codeK_sound good (mu := []) ?_; conv => whnf)
    | ((first | rw [wl0] | rw [wl1] | rw [wl2] | rw [wl3] | rw [wl4] | rw [wl5]); conv => whnf)
    | (refine SBool.mk (fun _ => ?_) (fun h => absurd (of_decide_eq_true rfl) h); conv => whnf)
    | (refine SBool.mk (fun h => absurd h (of_decide_eq_false rfl)) (fun _ => ?_); conv => whnf)
    | (refine SBool.mk (fun h => ?_) (fun h => ?_) <;> conv => whnf)
    | (refine SEx.mk _ (by first | exact rfl | exact ⟨of_decide_eq_true rfl, rfl⟩) ?_; conv => whnf)
    | (refine SAll.mk (fun _ => ?_); conv => whnf)
    | (refine SAnd.mk ⟨by intro c hc; simp at hc; first | (subst hc; rfl) | ((repeat' (rcases hc with rfl | hc)) <;> first | rfl | (subst hc; rfl)), by (simp; first | done | omega), by (simp; first | done | omega)⟩ ?_; conv => whnf)
    | (refine SAnd.mk (by first | exact rfl | kernel_rfl | omega | decide) ?_; conv => whnf)
    | fail)
  all_goals exact ⟨PLe.of_eq (by kernel_rfl)⟩
theorem r186_2 : APure C 186 [I 2, .ref [I 1, I (-1), I 1, I (-1)]] (I 1) := by
  refine APure.of_body good [] (fn := Tryz.f186) (by kernel_rfl) (by kernel_rfl) rfl rfl (by kernel_rfl) rfl (by kernel_rfl) ?_
  conv => whnf
  repeat' (first
    | (refine codeK_sound good (mu := []) ?_; conv => whnf)
    | ((first | rw [wl0] | rw [wl1] | rw [wl2] | rw [wl3] | rw [wl4] | rw [wl5]); conv => whnf)
    | (refine SBool.mk (fun _ => ?_) (fun h => absurd (of_decide_eq_true rfl) h); conv => whnf)
    | (refine SBool.mk (fun h => absurd h (of_decide_eq_false rfl)) (fun _ => ?_); conv => whnf)
    | (refine SBool.mk (fun h => ?_) (fun h => ?_) <;> conv => whnf)
    | (refine SEx.mk _ (by first | exact rfl | exact ⟨of_decide_eq_true rfl, rfl⟩) ?_; conv => whnf)
    | (refine SAll.mk (fun _ => ?_); conv => whnf)
    | (refine SAnd.mk ⟨by intro c hc; simp at hc; first | (subst hc; rfl) | ((repeat' (rcases hc with rfl | hc)) <;> first | rfl | (subst hc; rfl)), by (simp; first | done | omega), by (simp; first | done | omega)⟩ ?_; conv => whnf)
    | (refine SAnd.mk (by first | exact rfl | kernel_rfl | omega | decide) ?_; conv => whnf)
    | fail)
  all_goals exact ⟨PLe.of_eq (by kernel_rfl)⟩
theorem r186_3 : APure C 186 [I 3, .ref [I 1, I (-1), I 1, I (-1)]] (I (-1)) := by
  refine APure.of_body good [] (fn := Tryz.f186) (by kernel_rfl) (by kernel_rfl) rfl rfl (by kernel_rfl) rfl (by kernel_rfl) ?_
  conv => whnf
  repeat' (first
    | (refine codeK_sound good (mu := []) ?_; conv => whnf)
    | ((first | rw [wl0] | rw [wl1] | rw [wl2] | rw [wl3] | rw [wl4] | rw [wl5]); conv => whnf)
    | (refine SBool.mk (fun _ => ?_) (fun h => absurd (of_decide_eq_true rfl) h); conv => whnf)
    | (refine SBool.mk (fun h => absurd h (of_decide_eq_false rfl)) (fun _ => ?_); conv => whnf)
    | (refine SBool.mk (fun h => ?_) (fun h => ?_) <;> conv => whnf)
    | (refine SEx.mk _ (by first | exact rfl | exact ⟨of_decide_eq_true rfl, rfl⟩) ?_; conv => whnf)
    | (refine SAll.mk (fun _ => ?_); conv => whnf)
    | (refine SAnd.mk ⟨by intro c hc; simp at hc; first | (subst hc; rfl) | ((repeat' (rcases hc with rfl | hc)) <;> first | rfl | (subst hc; rfl)), by (simp; first | done | omega), by (simp; first | done | omega)⟩ ?_; conv => whnf)
    | (refine SAnd.mk (by first | exact rfl | kernel_rfl | omega | decide) ?_; conv => whnf)
    | fail)
  all_goals exact ⟨PLe.of_eq (by kernel_rfl)⟩
theorem r187_0 : APure C 187 [I 0, .ref [I 1, I 1, I (-1), I (-1)], .ref [I 1, I (-1), I 1, I (-1)]] (I 1) := by
  refine APure.of_body good [] (fn := Tryz.f187) (by kernel_rfl) (by kernel_rfl) rfl rfl (by kernel_rfl) rfl (by kernel_rfl) ?_
  conv => whnf
  repeat' (first
    | (refine codeK_sound good (mu := []) ?_; conv => whnf)
    | ((first | rw [wl0] | rw [wl1] | rw [wl2] | rw [wl3] | rw [wl4] | rw [wl5]); conv => whnf)
    | (refine SBool.mk (fun _ => ?_) (fun h => absurd (of_decide_eq_true rfl) h); conv => whnf)
    | (refine SBool.mk (fun h => absurd h (of_decide_eq_false rfl)) (fun _ => ?_); conv => whnf)
    | (refine SBool.mk (fun h => ?_) (fun h => ?_) <;> conv => whnf)
    | (refine SEx.mk _ (by first | exact rfl | exact ⟨of_decide_eq_true rfl, rfl⟩) ?_; conv => whnf)
    | (refine SAll.mk (fun _ => ?_); conv => whnf)
    | (refine SAnd.mk ⟨by intro c hc; simp at hc; first | (subst hc; rfl) | ((repeat' (rcases hc with rfl | hc)) <;> first | rfl | (subst hc; rfl)), by (simp; first | done | omega), by (simp; first | done | omega)⟩ ?_; conv => whnf)
    | (refine SAnd.mk (by first | exact rfl | kernel_rfl | omega | decide) ?_; conv => whnf)
    | fail)
  all_goals exact ⟨PLe.of_eq (by kernel_rfl)⟩
theorem r187_1 : APure C 187 [I 1, .ref [I 1, I 1, I (-1), I (-1)], .ref [I 1, I (-1), I 1, I (-1)]] (I (-1)) := by
  refine APure.of_body good [] (fn := Tryz.f187) (by kernel_rfl) (by kernel_rfl) rfl rfl (by kernel_rfl) rfl (by kernel_rfl) ?_
  conv => whnf
  repeat' (first
    | (refine codeK_sound good (mu := []) ?_; conv => whnf)
    | ((first | rw [wl0] | rw [wl1] | rw [wl2] | rw [wl3] | rw [wl4] | rw [wl5]); conv => whnf)
    | (refine SBool.mk (fun _ => ?_) (fun h => absurd (of_decide_eq_true rfl) h); conv => whnf)
    | (refine SBool.mk (fun h => absurd h (of_decide_eq_false rfl)) (fun _ => ?_); conv => whnf)
    | (refine SBool.mk (fun h => ?_) (fun h => ?_) <;> conv => whnf)
    | (refine SEx.mk _ (by first | exact rfl | exact ⟨of_decide_eq_true rfl, rfl⟩) ?_; conv => whnf)
    | (refine SAll.mk (fun _ => ?_); conv => whnf)
    | (refine SAnd.mk ⟨by intro c hc; simp at hc; first | (subst hc; rfl) | ((repeat' (rcases hc with rfl | hc)) <;> first | rfl | (subst hc; rfl)), by (simp; first | done | omega), by (simp; first | done | omega)⟩ ?_; conv => whnf)
    | (refine SAnd.mk (by first | exact rfl | kernel_rfl | omega | decide) ?_; conv => whnf)
    | fail)
  all_goals exact ⟨PLe.of_eq (by kernel_rfl)⟩
theorem r187_2 : APure C 187 [I 2, .ref [I 1, I 1, I (-1), I (-1)], .ref [I 1, I (-1), I 1, I (-1)]] (I (-1)) := by
  refine APure.of_body good [] (fn := Tryz.f187) (by kernel_rfl) (by kernel_rfl) rfl rfl (by kernel_rfl) rfl (by kernel_rfl) ?_
  conv => whnf
  repeat' (first
    | (refine codeK_sound good (mu := []) ?_; conv => whnf)
    | ((first | rw [wl0] | rw [wl1] | rw [wl2] | rw [wl3] | rw [wl4] | rw [wl5]); conv => whnf)
    | (refine SBool.mk (fun _ => ?_) (fun h => absurd (of_decide_eq_true rfl) h); conv => whnf)
    | (refine SBool.mk (fun h => absurd h (of_decide_eq_false rfl)) (fun _ => ?_); conv => whnf)
    | (refine SBool.mk (fun h => ?_) (fun h => ?_) <;> conv => whnf)
    | (refine SEx.mk _ (by first | exact rfl | exact ⟨of_decide_eq_true rfl, rfl⟩) ?_; conv => whnf)
    | (refine SAll.mk (fun _ => ?_); conv => whnf)
    | (refine SAnd.mk ⟨by intro c hc; simp at hc; first | (subst hc; rfl) | ((repeat' (rcases hc with rfl | hc)) <;> first | rfl | (subst hc; rfl)), by (simp; first | done | omega), by (simp; first | done | omega)⟩ ?_; conv => whnf)
    | (refine SAnd.mk (by first | exact rfl | kernel_rfl | omega | decide) ?_; conv => whnf)
    | fail)
  all_goals exact ⟨PLe.of_eq (by kernel_rfl)⟩
theorem r187_3 : APure C 187 [I 3, .ref [I 1, I 1, I (-1), I (-1)], .ref [I 1, I (-1), I 1, I (-1)]] (I 1) := by
  refine APure.of_body good [] (fn := Tryz.f187) (by kernel_rfl) (by kernel_rfl) rfl rfl (by kernel_rfl) rfl (by kernel_rfl) ?_
  conv => whnf
  repeat' (first
    | (refine codeK_sound good (mu := []) ?_; conv => whnf)
    | ((first | rw [wl0] | rw [wl1] | rw [wl2] | rw [wl3] | rw [wl4] | rw [wl5]); conv => whnf)
    | (refine SBool.mk (fun _ => ?_) (fun h => absurd (of_decide_eq_true rfl) h); conv => whnf)
    | (refine SBool.mk (fun h => absurd h (of_decide_eq_false rfl)) (fun _ => ?_); conv => whnf)
    | (refine SBool.mk (fun h => ?_) (fun h => ?_) <;> conv => whnf)
    | (refine SEx.mk _ (by first | exact rfl | exact ⟨of_decide_eq_true rfl, rfl⟩) ?_; conv => whnf)
    | (refine SAll.mk (fun _ => ?_); conv => whnf)
    | (refine SAnd.mk ⟨by intro c hc; simp at hc; first | (subst hc; rfl) | ((repeat' (rcases hc with rfl | hc)) <;> first | rfl | (subst hc; rfl)), by (simp; first | done | omega), by (simp; first | done | omega)⟩ ?_; conv => whnf)
    | (refine SAnd.mk (by first | exact rfl | kernel_rfl | omega | decide) ?_; conv => whnf)
    | fail)
  all_goals exact ⟨PLe.of_eq (by kernel_rfl)⟩
theorem mulc (a : G) (ha : a.Fit 1000000) (s : Int) (hs : s = 1 ∨ s = -1) : APure C 105 [.agg (gc a), .agg [I s, I 0]] (.agg (gc (a.mul ⟨s, 0⟩))) :=
  times_fit a ⟨s, 0⟩ (ha.mono (by decide)) ⟨by rcases hs with rfl | rfl <;> decide, (by decide : (0 : Int).natAbs ≤ 1000000)⟩
theorem addc (a b : G) (ha : a.Fit 64000000) (hb : b.Fit 64000000) : APure C 102 [.agg (gc a), .agg (gc b)] (.agg (gc (a.add b))) := plus_fit a b 64000000 (by decide) ha hb
theorem G.Fit.add2 {a b : G} {m n k : Nat} (ha : a.Fit m) (hb : b.Fit n) (h : m + n ≤ k) : (a.add b).Fit k := by
  have e1 := ha.re; have e2 := ha.im; have e3 := hb.re; have e4 := hb.im
  constructor <;> simp only [G.add] <;> omega
def D (q : Q4) : Nat → G
  | 0 => dot4 q 1 1 1 1
  | 1 => dot4 q 1 1 (-1) (-1)
  | 2 => dot4 q 1 (-1) 1 (-1)
  | _ => dot4 q 1 (-1) (-1) 1
structure Chain (q : Q4) (s0 s1 s2 s3 : Int) (x0 x1 x2 x3 d1 d2 d3 d4 : G) : Prop where
  m0 : APure C 105 [.agg (gc q.a0), .agg [I s0, I 0]] (.agg (gc x0))
  m1 : APure C 105 [.agg (gc q.a1), .agg [I s1, I 0]] (.agg (gc x1))
  m2 : APure C 105 [.agg (gc q.a2), .agg [I s2, I 0]] (.agg (gc x2))
  m3 : APure C 105 [.agg (gc q.a3), .agg [I s3, I 0]] (.agg (gc x3))
  p0 : APure C 102 [.agg [I 0, I 0], .agg (gc x0)] (.agg (gc d1))
  p1 : APure C 102 [.agg (gc d1), .agg (gc x1)] (.agg (gc d2))
  p2 : APure C 102 [.agg (gc d2), .agg (gc x2)] (.agg (gc d3))
  p3 : APure C 102 [.agg (gc d3), .agg (gc x3)] (.agg (gc d4))
  e : d4 = dot4 q s0 s1 s2 s3
theorem chain (q : Q4) (hq : q.Fit) {s0 s1 s2 s3 : Int} (h0 : s0 = 1 ∨ s0 = -1) (h1 : s1 = 1 ∨ s1 = -1) (h2 : s2 = 1 ∨ s2 = -1) (h3 : s3 = 1 ∨ s3 = -1) : ∃ x0 x1 x2 x3 d1 d2 d3 d4, Chain q s0 s1 s2 s3 x0 x1 x2 x3 d1 d2 d3 d4 := by
  have z0 : (⟨0, 0⟩ : G).Fit 1000000 := ⟨by decide, by decide⟩
  have f0 := mul_fit hq.f0 h0
  have f1 := mul_fit hq.f1 h1
  have f2 := mul_fit hq.f2 h2
  have f3 := mul_fit hq.f3 h3
  have t1 : (dot1 q s0).Fit 2000000 := z0.add2 f0 (by decide)
  have t2 : (dot2 q s0 s1).Fit 3000000 := t1.add2 f1 (by decide)
  have t3 : (dot3 q s0 s1 s2).Fit 4000000 := t2.add2 f2 (by decide)
  exact ⟨_, _, _, _, dot1 q s0, dot2 q s0 s1, dot3 q s0 s1 s2, _, mulc q.a0 hq.f0 s0 h0, mulc q.a1 hq.f1 s1 h1, mulc q.a2 hq.f2 s2 h2, mulc q.a3 hq.f3 s3 h3,
    addc ⟨0, 0⟩ _ (z0.mono (by decide)) (f0.mono (by decide)), addc _ _ (t1.mono (by decide)) (f1.mono (by decide)), addc _ _ (t2.mono (by decide)) (f2.mono (by decide)), addc _ _ (t3.mono (by decide)) (f3.mono (by decide)), rfl⟩
def dq (q : Q4) (k : Nat) : G := divG (D q k) 4
def db (q : Q4) (k : Nat) : Bool := divB (D q k) 4
def outR (q : Q4) : Nat → List PV
  | 0 => [I 0, I 0, I 0, I 0, I 0, I 0, I 0, I 0]
  | 1 => [I (dq q 0).re, I (dq q 0).im, I 0, I 0, I 0, I 0, I 0, I 0]
  | 2 => [I (dq q 0).re, I (dq q 0).im, I (dq q 1).re, I (dq q 1).im, I 0, I 0, I 0, I 0]
  | 3 => [I (dq q 0).re, I (dq q 0).im, I (dq q 1).re, I (dq q 1).im, I (dq q 2).re, I (dq q 2).im, I 0, I 0]
  | _ => [I (dq q 0).re, I (dq q 0).im, I (dq q 1).re, I (dq q 1).im, I (dq q 2).re, I (dq q 2).im, I (dq q 3).re, I (dq q 3).im]
def dn (d1 d2 d3 d4 : G) : Nat → List PV
  | 0 => [I 0, I 0]
  | 1 => gc d1
  | 2 => gc d2
  | 3 => gc d3
  | _ => gc d4
def recB (q : Q4) : Bool := db q 0 && db q 1 && db q 2 && db q 3
def recS (q : Q4) : Sg := ⟨dq q 0, dq q 1, dq q 2⟩
def recE (q : Q4) : Int := if recB q = true then madeE (recS q) else 2
def recV (q : Q4) : Sg := if recE q = 0 then recS q else S0
def recL (q : Q4) : G := if recE q = 0 then dq q 3 else G0
abbrev fnsV : PV := .agg [.fn 184 [], .fn 185 [.ref [I 1, I 1, I (-1), I (-1)]], .fn 186 [.ref [I 1, I (-1), I 1, I (-1)]], .fn 187 [.ref [I 1, I 1, I (-1), I (-1)], .ref [I 1, I (-1), I 1, I (-1)]]]
set_option maxHeartbeats 40000000 in
theorem received_pure (q : Q4) (hq : q.Fit) : APure C 149 [.agg (qc q)] (.tup [.agg (sc (recV q)), .agg (gc (recL q)), I (recE q)]) := by
  have pos : (1 : Int) = 1 ∨ (1 : Int) = -1 := .inl rfl
  have neg : (-1 : Int) = 1 ∨ (-1 : Int) = -1 := .inr rfl
  refine APure.of_body good [] (fn := Tryz.f149) (by kernel_rfl) (by kernel_rfl) rfl rfl (by kernel_rfl) rfl (by kernel_rfl) ?_
  conv => whnf
  repeat' (first
    | (refine codeK_sound good (mu := []) ?_; conv => whnf)
    | ((first | rw [wl0] | rw [wl1] | rw [wl2] | rw [wl3] | rw [wl4] | rw [wl5]); conv => whnf)
    | (refine SBool.mk (fun _ => ?_) (fun h => absurd (of_decide_eq_true rfl) h); conv => whnf)
    | (refine SBool.mk (fun h => absurd h (of_decide_eq_false rfl)) (fun _ => ?_); conv => whnf)
    | (refine SBool.mk (fun h => ?_) (fun h => ?_) <;> conv => whnf)
    | (refine SEx.mk _ (by first | exact tones_pure) ?_; conv => whnf)
    | (refine SEx.mk _ (by first | exact rfl | exact ⟨of_decide_eq_true rfl, rfl⟩) ?_; conv => whnf)
    | (refine SAll.mk (fun _ => ?_); conv => whnf)
    | (refine SAnd.mk ⟨by intro c hc; simp at hc; first | (subst hc; rfl) | ((repeat' (rcases hc with rfl | hc)) <;> first | rfl | (subst hc; rfl)), by (simp; first | done | omega), by (simp; first | done | omega)⟩ ?_; conv => whnf)
    | (refine SAnd.mk (by first | exact rfl | kernel_rfl | omega | decide | exact tones_pure) ?_; conv => whnf)
    | fail)
  refine ⟨AWp.loop (ι := { k : Nat // k ≤ 4 ∧ ∀ j, j < k → db q j = true }) (fun k => ⟨[(29, .p (I k.1)), (28, .p fnsV), (8, .box 2 0), (3, .box 1 0), (2, .box 0 0), (1, .p (.ref (qc q)))], [(0, (32, [I 0, I 0, I 0, I 0, I 0, I 0])), (1, (23, [I 0, I 0])), (2, (213, outR q k.1))], [], 3, [], [], []⟩) (fun k => 4 - k.1) ⟨0, by omega, fun j hj => by omega⟩ ?_ ?_⟩
  · refine SLe.of [(0, 0), (1, 1), (2, 5)] [] rfl rfl ?_
    conv => whnf
    repeat' (first
    | exact True.intro
    | (refine SAnd.mk (PLe.of_eq (by simp only [wrapK]; rw [wrap_id (by first | omega | (simp only; done) | (simp only; omega) | simp) (by first | omega | (simp only; done) | (simp only; omega) | simp)]; simp)) ?_; conv => whnf)
    | (refine SAnd.mk (PLe.refl _) ?_; conv => whnf)
    | (refine SAnd.mk (PLeL.refl _) ?_; conv => whnf)
    | (refine SAnd.mk (PLe.of_eq (by simp)) ?_; conv => whnf)
    | (refine SAnd.mk rfl ?_; conv => whnf)
    | (refine SAnd.mk ⟨rfl, rfl⟩ ?_; conv => whnf)
    | (refine SAnd.mk ⟨rfl, rfl, rfl⟩ ?_; conv => whnf))
  · rintro ⟨k, hk, hall⟩
    rcases le4 hk with rfl | rfl | rfl | rfl | rfl
    · as_aux_lemma =>
        obtain ⟨x0, x1, x2, x3, d1, d2, d3, d4, m0, m1, m2, m3, p0, p1, p2, p3, e⟩ := chain q hq pos pos pos pos
        have e : d4 = D q 0 := e
        have dd := divided_pure d4 4 (by decide)
        conv => whnf
        repeat' (first
          | (refine codeK_sound good (mu := []) ?_; conv => whnf)
          | ((first | rw [wl0] | rw [wl1] | rw [wl2] | rw [wl3] | rw [wl4] | rw [wl5]); conv => whnf)
          | (refine SBool.mk (fun _ => ?_) (fun h => absurd (of_decide_eq_true rfl) h); conv => whnf)
          | (refine SBool.mk (fun h => absurd h (of_decide_eq_false rfl)) (fun _ => ?_); conv => whnf)
          | (refine SBool.mk (fun h => ?_) (fun h => ?_) <;> conv => whnf)
          | (refine SEx.mk _ (by first | exact rfl | exact ⟨of_decide_eq_true rfl, rfl⟩) ?_; conv => whnf)
          | (refine SAll.mk (fun _ => ?_); conv => whnf)
          | (refine SAnd.mk ⟨by intro c hc; simp at hc; first | (subst hc; rfl) | ((repeat' (rcases hc with rfl | hc)) <;> first | rfl | (subst hc; rfl)), by (simp; first | done | omega), by (simp; first | done | omega)⟩ ?_; conv => whnf)
          | (refine SAnd.mk (by first | exact rfl | kernel_rfl | omega | decide) ?_; conv => whnf)
          | fail)
        refine ⟨AWp.loop (ι := { t : Nat // t ≤ 4 }) (fun t => ⟨[(34, .p (I t.1)), (33, .p (.agg (qc q))), (11, .box 3 0), (10, .p (.fn 184 [])), (9, .p (I 0)), (29, .p (I 0)), (28, .p fnsV), (8, .box 2 0), (3, .box 1 0), (2, .box 0 0), (1, .p (.ref (qc q)))], [(0, (32, [I 0, I 0, I 0, I 0, I 0, I 0])), (1, (23, [I 0, I 0])), (2, (213, outR q 0)), (3, (23, dn d1 d2 d3 d4 t.1))], [], 4, [], [], []⟩) (fun t => 4 - t.1) ⟨0, by omega⟩ ?_ ?_⟩
        · refine SLe.of [(0, 0), (1, 1), (2, 2), (3, 3)] [] rfl rfl ?_
          conv => whnf
          repeat' (first
          | exact True.intro
          | (refine SAnd.mk (PLe.of_eq (by simp only [wrapK]; rw [wrap_id (by first | omega | (simp only; done) | (simp only; omega) | simp) (by first | omega | (simp only; done) | (simp only; omega) | simp)]; simp)) ?_; conv => whnf)
          | (refine SAnd.mk (PLe.refl _) ?_; conv => whnf)
          | (refine SAnd.mk (PLeL.refl _) ?_; conv => whnf)
          | (refine SAnd.mk (PLe.of_eq (by simp)) ?_; conv => whnf)
          | (refine SAnd.mk rfl ?_; conv => whnf)
          | (refine SAnd.mk ⟨rfl, rfl⟩ ?_; conv => whnf)
          | (refine SAnd.mk ⟨rfl, rfl, rfl⟩ ?_; conv => whnf))
        · rintro ⟨t, ht⟩
          rcases le4 ht with rfl | rfl | rfl | rfl | rfl
          · skip
            conv => whnf
            repeat' (first
              | (refine codeK_sound good (mu := []) ?_; conv => whnf)
              | ((first | rw [wl0] | rw [wl1] | rw [wl2] | rw [wl3] | rw [wl4] | rw [wl5]); conv => whnf)
              | (refine SBool.mk (fun _ => ?_) (fun h => absurd (of_decide_eq_true rfl) h); conv => whnf)
              | (refine SBool.mk (fun h => absurd h (of_decide_eq_false rfl)) (fun _ => ?_); conv => whnf)
              | (refine SBool.mk (fun h => ?_) (fun h => ?_) <;> conv => whnf)
              | (refine SEx.mk _ (by first | exact r184_0 | exact m0 | exact p0) ?_; conv => whnf)
              | (refine SEx.mk _ (by first | exact rfl | exact ⟨of_decide_eq_true rfl, rfl⟩) ?_; conv => whnf)
              | (refine SAll.mk (fun _ => ?_); conv => whnf)
              | (refine SAnd.mk ⟨by intro c hc; simp at hc; first | (subst hc; rfl) | ((repeat' (rcases hc with rfl | hc)) <;> first | rfl | (subst hc; rfl)), by (simp; first | done | omega), by (simp; first | done | omega)⟩ ?_; conv => whnf)
              | (refine SAnd.mk (by first | exact rfl | kernel_rfl | omega | decide | exact r184_0 | exact m0 | exact p0) ?_; conv => whnf)
              | fail)
            refine ⟨⟨1, by omega⟩, by simp only; omega, ?_⟩
            · refine SLe.of [(0, 0), (1, 1), (2, 2), (3, 3)] [] rfl rfl ?_
              conv => whnf
              repeat' (first
              | exact True.intro
              | (refine SAnd.mk (PLe.of_eq (by simp only [wrapK]; rw [wrap_id (by first | omega | (simp only; done) | (simp only; omega) | simp) (by first | omega | (simp only; done) | (simp only; omega) | simp)]; simp)) ?_; conv => whnf)
              | (refine SAnd.mk (PLe.refl _) ?_; conv => whnf)
              | (refine SAnd.mk (PLeL.refl _) ?_; conv => whnf)
              | (refine SAnd.mk (PLe.of_eq (by simp)) ?_; conv => whnf)
              | (refine SAnd.mk rfl ?_; conv => whnf)
              | (refine SAnd.mk ⟨rfl, rfl⟩ ?_; conv => whnf)
              | (refine SAnd.mk ⟨rfl, rfl, rfl⟩ ?_; conv => whnf))
          · skip
            conv => whnf
            repeat' (first
              | (refine codeK_sound good (mu := []) ?_; conv => whnf)
              | ((first | rw [wl0] | rw [wl1] | rw [wl2] | rw [wl3] | rw [wl4] | rw [wl5]); conv => whnf)
              | (refine SBool.mk (fun _ => ?_) (fun h => absurd (of_decide_eq_true rfl) h); conv => whnf)
              | (refine SBool.mk (fun h => absurd h (of_decide_eq_false rfl)) (fun _ => ?_); conv => whnf)
              | (refine SBool.mk (fun h => ?_) (fun h => ?_) <;> conv => whnf)
              | (refine SEx.mk _ (by first | exact r184_1 | exact m1 | exact p1) ?_; conv => whnf)
              | (refine SEx.mk _ (by first | exact rfl | exact ⟨of_decide_eq_true rfl, rfl⟩) ?_; conv => whnf)
              | (refine SAll.mk (fun _ => ?_); conv => whnf)
              | (refine SAnd.mk ⟨by intro c hc; simp at hc; first | (subst hc; rfl) | ((repeat' (rcases hc with rfl | hc)) <;> first | rfl | (subst hc; rfl)), by (simp; first | done | omega), by (simp; first | done | omega)⟩ ?_; conv => whnf)
              | (refine SAnd.mk (by first | exact rfl | kernel_rfl | omega | decide | exact r184_1 | exact m1 | exact p1) ?_; conv => whnf)
              | fail)
            refine ⟨⟨2, by omega⟩, by simp only; omega, ?_⟩
            · refine SLe.of [(0, 0), (1, 1), (2, 2), (3, 3)] [] rfl rfl ?_
              conv => whnf
              repeat' (first
              | exact True.intro
              | (refine SAnd.mk (PLe.of_eq (by simp only [wrapK]; rw [wrap_id (by first | omega | (simp only; done) | (simp only; omega) | simp) (by first | omega | (simp only; done) | (simp only; omega) | simp)]; simp)) ?_; conv => whnf)
              | (refine SAnd.mk (PLe.refl _) ?_; conv => whnf)
              | (refine SAnd.mk (PLeL.refl _) ?_; conv => whnf)
              | (refine SAnd.mk (PLe.of_eq (by simp)) ?_; conv => whnf)
              | (refine SAnd.mk rfl ?_; conv => whnf)
              | (refine SAnd.mk ⟨rfl, rfl⟩ ?_; conv => whnf)
              | (refine SAnd.mk ⟨rfl, rfl, rfl⟩ ?_; conv => whnf))
          · skip
            conv => whnf
            repeat' (first
              | (refine codeK_sound good (mu := []) ?_; conv => whnf)
              | ((first | rw [wl0] | rw [wl1] | rw [wl2] | rw [wl3] | rw [wl4] | rw [wl5]); conv => whnf)
              | (refine SBool.mk (fun _ => ?_) (fun h => absurd (of_decide_eq_true rfl) h); conv => whnf)
              | (refine SBool.mk (fun h => absurd h (of_decide_eq_false rfl)) (fun _ => ?_); conv => whnf)
              | (refine SBool.mk (fun h => ?_) (fun h => ?_) <;> conv => whnf)
              | (refine SEx.mk _ (by first | exact r184_2 | exact m2 | exact p2) ?_; conv => whnf)
              | (refine SEx.mk _ (by first | exact rfl | exact ⟨of_decide_eq_true rfl, rfl⟩) ?_; conv => whnf)
              | (refine SAll.mk (fun _ => ?_); conv => whnf)
              | (refine SAnd.mk ⟨by intro c hc; simp at hc; first | (subst hc; rfl) | ((repeat' (rcases hc with rfl | hc)) <;> first | rfl | (subst hc; rfl)), by (simp; first | done | omega), by (simp; first | done | omega)⟩ ?_; conv => whnf)
              | (refine SAnd.mk (by first | exact rfl | kernel_rfl | omega | decide | exact r184_2 | exact m2 | exact p2) ?_; conv => whnf)
              | fail)
            refine ⟨⟨3, by omega⟩, by simp only; omega, ?_⟩
            · refine SLe.of [(0, 0), (1, 1), (2, 2), (3, 3)] [] rfl rfl ?_
              conv => whnf
              repeat' (first
              | exact True.intro
              | (refine SAnd.mk (PLe.of_eq (by simp only [wrapK]; rw [wrap_id (by first | omega | (simp only; done) | (simp only; omega) | simp) (by first | omega | (simp only; done) | (simp only; omega) | simp)]; simp)) ?_; conv => whnf)
              | (refine SAnd.mk (PLe.refl _) ?_; conv => whnf)
              | (refine SAnd.mk (PLeL.refl _) ?_; conv => whnf)
              | (refine SAnd.mk (PLe.of_eq (by simp)) ?_; conv => whnf)
              | (refine SAnd.mk rfl ?_; conv => whnf)
              | (refine SAnd.mk ⟨rfl, rfl⟩ ?_; conv => whnf)
              | (refine SAnd.mk ⟨rfl, rfl, rfl⟩ ?_; conv => whnf))
          · skip
            conv => whnf
            repeat' (first
              | (refine codeK_sound good (mu := []) ?_; conv => whnf)
              | ((first | rw [wl0] | rw [wl1] | rw [wl2] | rw [wl3] | rw [wl4] | rw [wl5]); conv => whnf)
              | (refine SBool.mk (fun _ => ?_) (fun h => absurd (of_decide_eq_true rfl) h); conv => whnf)
              | (refine SBool.mk (fun h => absurd h (of_decide_eq_false rfl)) (fun _ => ?_); conv => whnf)
              | (refine SBool.mk (fun h => ?_) (fun h => ?_) <;> conv => whnf)
              | (refine SEx.mk _ (by first | exact r184_3 | exact m3 | exact p3) ?_; conv => whnf)
              | (refine SEx.mk _ (by first | exact rfl | exact ⟨of_decide_eq_true rfl, rfl⟩) ?_; conv => whnf)
              | (refine SAll.mk (fun _ => ?_); conv => whnf)
              | (refine SAnd.mk ⟨by intro c hc; simp at hc; first | (subst hc; rfl) | ((repeat' (rcases hc with rfl | hc)) <;> first | rfl | (subst hc; rfl)), by (simp; first | done | omega), by (simp; first | done | omega)⟩ ?_; conv => whnf)
              | (refine SAnd.mk (by first | exact rfl | kernel_rfl | omega | decide | exact r184_3 | exact m3 | exact p3) ?_; conv => whnf)
              | fail)
            refine ⟨⟨4, by omega⟩, by simp only; omega, ?_⟩
            · refine SLe.of [(0, 0), (1, 1), (2, 2), (3, 3)] [] rfl rfl ?_
              conv => whnf
              repeat' (first
              | exact True.intro
              | (refine SAnd.mk (PLe.of_eq (by simp only [wrapK]; rw [wrap_id (by first | omega | (simp only; done) | (simp only; omega) | simp) (by first | omega | (simp only; done) | (simp only; omega) | simp)]; simp)) ?_; conv => whnf)
              | (refine SAnd.mk (PLe.refl _) ?_; conv => whnf)
              | (refine SAnd.mk (PLeL.refl _) ?_; conv => whnf)
              | (refine SAnd.mk (PLe.of_eq (by simp)) ?_; conv => whnf)
              | (refine SAnd.mk rfl ?_; conv => whnf)
              | (refine SAnd.mk ⟨rfl, rfl⟩ ?_; conv => whnf)
              | (refine SAnd.mk ⟨rfl, rfl, rfl⟩ ?_; conv => whnf))
          · skip
            cases hb : divB d4 4 with
            | true =>
              rw [hb] at dd
              have hb' : db q 0 = true := by unfold db; rw [← e]; exact hb
              have e1 : dq q 0 = divG d4 4 := by unfold dq; rw [e]
              conv => whnf
              repeat' (first
                | (refine codeK_sound good (mu := []) ?_; conv => whnf)
                | ((first | rw [wl0] | rw [wl1] | rw [wl2] | rw [wl3] | rw [wl4] | rw [wl5]); conv => whnf)
                | (refine SBool.mk (fun _ => ?_) (fun h => absurd (of_decide_eq_true rfl) h); conv => whnf)
                | (refine SBool.mk (fun h => absurd h (of_decide_eq_false rfl)) (fun _ => ?_); conv => whnf)
                | (refine SBool.mk (fun h => ?_) (fun h => ?_) <;> conv => whnf)
                | (refine SEx.mk _ (by first | exact dd) ?_; conv => whnf)
                | (refine SEx.mk _ (by first | exact rfl | exact ⟨of_decide_eq_true rfl, rfl⟩) ?_; conv => whnf)
                | (refine SAll.mk (fun _ => ?_); conv => whnf)
                | (refine SAnd.mk ⟨by intro c hc; simp at hc; first | (subst hc; rfl) | ((repeat' (rcases hc with rfl | hc)) <;> first | rfl | (subst hc; rfl)), by (simp; first | done | omega), by (simp; first | done | omega)⟩ ?_; conv => whnf)
                | (refine SAnd.mk (by first | exact rfl | kernel_rfl | omega | decide | exact dd) ?_; conv => whnf)
                | fail)
              refine ⟨⟨1, by omega, fun j hj => by (rcases (by omega : j < 0 ∨ j = 0) with h | rfl); exact hall j h; exact hb'⟩, by simp only; omega, ?_⟩
              rw [← e1]
              · refine SLe.of [(0, 0), (1, 1), (2, 2)] [] rfl rfl ?_
                conv => whnf
                repeat' (first
                | exact True.intro
                | (refine SAnd.mk (PLe.of_eq (by simp only [wrapK]; rw [wrap_id (by first | omega | (simp only; done) | (simp only; omega) | simp) (by first | omega | (simp only; done) | (simp only; omega) | simp)]; simp)) ?_; conv => whnf)
                | (refine SAnd.mk (PLe.refl _) ?_; conv => whnf)
                | (refine SAnd.mk (PLeL.refl _) ?_; conv => whnf)
                | (refine SAnd.mk (PLe.of_eq (by simp)) ?_; conv => whnf)
                | (refine SAnd.mk rfl ?_; conv => whnf)
                | (refine SAnd.mk ⟨rfl, rfl⟩ ?_; conv => whnf)
                | (refine SAnd.mk ⟨rfl, rfl, rfl⟩ ?_; conv => whnf))
            | false =>
              rw [hb] at dd
              have hb' : db q 0 = false := by unfold db; rw [← e]; exact hb
              conv => whnf
              repeat' (first
                | (refine codeK_sound good (mu := []) ?_; conv => whnf)
                | ((first | rw [wl0] | rw [wl1] | rw [wl2] | rw [wl3] | rw [wl4] | rw [wl5]); conv => whnf)
                | (refine SBool.mk (fun _ => ?_) (fun h => absurd (of_decide_eq_true rfl) h); conv => whnf)
                | (refine SBool.mk (fun h => absurd h (of_decide_eq_false rfl)) (fun _ => ?_); conv => whnf)
                | (refine SBool.mk (fun h => ?_) (fun h => ?_) <;> conv => whnf)
                | (refine SEx.mk _ (by first | exact dd) ?_; conv => whnf)
                | (refine SEx.mk _ (by first | exact rfl | exact ⟨of_decide_eq_true rfl, rfl⟩) ?_; conv => whnf)
                | (refine SAll.mk (fun _ => ?_); conv => whnf)
                | (refine SAnd.mk ⟨by intro c hc; simp at hc; first | (subst hc; rfl) | ((repeat' (rcases hc with rfl | hc)) <;> first | rfl | (subst hc; rfl)), by (simp; first | done | omega), by (simp; first | done | omega)⟩ ?_; conv => whnf)
                | (refine SAnd.mk (by first | exact rfl | kernel_rfl | omega | decide | exact dd) ?_; conv => whnf)
                | fail)
              have hB : recB q = false := by
                unfold recB
                rw [hb']
                simp
              have hE : recE q = 2 := by unfold recE; rw [hB]; rfl
              exact ⟨PLe.of_eq (by unfold recV recL; rw [hE]; rfl)⟩
    · as_aux_lemma =>
        obtain ⟨x0, x1, x2, x3, d1, d2, d3, d4, m0, m1, m2, m3, p0, p1, p2, p3, e⟩ := chain q hq pos pos neg neg
        have e : d4 = D q 1 := e
        have dd := divided_pure d4 4 (by decide)
        conv => whnf
        repeat' (first
          | (refine codeK_sound good (mu := []) ?_; conv => whnf)
          | ((first | rw [wl0] | rw [wl1] | rw [wl2] | rw [wl3] | rw [wl4] | rw [wl5]); conv => whnf)
          | (refine SBool.mk (fun _ => ?_) (fun h => absurd (of_decide_eq_true rfl) h); conv => whnf)
          | (refine SBool.mk (fun h => absurd h (of_decide_eq_false rfl)) (fun _ => ?_); conv => whnf)
          | (refine SBool.mk (fun h => ?_) (fun h => ?_) <;> conv => whnf)
          | (refine SEx.mk _ (by first | exact rfl | exact ⟨of_decide_eq_true rfl, rfl⟩) ?_; conv => whnf)
          | (refine SAll.mk (fun _ => ?_); conv => whnf)
          | (refine SAnd.mk ⟨by intro c hc; simp at hc; first | (subst hc; rfl) | ((repeat' (rcases hc with rfl | hc)) <;> first | rfl | (subst hc; rfl)), by (simp; first | done | omega), by (simp; first | done | omega)⟩ ?_; conv => whnf)
          | (refine SAnd.mk (by first | exact rfl | kernel_rfl | omega | decide) ?_; conv => whnf)
          | fail)
        refine ⟨AWp.loop (ι := { t : Nat // t ≤ 4 }) (fun t => ⟨[(34, .p (I t.1)), (33, .p (.agg (qc q))), (11, .box 3 0), (10, .p (.fn 185 [.ref [I 1, I 1, I (-1), I (-1)]])), (9, .p (I 1)), (29, .p (I 1)), (28, .p fnsV), (8, .box 2 0), (3, .box 1 0), (2, .box 0 0), (1, .p (.ref (qc q)))], [(0, (32, [I 0, I 0, I 0, I 0, I 0, I 0])), (1, (23, [I 0, I 0])), (2, (213, outR q 1)), (3, (23, dn d1 d2 d3 d4 t.1))], [], 4, [], [], []⟩) (fun t => 4 - t.1) ⟨0, by omega⟩ ?_ ?_⟩
        · refine SLe.of [(0, 0), (1, 1), (2, 2), (3, 3)] [] rfl rfl ?_
          conv => whnf
          repeat' (first
          | exact True.intro
          | (refine SAnd.mk (PLe.of_eq (by simp only [wrapK]; rw [wrap_id (by first | omega | (simp only; done) | (simp only; omega) | simp) (by first | omega | (simp only; done) | (simp only; omega) | simp)]; simp)) ?_; conv => whnf)
          | (refine SAnd.mk (PLe.refl _) ?_; conv => whnf)
          | (refine SAnd.mk (PLeL.refl _) ?_; conv => whnf)
          | (refine SAnd.mk (PLe.of_eq (by simp)) ?_; conv => whnf)
          | (refine SAnd.mk rfl ?_; conv => whnf)
          | (refine SAnd.mk ⟨rfl, rfl⟩ ?_; conv => whnf)
          | (refine SAnd.mk ⟨rfl, rfl, rfl⟩ ?_; conv => whnf))
        · rintro ⟨t, ht⟩
          rcases le4 ht with rfl | rfl | rfl | rfl | rfl
          · skip
            conv => whnf
            repeat' (first
              | (refine codeK_sound good (mu := []) ?_; conv => whnf)
              | ((first | rw [wl0] | rw [wl1] | rw [wl2] | rw [wl3] | rw [wl4] | rw [wl5]); conv => whnf)
              | (refine SBool.mk (fun _ => ?_) (fun h => absurd (of_decide_eq_true rfl) h); conv => whnf)
              | (refine SBool.mk (fun h => absurd h (of_decide_eq_false rfl)) (fun _ => ?_); conv => whnf)
              | (refine SBool.mk (fun h => ?_) (fun h => ?_) <;> conv => whnf)
              | (refine SEx.mk _ (by first | exact r185_0 | exact m0 | exact p0) ?_; conv => whnf)
              | (refine SEx.mk _ (by first | exact rfl | exact ⟨of_decide_eq_true rfl, rfl⟩) ?_; conv => whnf)
              | (refine SAll.mk (fun _ => ?_); conv => whnf)
              | (refine SAnd.mk ⟨by intro c hc; simp at hc; first | (subst hc; rfl) | ((repeat' (rcases hc with rfl | hc)) <;> first | rfl | (subst hc; rfl)), by (simp; first | done | omega), by (simp; first | done | omega)⟩ ?_; conv => whnf)
              | (refine SAnd.mk (by first | exact rfl | kernel_rfl | omega | decide | exact r185_0 | exact m0 | exact p0) ?_; conv => whnf)
              | fail)
            refine ⟨⟨1, by omega⟩, by simp only; omega, ?_⟩
            · refine SLe.of [(0, 0), (1, 1), (2, 2), (3, 3)] [] rfl rfl ?_
              conv => whnf
              repeat' (first
              | exact True.intro
              | (refine SAnd.mk (PLe.of_eq (by simp only [wrapK]; rw [wrap_id (by first | omega | (simp only; done) | (simp only; omega) | simp) (by first | omega | (simp only; done) | (simp only; omega) | simp)]; simp)) ?_; conv => whnf)
              | (refine SAnd.mk (PLe.refl _) ?_; conv => whnf)
              | (refine SAnd.mk (PLeL.refl _) ?_; conv => whnf)
              | (refine SAnd.mk (PLe.of_eq (by simp)) ?_; conv => whnf)
              | (refine SAnd.mk rfl ?_; conv => whnf)
              | (refine SAnd.mk ⟨rfl, rfl⟩ ?_; conv => whnf)
              | (refine SAnd.mk ⟨rfl, rfl, rfl⟩ ?_; conv => whnf))
          · skip
            conv => whnf
            repeat' (first
              | (refine codeK_sound good (mu := []) ?_; conv => whnf)
              | ((first | rw [wl0] | rw [wl1] | rw [wl2] | rw [wl3] | rw [wl4] | rw [wl5]); conv => whnf)
              | (refine SBool.mk (fun _ => ?_) (fun h => absurd (of_decide_eq_true rfl) h); conv => whnf)
              | (refine SBool.mk (fun h => absurd h (of_decide_eq_false rfl)) (fun _ => ?_); conv => whnf)
              | (refine SBool.mk (fun h => ?_) (fun h => ?_) <;> conv => whnf)
              | (refine SEx.mk _ (by first | exact r185_1 | exact m1 | exact p1) ?_; conv => whnf)
              | (refine SEx.mk _ (by first | exact rfl | exact ⟨of_decide_eq_true rfl, rfl⟩) ?_; conv => whnf)
              | (refine SAll.mk (fun _ => ?_); conv => whnf)
              | (refine SAnd.mk ⟨by intro c hc; simp at hc; first | (subst hc; rfl) | ((repeat' (rcases hc with rfl | hc)) <;> first | rfl | (subst hc; rfl)), by (simp; first | done | omega), by (simp; first | done | omega)⟩ ?_; conv => whnf)
              | (refine SAnd.mk (by first | exact rfl | kernel_rfl | omega | decide | exact r185_1 | exact m1 | exact p1) ?_; conv => whnf)
              | fail)
            refine ⟨⟨2, by omega⟩, by simp only; omega, ?_⟩
            · refine SLe.of [(0, 0), (1, 1), (2, 2), (3, 3)] [] rfl rfl ?_
              conv => whnf
              repeat' (first
              | exact True.intro
              | (refine SAnd.mk (PLe.of_eq (by simp only [wrapK]; rw [wrap_id (by first | omega | (simp only; done) | (simp only; omega) | simp) (by first | omega | (simp only; done) | (simp only; omega) | simp)]; simp)) ?_; conv => whnf)
              | (refine SAnd.mk (PLe.refl _) ?_; conv => whnf)
              | (refine SAnd.mk (PLeL.refl _) ?_; conv => whnf)
              | (refine SAnd.mk (PLe.of_eq (by simp)) ?_; conv => whnf)
              | (refine SAnd.mk rfl ?_; conv => whnf)
              | (refine SAnd.mk ⟨rfl, rfl⟩ ?_; conv => whnf)
              | (refine SAnd.mk ⟨rfl, rfl, rfl⟩ ?_; conv => whnf))
          · skip
            conv => whnf
            repeat' (first
              | (refine codeK_sound good (mu := []) ?_; conv => whnf)
              | ((first | rw [wl0] | rw [wl1] | rw [wl2] | rw [wl3] | rw [wl4] | rw [wl5]); conv => whnf)
              | (refine SBool.mk (fun _ => ?_) (fun h => absurd (of_decide_eq_true rfl) h); conv => whnf)
              | (refine SBool.mk (fun h => absurd h (of_decide_eq_false rfl)) (fun _ => ?_); conv => whnf)
              | (refine SBool.mk (fun h => ?_) (fun h => ?_) <;> conv => whnf)
              | (refine SEx.mk _ (by first | exact r185_2 | exact m2 | exact p2) ?_; conv => whnf)
              | (refine SEx.mk _ (by first | exact rfl | exact ⟨of_decide_eq_true rfl, rfl⟩) ?_; conv => whnf)
              | (refine SAll.mk (fun _ => ?_); conv => whnf)
              | (refine SAnd.mk ⟨by intro c hc; simp at hc; first | (subst hc; rfl) | ((repeat' (rcases hc with rfl | hc)) <;> first | rfl | (subst hc; rfl)), by (simp; first | done | omega), by (simp; first | done | omega)⟩ ?_; conv => whnf)
              | (refine SAnd.mk (by first | exact rfl | kernel_rfl | omega | decide | exact r185_2 | exact m2 | exact p2) ?_; conv => whnf)
              | fail)
            refine ⟨⟨3, by omega⟩, by simp only; omega, ?_⟩
            · refine SLe.of [(0, 0), (1, 1), (2, 2), (3, 3)] [] rfl rfl ?_
              conv => whnf
              repeat' (first
              | exact True.intro
              | (refine SAnd.mk (PLe.of_eq (by simp only [wrapK]; rw [wrap_id (by first | omega | (simp only; done) | (simp only; omega) | simp) (by first | omega | (simp only; done) | (simp only; omega) | simp)]; simp)) ?_; conv => whnf)
              | (refine SAnd.mk (PLe.refl _) ?_; conv => whnf)
              | (refine SAnd.mk (PLeL.refl _) ?_; conv => whnf)
              | (refine SAnd.mk (PLe.of_eq (by simp)) ?_; conv => whnf)
              | (refine SAnd.mk rfl ?_; conv => whnf)
              | (refine SAnd.mk ⟨rfl, rfl⟩ ?_; conv => whnf)
              | (refine SAnd.mk ⟨rfl, rfl, rfl⟩ ?_; conv => whnf))
          · skip
            conv => whnf
            repeat' (first
              | (refine codeK_sound good (mu := []) ?_; conv => whnf)
              | ((first | rw [wl0] | rw [wl1] | rw [wl2] | rw [wl3] | rw [wl4] | rw [wl5]); conv => whnf)
              | (refine SBool.mk (fun _ => ?_) (fun h => absurd (of_decide_eq_true rfl) h); conv => whnf)
              | (refine SBool.mk (fun h => absurd h (of_decide_eq_false rfl)) (fun _ => ?_); conv => whnf)
              | (refine SBool.mk (fun h => ?_) (fun h => ?_) <;> conv => whnf)
              | (refine SEx.mk _ (by first | exact r185_3 | exact m3 | exact p3) ?_; conv => whnf)
              | (refine SEx.mk _ (by first | exact rfl | exact ⟨of_decide_eq_true rfl, rfl⟩) ?_; conv => whnf)
              | (refine SAll.mk (fun _ => ?_); conv => whnf)
              | (refine SAnd.mk ⟨by intro c hc; simp at hc; first | (subst hc; rfl) | ((repeat' (rcases hc with rfl | hc)) <;> first | rfl | (subst hc; rfl)), by (simp; first | done | omega), by (simp; first | done | omega)⟩ ?_; conv => whnf)
              | (refine SAnd.mk (by first | exact rfl | kernel_rfl | omega | decide | exact r185_3 | exact m3 | exact p3) ?_; conv => whnf)
              | fail)
            refine ⟨⟨4, by omega⟩, by simp only; omega, ?_⟩
            · refine SLe.of [(0, 0), (1, 1), (2, 2), (3, 3)] [] rfl rfl ?_
              conv => whnf
              repeat' (first
              | exact True.intro
              | (refine SAnd.mk (PLe.of_eq (by simp only [wrapK]; rw [wrap_id (by first | omega | (simp only; done) | (simp only; omega) | simp) (by first | omega | (simp only; done) | (simp only; omega) | simp)]; simp)) ?_; conv => whnf)
              | (refine SAnd.mk (PLe.refl _) ?_; conv => whnf)
              | (refine SAnd.mk (PLeL.refl _) ?_; conv => whnf)
              | (refine SAnd.mk (PLe.of_eq (by simp)) ?_; conv => whnf)
              | (refine SAnd.mk rfl ?_; conv => whnf)
              | (refine SAnd.mk ⟨rfl, rfl⟩ ?_; conv => whnf)
              | (refine SAnd.mk ⟨rfl, rfl, rfl⟩ ?_; conv => whnf))
          · skip
            cases hb : divB d4 4 with
            | true =>
              rw [hb] at dd
              have hb' : db q 1 = true := by unfold db; rw [← e]; exact hb
              have e1 : dq q 1 = divG d4 4 := by unfold dq; rw [e]
              conv => whnf
              repeat' (first
                | (refine codeK_sound good (mu := []) ?_; conv => whnf)
                | ((first | rw [wl0] | rw [wl1] | rw [wl2] | rw [wl3] | rw [wl4] | rw [wl5]); conv => whnf)
                | (refine SBool.mk (fun _ => ?_) (fun h => absurd (of_decide_eq_true rfl) h); conv => whnf)
                | (refine SBool.mk (fun h => absurd h (of_decide_eq_false rfl)) (fun _ => ?_); conv => whnf)
                | (refine SBool.mk (fun h => ?_) (fun h => ?_) <;> conv => whnf)
                | (refine SEx.mk _ (by first | exact dd) ?_; conv => whnf)
                | (refine SEx.mk _ (by first | exact rfl | exact ⟨of_decide_eq_true rfl, rfl⟩) ?_; conv => whnf)
                | (refine SAll.mk (fun _ => ?_); conv => whnf)
                | (refine SAnd.mk ⟨by intro c hc; simp at hc; first | (subst hc; rfl) | ((repeat' (rcases hc with rfl | hc)) <;> first | rfl | (subst hc; rfl)), by (simp; first | done | omega), by (simp; first | done | omega)⟩ ?_; conv => whnf)
                | (refine SAnd.mk (by first | exact rfl | kernel_rfl | omega | decide | exact dd) ?_; conv => whnf)
                | fail)
              refine ⟨⟨2, by omega, fun j hj => by (rcases (by omega : j < 1 ∨ j = 1) with h | rfl); exact hall j h; exact hb'⟩, by simp only; omega, ?_⟩
              rw [← e1]
              · refine SLe.of [(0, 0), (1, 1), (2, 2)] [] rfl rfl ?_
                conv => whnf
                repeat' (first
                | exact True.intro
                | (refine SAnd.mk (PLe.of_eq (by simp only [wrapK]; rw [wrap_id (by first | omega | (simp only; done) | (simp only; omega) | simp) (by first | omega | (simp only; done) | (simp only; omega) | simp)]; simp)) ?_; conv => whnf)
                | (refine SAnd.mk (PLe.refl _) ?_; conv => whnf)
                | (refine SAnd.mk (PLeL.refl _) ?_; conv => whnf)
                | (refine SAnd.mk (PLe.of_eq (by simp)) ?_; conv => whnf)
                | (refine SAnd.mk rfl ?_; conv => whnf)
                | (refine SAnd.mk ⟨rfl, rfl⟩ ?_; conv => whnf)
                | (refine SAnd.mk ⟨rfl, rfl, rfl⟩ ?_; conv => whnf))
            | false =>
              rw [hb] at dd
              have hb' : db q 1 = false := by unfold db; rw [← e]; exact hb
              conv => whnf
              repeat' (first
                | (refine codeK_sound good (mu := []) ?_; conv => whnf)
                | ((first | rw [wl0] | rw [wl1] | rw [wl2] | rw [wl3] | rw [wl4] | rw [wl5]); conv => whnf)
                | (refine SBool.mk (fun _ => ?_) (fun h => absurd (of_decide_eq_true rfl) h); conv => whnf)
                | (refine SBool.mk (fun h => absurd h (of_decide_eq_false rfl)) (fun _ => ?_); conv => whnf)
                | (refine SBool.mk (fun h => ?_) (fun h => ?_) <;> conv => whnf)
                | (refine SEx.mk _ (by first | exact dd) ?_; conv => whnf)
                | (refine SEx.mk _ (by first | exact rfl | exact ⟨of_decide_eq_true rfl, rfl⟩) ?_; conv => whnf)
                | (refine SAll.mk (fun _ => ?_); conv => whnf)
                | (refine SAnd.mk ⟨by intro c hc; simp at hc; first | (subst hc; rfl) | ((repeat' (rcases hc with rfl | hc)) <;> first | rfl | (subst hc; rfl)), by (simp; first | done | omega), by (simp; first | done | omega)⟩ ?_; conv => whnf)
                | (refine SAnd.mk (by first | exact rfl | kernel_rfl | omega | decide | exact dd) ?_; conv => whnf)
                | fail)
              have hB : recB q = false := by
                unfold recB
                rw [hb']
                simp
              have hE : recE q = 2 := by unfold recE; rw [hB]; rfl
              exact ⟨PLe.of_eq (by unfold recV recL; rw [hE]; rfl)⟩
    · as_aux_lemma =>
        obtain ⟨x0, x1, x2, x3, d1, d2, d3, d4, m0, m1, m2, m3, p0, p1, p2, p3, e⟩ := chain q hq pos neg pos neg
        have e : d4 = D q 2 := e
        have dd := divided_pure d4 4 (by decide)
        conv => whnf
        repeat' (first
          | (refine codeK_sound good (mu := []) ?_; conv => whnf)
          | ((first | rw [wl0] | rw [wl1] | rw [wl2] | rw [wl3] | rw [wl4] | rw [wl5]); conv => whnf)
          | (refine SBool.mk (fun _ => ?_) (fun h => absurd (of_decide_eq_true rfl) h); conv => whnf)
          | (refine SBool.mk (fun h => absurd h (of_decide_eq_false rfl)) (fun _ => ?_); conv => whnf)
          | (refine SBool.mk (fun h => ?_) (fun h => ?_) <;> conv => whnf)
          | (refine SEx.mk _ (by first | exact rfl | exact ⟨of_decide_eq_true rfl, rfl⟩) ?_; conv => whnf)
          | (refine SAll.mk (fun _ => ?_); conv => whnf)
          | (refine SAnd.mk ⟨by intro c hc; simp at hc; first | (subst hc; rfl) | ((repeat' (rcases hc with rfl | hc)) <;> first | rfl | (subst hc; rfl)), by (simp; first | done | omega), by (simp; first | done | omega)⟩ ?_; conv => whnf)
          | (refine SAnd.mk (by first | exact rfl | kernel_rfl | omega | decide) ?_; conv => whnf)
          | fail)
        refine ⟨AWp.loop (ι := { t : Nat // t ≤ 4 }) (fun t => ⟨[(34, .p (I t.1)), (33, .p (.agg (qc q))), (11, .box 3 0), (10, .p (.fn 186 [.ref [I 1, I (-1), I 1, I (-1)]])), (9, .p (I 2)), (29, .p (I 2)), (28, .p fnsV), (8, .box 2 0), (3, .box 1 0), (2, .box 0 0), (1, .p (.ref (qc q)))], [(0, (32, [I 0, I 0, I 0, I 0, I 0, I 0])), (1, (23, [I 0, I 0])), (2, (213, outR q 2)), (3, (23, dn d1 d2 d3 d4 t.1))], [], 4, [], [], []⟩) (fun t => 4 - t.1) ⟨0, by omega⟩ ?_ ?_⟩
        · refine SLe.of [(0, 0), (1, 1), (2, 2), (3, 3)] [] rfl rfl ?_
          conv => whnf
          repeat' (first
          | exact True.intro
          | (refine SAnd.mk (PLe.of_eq (by simp only [wrapK]; rw [wrap_id (by first | omega | (simp only; done) | (simp only; omega) | simp) (by first | omega | (simp only; done) | (simp only; omega) | simp)]; simp)) ?_; conv => whnf)
          | (refine SAnd.mk (PLe.refl _) ?_; conv => whnf)
          | (refine SAnd.mk (PLeL.refl _) ?_; conv => whnf)
          | (refine SAnd.mk (PLe.of_eq (by simp)) ?_; conv => whnf)
          | (refine SAnd.mk rfl ?_; conv => whnf)
          | (refine SAnd.mk ⟨rfl, rfl⟩ ?_; conv => whnf)
          | (refine SAnd.mk ⟨rfl, rfl, rfl⟩ ?_; conv => whnf))
        · rintro ⟨t, ht⟩
          rcases le4 ht with rfl | rfl | rfl | rfl | rfl
          · skip
            conv => whnf
            repeat' (first
              | (refine codeK_sound good (mu := []) ?_; conv => whnf)
              | ((first | rw [wl0] | rw [wl1] | rw [wl2] | rw [wl3] | rw [wl4] | rw [wl5]); conv => whnf)
              | (refine SBool.mk (fun _ => ?_) (fun h => absurd (of_decide_eq_true rfl) h); conv => whnf)
              | (refine SBool.mk (fun h => absurd h (of_decide_eq_false rfl)) (fun _ => ?_); conv => whnf)
              | (refine SBool.mk (fun h => ?_) (fun h => ?_) <;> conv => whnf)
              | (refine SEx.mk _ (by first | exact r186_0 | exact m0 | exact p0) ?_; conv => whnf)
              | (refine SEx.mk _ (by first | exact rfl | exact ⟨of_decide_eq_true rfl, rfl⟩) ?_; conv => whnf)
              | (refine SAll.mk (fun _ => ?_); conv => whnf)
              | (refine SAnd.mk ⟨by intro c hc; simp at hc; first | (subst hc; rfl) | ((repeat' (rcases hc with rfl | hc)) <;> first | rfl | (subst hc; rfl)), by (simp; first | done | omega), by (simp; first | done | omega)⟩ ?_; conv => whnf)
              | (refine SAnd.mk (by first | exact rfl | kernel_rfl | omega | decide | exact r186_0 | exact m0 | exact p0) ?_; conv => whnf)
              | fail)
            refine ⟨⟨1, by omega⟩, by simp only; omega, ?_⟩
            · refine SLe.of [(0, 0), (1, 1), (2, 2), (3, 3)] [] rfl rfl ?_
              conv => whnf
              repeat' (first
              | exact True.intro
              | (refine SAnd.mk (PLe.of_eq (by simp only [wrapK]; rw [wrap_id (by first | omega | (simp only; done) | (simp only; omega) | simp) (by first | omega | (simp only; done) | (simp only; omega) | simp)]; simp)) ?_; conv => whnf)
              | (refine SAnd.mk (PLe.refl _) ?_; conv => whnf)
              | (refine SAnd.mk (PLeL.refl _) ?_; conv => whnf)
              | (refine SAnd.mk (PLe.of_eq (by simp)) ?_; conv => whnf)
              | (refine SAnd.mk rfl ?_; conv => whnf)
              | (refine SAnd.mk ⟨rfl, rfl⟩ ?_; conv => whnf)
              | (refine SAnd.mk ⟨rfl, rfl, rfl⟩ ?_; conv => whnf))
          · skip
            conv => whnf
            repeat' (first
              | (refine codeK_sound good (mu := []) ?_; conv => whnf)
              | ((first | rw [wl0] | rw [wl1] | rw [wl2] | rw [wl3] | rw [wl4] | rw [wl5]); conv => whnf)
              | (refine SBool.mk (fun _ => ?_) (fun h => absurd (of_decide_eq_true rfl) h); conv => whnf)
              | (refine SBool.mk (fun h => absurd h (of_decide_eq_false rfl)) (fun _ => ?_); conv => whnf)
              | (refine SBool.mk (fun h => ?_) (fun h => ?_) <;> conv => whnf)
              | (refine SEx.mk _ (by first | exact r186_1 | exact m1 | exact p1) ?_; conv => whnf)
              | (refine SEx.mk _ (by first | exact rfl | exact ⟨of_decide_eq_true rfl, rfl⟩) ?_; conv => whnf)
              | (refine SAll.mk (fun _ => ?_); conv => whnf)
              | (refine SAnd.mk ⟨by intro c hc; simp at hc; first | (subst hc; rfl) | ((repeat' (rcases hc with rfl | hc)) <;> first | rfl | (subst hc; rfl)), by (simp; first | done | omega), by (simp; first | done | omega)⟩ ?_; conv => whnf)
              | (refine SAnd.mk (by first | exact rfl | kernel_rfl | omega | decide | exact r186_1 | exact m1 | exact p1) ?_; conv => whnf)
              | fail)
            refine ⟨⟨2, by omega⟩, by simp only; omega, ?_⟩
            · refine SLe.of [(0, 0), (1, 1), (2, 2), (3, 3)] [] rfl rfl ?_
              conv => whnf
              repeat' (first
              | exact True.intro
              | (refine SAnd.mk (PLe.of_eq (by simp only [wrapK]; rw [wrap_id (by first | omega | (simp only; done) | (simp only; omega) | simp) (by first | omega | (simp only; done) | (simp only; omega) | simp)]; simp)) ?_; conv => whnf)
              | (refine SAnd.mk (PLe.refl _) ?_; conv => whnf)
              | (refine SAnd.mk (PLeL.refl _) ?_; conv => whnf)
              | (refine SAnd.mk (PLe.of_eq (by simp)) ?_; conv => whnf)
              | (refine SAnd.mk rfl ?_; conv => whnf)
              | (refine SAnd.mk ⟨rfl, rfl⟩ ?_; conv => whnf)
              | (refine SAnd.mk ⟨rfl, rfl, rfl⟩ ?_; conv => whnf))
          · skip
            conv => whnf
            repeat' (first
              | (refine codeK_sound good (mu := []) ?_; conv => whnf)
              | ((first | rw [wl0] | rw [wl1] | rw [wl2] | rw [wl3] | rw [wl4] | rw [wl5]); conv => whnf)
              | (refine SBool.mk (fun _ => ?_) (fun h => absurd (of_decide_eq_true rfl) h); conv => whnf)
              | (refine SBool.mk (fun h => absurd h (of_decide_eq_false rfl)) (fun _ => ?_); conv => whnf)
              | (refine SBool.mk (fun h => ?_) (fun h => ?_) <;> conv => whnf)
              | (refine SEx.mk _ (by first | exact r186_2 | exact m2 | exact p2) ?_; conv => whnf)
              | (refine SEx.mk _ (by first | exact rfl | exact ⟨of_decide_eq_true rfl, rfl⟩) ?_; conv => whnf)
              | (refine SAll.mk (fun _ => ?_); conv => whnf)
              | (refine SAnd.mk ⟨by intro c hc; simp at hc; first | (subst hc; rfl) | ((repeat' (rcases hc with rfl | hc)) <;> first | rfl | (subst hc; rfl)), by (simp; first | done | omega), by (simp; first | done | omega)⟩ ?_; conv => whnf)
              | (refine SAnd.mk (by first | exact rfl | kernel_rfl | omega | decide | exact r186_2 | exact m2 | exact p2) ?_; conv => whnf)
              | fail)
            refine ⟨⟨3, by omega⟩, by simp only; omega, ?_⟩
            · refine SLe.of [(0, 0), (1, 1), (2, 2), (3, 3)] [] rfl rfl ?_
              conv => whnf
              repeat' (first
              | exact True.intro
              | (refine SAnd.mk (PLe.of_eq (by simp only [wrapK]; rw [wrap_id (by first | omega | (simp only; done) | (simp only; omega) | simp) (by first | omega | (simp only; done) | (simp only; omega) | simp)]; simp)) ?_; conv => whnf)
              | (refine SAnd.mk (PLe.refl _) ?_; conv => whnf)
              | (refine SAnd.mk (PLeL.refl _) ?_; conv => whnf)
              | (refine SAnd.mk (PLe.of_eq (by simp)) ?_; conv => whnf)
              | (refine SAnd.mk rfl ?_; conv => whnf)
              | (refine SAnd.mk ⟨rfl, rfl⟩ ?_; conv => whnf)
              | (refine SAnd.mk ⟨rfl, rfl, rfl⟩ ?_; conv => whnf))
          · skip
            conv => whnf
            repeat' (first
              | (refine codeK_sound good (mu := []) ?_; conv => whnf)
              | ((first | rw [wl0] | rw [wl1] | rw [wl2] | rw [wl3] | rw [wl4] | rw [wl5]); conv => whnf)
              | (refine SBool.mk (fun _ => ?_) (fun h => absurd (of_decide_eq_true rfl) h); conv => whnf)
              | (refine SBool.mk (fun h => absurd h (of_decide_eq_false rfl)) (fun _ => ?_); conv => whnf)
              | (refine SBool.mk (fun h => ?_) (fun h => ?_) <;> conv => whnf)
              | (refine SEx.mk _ (by first | exact r186_3 | exact m3 | exact p3) ?_; conv => whnf)
              | (refine SEx.mk _ (by first | exact rfl | exact ⟨of_decide_eq_true rfl, rfl⟩) ?_; conv => whnf)
              | (refine SAll.mk (fun _ => ?_); conv => whnf)
              | (refine SAnd.mk ⟨by intro c hc; simp at hc; first | (subst hc; rfl) | ((repeat' (rcases hc with rfl | hc)) <;> first | rfl | (subst hc; rfl)), by (simp; first | done | omega), by (simp; first | done | omega)⟩ ?_; conv => whnf)
              | (refine SAnd.mk (by first | exact rfl | kernel_rfl | omega | decide | exact r186_3 | exact m3 | exact p3) ?_; conv => whnf)
              | fail)
            refine ⟨⟨4, by omega⟩, by simp only; omega, ?_⟩
            · refine SLe.of [(0, 0), (1, 1), (2, 2), (3, 3)] [] rfl rfl ?_
              conv => whnf
              repeat' (first
              | exact True.intro
              | (refine SAnd.mk (PLe.of_eq (by simp only [wrapK]; rw [wrap_id (by first | omega | (simp only; done) | (simp only; omega) | simp) (by first | omega | (simp only; done) | (simp only; omega) | simp)]; simp)) ?_; conv => whnf)
              | (refine SAnd.mk (PLe.refl _) ?_; conv => whnf)
              | (refine SAnd.mk (PLeL.refl _) ?_; conv => whnf)
              | (refine SAnd.mk (PLe.of_eq (by simp)) ?_; conv => whnf)
              | (refine SAnd.mk rfl ?_; conv => whnf)
              | (refine SAnd.mk ⟨rfl, rfl⟩ ?_; conv => whnf)
              | (refine SAnd.mk ⟨rfl, rfl, rfl⟩ ?_; conv => whnf))
          · skip
            cases hb : divB d4 4 with
            | true =>
              rw [hb] at dd
              have hb' : db q 2 = true := by unfold db; rw [← e]; exact hb
              have e1 : dq q 2 = divG d4 4 := by unfold dq; rw [e]
              conv => whnf
              repeat' (first
                | (refine codeK_sound good (mu := []) ?_; conv => whnf)
                | ((first | rw [wl0] | rw [wl1] | rw [wl2] | rw [wl3] | rw [wl4] | rw [wl5]); conv => whnf)
                | (refine SBool.mk (fun _ => ?_) (fun h => absurd (of_decide_eq_true rfl) h); conv => whnf)
                | (refine SBool.mk (fun h => absurd h (of_decide_eq_false rfl)) (fun _ => ?_); conv => whnf)
                | (refine SBool.mk (fun h => ?_) (fun h => ?_) <;> conv => whnf)
                | (refine SEx.mk _ (by first | exact dd) ?_; conv => whnf)
                | (refine SEx.mk _ (by first | exact rfl | exact ⟨of_decide_eq_true rfl, rfl⟩) ?_; conv => whnf)
                | (refine SAll.mk (fun _ => ?_); conv => whnf)
                | (refine SAnd.mk ⟨by intro c hc; simp at hc; first | (subst hc; rfl) | ((repeat' (rcases hc with rfl | hc)) <;> first | rfl | (subst hc; rfl)), by (simp; first | done | omega), by (simp; first | done | omega)⟩ ?_; conv => whnf)
                | (refine SAnd.mk (by first | exact rfl | kernel_rfl | omega | decide | exact dd) ?_; conv => whnf)
                | fail)
              refine ⟨⟨3, by omega, fun j hj => by (rcases (by omega : j < 2 ∨ j = 2) with h | rfl); exact hall j h; exact hb'⟩, by simp only; omega, ?_⟩
              rw [← e1]
              · refine SLe.of [(0, 0), (1, 1), (2, 2)] [] rfl rfl ?_
                conv => whnf
                repeat' (first
                | exact True.intro
                | (refine SAnd.mk (PLe.of_eq (by simp only [wrapK]; rw [wrap_id (by first | omega | (simp only; done) | (simp only; omega) | simp) (by first | omega | (simp only; done) | (simp only; omega) | simp)]; simp)) ?_; conv => whnf)
                | (refine SAnd.mk (PLe.refl _) ?_; conv => whnf)
                | (refine SAnd.mk (PLeL.refl _) ?_; conv => whnf)
                | (refine SAnd.mk (PLe.of_eq (by simp)) ?_; conv => whnf)
                | (refine SAnd.mk rfl ?_; conv => whnf)
                | (refine SAnd.mk ⟨rfl, rfl⟩ ?_; conv => whnf)
                | (refine SAnd.mk ⟨rfl, rfl, rfl⟩ ?_; conv => whnf))
            | false =>
              rw [hb] at dd
              have hb' : db q 2 = false := by unfold db; rw [← e]; exact hb
              conv => whnf
              repeat' (first
                | (refine codeK_sound good (mu := []) ?_; conv => whnf)
                | ((first | rw [wl0] | rw [wl1] | rw [wl2] | rw [wl3] | rw [wl4] | rw [wl5]); conv => whnf)
                | (refine SBool.mk (fun _ => ?_) (fun h => absurd (of_decide_eq_true rfl) h); conv => whnf)
                | (refine SBool.mk (fun h => absurd h (of_decide_eq_false rfl)) (fun _ => ?_); conv => whnf)
                | (refine SBool.mk (fun h => ?_) (fun h => ?_) <;> conv => whnf)
                | (refine SEx.mk _ (by first | exact dd) ?_; conv => whnf)
                | (refine SEx.mk _ (by first | exact rfl | exact ⟨of_decide_eq_true rfl, rfl⟩) ?_; conv => whnf)
                | (refine SAll.mk (fun _ => ?_); conv => whnf)
                | (refine SAnd.mk ⟨by intro c hc; simp at hc; first | (subst hc; rfl) | ((repeat' (rcases hc with rfl | hc)) <;> first | rfl | (subst hc; rfl)), by (simp; first | done | omega), by (simp; first | done | omega)⟩ ?_; conv => whnf)
                | (refine SAnd.mk (by first | exact rfl | kernel_rfl | omega | decide | exact dd) ?_; conv => whnf)
                | fail)
              have hB : recB q = false := by
                unfold recB
                rw [hb']
                simp
              have hE : recE q = 2 := by unfold recE; rw [hB]; rfl
              exact ⟨PLe.of_eq (by unfold recV recL; rw [hE]; rfl)⟩
    · as_aux_lemma =>
        obtain ⟨x0, x1, x2, x3, d1, d2, d3, d4, m0, m1, m2, m3, p0, p1, p2, p3, e⟩ := chain q hq pos neg neg pos
        have e : d4 = D q 3 := e
        have dd := divided_pure d4 4 (by decide)
        conv => whnf
        repeat' (first
          | (refine codeK_sound good (mu := []) ?_; conv => whnf)
          | ((first | rw [wl0] | rw [wl1] | rw [wl2] | rw [wl3] | rw [wl4] | rw [wl5]); conv => whnf)
          | (refine SBool.mk (fun _ => ?_) (fun h => absurd (of_decide_eq_true rfl) h); conv => whnf)
          | (refine SBool.mk (fun h => absurd h (of_decide_eq_false rfl)) (fun _ => ?_); conv => whnf)
          | (refine SBool.mk (fun h => ?_) (fun h => ?_) <;> conv => whnf)
          | (refine SEx.mk _ (by first | exact rfl | exact ⟨of_decide_eq_true rfl, rfl⟩) ?_; conv => whnf)
          | (refine SAll.mk (fun _ => ?_); conv => whnf)
          | (refine SAnd.mk ⟨by intro c hc; simp at hc; first | (subst hc; rfl) | ((repeat' (rcases hc with rfl | hc)) <;> first | rfl | (subst hc; rfl)), by (simp; first | done | omega), by (simp; first | done | omega)⟩ ?_; conv => whnf)
          | (refine SAnd.mk (by first | exact rfl | kernel_rfl | omega | decide) ?_; conv => whnf)
          | fail)
        refine ⟨AWp.loop (ι := { t : Nat // t ≤ 4 }) (fun t => ⟨[(34, .p (I t.1)), (33, .p (.agg (qc q))), (11, .box 3 0), (10, .p (.fn 187 [.ref [I 1, I 1, I (-1), I (-1)], .ref [I 1, I (-1), I 1, I (-1)]])), (9, .p (I 3)), (29, .p (I 3)), (28, .p fnsV), (8, .box 2 0), (3, .box 1 0), (2, .box 0 0), (1, .p (.ref (qc q)))], [(0, (32, [I 0, I 0, I 0, I 0, I 0, I 0])), (1, (23, [I 0, I 0])), (2, (213, outR q 3)), (3, (23, dn d1 d2 d3 d4 t.1))], [], 4, [], [], []⟩) (fun t => 4 - t.1) ⟨0, by omega⟩ ?_ ?_⟩
        · refine SLe.of [(0, 0), (1, 1), (2, 2), (3, 3)] [] rfl rfl ?_
          conv => whnf
          repeat' (first
          | exact True.intro
          | (refine SAnd.mk (PLe.of_eq (by simp only [wrapK]; rw [wrap_id (by first | omega | (simp only; done) | (simp only; omega) | simp) (by first | omega | (simp only; done) | (simp only; omega) | simp)]; simp)) ?_; conv => whnf)
          | (refine SAnd.mk (PLe.refl _) ?_; conv => whnf)
          | (refine SAnd.mk (PLeL.refl _) ?_; conv => whnf)
          | (refine SAnd.mk (PLe.of_eq (by simp)) ?_; conv => whnf)
          | (refine SAnd.mk rfl ?_; conv => whnf)
          | (refine SAnd.mk ⟨rfl, rfl⟩ ?_; conv => whnf)
          | (refine SAnd.mk ⟨rfl, rfl, rfl⟩ ?_; conv => whnf))
        · rintro ⟨t, ht⟩
          rcases le4 ht with rfl | rfl | rfl | rfl | rfl
          · skip
            conv => whnf
            repeat' (first
              | (refine codeK_sound good (mu := []) ?_; conv => whnf)
              | ((first | rw [wl0] | rw [wl1] | rw [wl2] | rw [wl3] | rw [wl4] | rw [wl5]); conv => whnf)
              | (refine SBool.mk (fun _ => ?_) (fun h => absurd (of_decide_eq_true rfl) h); conv => whnf)
              | (refine SBool.mk (fun h => absurd h (of_decide_eq_false rfl)) (fun _ => ?_); conv => whnf)
              | (refine SBool.mk (fun h => ?_) (fun h => ?_) <;> conv => whnf)
              | (refine SEx.mk _ (by first | exact r187_0 | exact m0 | exact p0) ?_; conv => whnf)
              | (refine SEx.mk _ (by first | exact rfl | exact ⟨of_decide_eq_true rfl, rfl⟩) ?_; conv => whnf)
              | (refine SAll.mk (fun _ => ?_); conv => whnf)
              | (refine SAnd.mk ⟨by intro c hc; simp at hc; first | (subst hc; rfl) | ((repeat' (rcases hc with rfl | hc)) <;> first | rfl | (subst hc; rfl)), by (simp; first | done | omega), by (simp; first | done | omega)⟩ ?_; conv => whnf)
              | (refine SAnd.mk (by first | exact rfl | kernel_rfl | omega | decide | exact r187_0 | exact m0 | exact p0) ?_; conv => whnf)
              | fail)
            refine ⟨⟨1, by omega⟩, by simp only; omega, ?_⟩
            · refine SLe.of [(0, 0), (1, 1), (2, 2), (3, 3)] [] rfl rfl ?_
              conv => whnf
              repeat' (first
              | exact True.intro
              | (refine SAnd.mk (PLe.of_eq (by simp only [wrapK]; rw [wrap_id (by first | omega | (simp only; done) | (simp only; omega) | simp) (by first | omega | (simp only; done) | (simp only; omega) | simp)]; simp)) ?_; conv => whnf)
              | (refine SAnd.mk (PLe.refl _) ?_; conv => whnf)
              | (refine SAnd.mk (PLeL.refl _) ?_; conv => whnf)
              | (refine SAnd.mk (PLe.of_eq (by simp)) ?_; conv => whnf)
              | (refine SAnd.mk rfl ?_; conv => whnf)
              | (refine SAnd.mk ⟨rfl, rfl⟩ ?_; conv => whnf)
              | (refine SAnd.mk ⟨rfl, rfl, rfl⟩ ?_; conv => whnf))
          · skip
            conv => whnf
            repeat' (first
              | (refine codeK_sound good (mu := []) ?_; conv => whnf)
              | ((first | rw [wl0] | rw [wl1] | rw [wl2] | rw [wl3] | rw [wl4] | rw [wl5]); conv => whnf)
              | (refine SBool.mk (fun _ => ?_) (fun h => absurd (of_decide_eq_true rfl) h); conv => whnf)
              | (refine SBool.mk (fun h => absurd h (of_decide_eq_false rfl)) (fun _ => ?_); conv => whnf)
              | (refine SBool.mk (fun h => ?_) (fun h => ?_) <;> conv => whnf)
              | (refine SEx.mk _ (by first | exact r187_1 | exact m1 | exact p1) ?_; conv => whnf)
              | (refine SEx.mk _ (by first | exact rfl | exact ⟨of_decide_eq_true rfl, rfl⟩) ?_; conv => whnf)
              | (refine SAll.mk (fun _ => ?_); conv => whnf)
              | (refine SAnd.mk ⟨by intro c hc; simp at hc; first | (subst hc; rfl) | ((repeat' (rcases hc with rfl | hc)) <;> first | rfl | (subst hc; rfl)), by (simp; first | done | omega), by (simp; first | done | omega)⟩ ?_; conv => whnf)
              | (refine SAnd.mk (by first | exact rfl | kernel_rfl | omega | decide | exact r187_1 | exact m1 | exact p1) ?_; conv => whnf)
              | fail)
            refine ⟨⟨2, by omega⟩, by simp only; omega, ?_⟩
            · refine SLe.of [(0, 0), (1, 1), (2, 2), (3, 3)] [] rfl rfl ?_
              conv => whnf
              repeat' (first
              | exact True.intro
              | (refine SAnd.mk (PLe.of_eq (by simp only [wrapK]; rw [wrap_id (by first | omega | (simp only; done) | (simp only; omega) | simp) (by first | omega | (simp only; done) | (simp only; omega) | simp)]; simp)) ?_; conv => whnf)
              | (refine SAnd.mk (PLe.refl _) ?_; conv => whnf)
              | (refine SAnd.mk (PLeL.refl _) ?_; conv => whnf)
              | (refine SAnd.mk (PLe.of_eq (by simp)) ?_; conv => whnf)
              | (refine SAnd.mk rfl ?_; conv => whnf)
              | (refine SAnd.mk ⟨rfl, rfl⟩ ?_; conv => whnf)
              | (refine SAnd.mk ⟨rfl, rfl, rfl⟩ ?_; conv => whnf))
          · skip
            conv => whnf
            repeat' (first
              | (refine codeK_sound good (mu := []) ?_; conv => whnf)
              | ((first | rw [wl0] | rw [wl1] | rw [wl2] | rw [wl3] | rw [wl4] | rw [wl5]); conv => whnf)
              | (refine SBool.mk (fun _ => ?_) (fun h => absurd (of_decide_eq_true rfl) h); conv => whnf)
              | (refine SBool.mk (fun h => absurd h (of_decide_eq_false rfl)) (fun _ => ?_); conv => whnf)
              | (refine SBool.mk (fun h => ?_) (fun h => ?_) <;> conv => whnf)
              | (refine SEx.mk _ (by first | exact r187_2 | exact m2 | exact p2) ?_; conv => whnf)
              | (refine SEx.mk _ (by first | exact rfl | exact ⟨of_decide_eq_true rfl, rfl⟩) ?_; conv => whnf)
              | (refine SAll.mk (fun _ => ?_); conv => whnf)
              | (refine SAnd.mk ⟨by intro c hc; simp at hc; first | (subst hc; rfl) | ((repeat' (rcases hc with rfl | hc)) <;> first | rfl | (subst hc; rfl)), by (simp; first | done | omega), by (simp; first | done | omega)⟩ ?_; conv => whnf)
              | (refine SAnd.mk (by first | exact rfl | kernel_rfl | omega | decide | exact r187_2 | exact m2 | exact p2) ?_; conv => whnf)
              | fail)
            refine ⟨⟨3, by omega⟩, by simp only; omega, ?_⟩
            · refine SLe.of [(0, 0), (1, 1), (2, 2), (3, 3)] [] rfl rfl ?_
              conv => whnf
              repeat' (first
              | exact True.intro
              | (refine SAnd.mk (PLe.of_eq (by simp only [wrapK]; rw [wrap_id (by first | omega | (simp only; done) | (simp only; omega) | simp) (by first | omega | (simp only; done) | (simp only; omega) | simp)]; simp)) ?_; conv => whnf)
              | (refine SAnd.mk (PLe.refl _) ?_; conv => whnf)
              | (refine SAnd.mk (PLeL.refl _) ?_; conv => whnf)
              | (refine SAnd.mk (PLe.of_eq (by simp)) ?_; conv => whnf)
              | (refine SAnd.mk rfl ?_; conv => whnf)
              | (refine SAnd.mk ⟨rfl, rfl⟩ ?_; conv => whnf)
              | (refine SAnd.mk ⟨rfl, rfl, rfl⟩ ?_; conv => whnf))
          · skip
            conv => whnf
            repeat' (first
              | (refine codeK_sound good (mu := []) ?_; conv => whnf)
              | ((first | rw [wl0] | rw [wl1] | rw [wl2] | rw [wl3] | rw [wl4] | rw [wl5]); conv => whnf)
              | (refine SBool.mk (fun _ => ?_) (fun h => absurd (of_decide_eq_true rfl) h); conv => whnf)
              | (refine SBool.mk (fun h => absurd h (of_decide_eq_false rfl)) (fun _ => ?_); conv => whnf)
              | (refine SBool.mk (fun h => ?_) (fun h => ?_) <;> conv => whnf)
              | (refine SEx.mk _ (by first | exact r187_3 | exact m3 | exact p3) ?_; conv => whnf)
              | (refine SEx.mk _ (by first | exact rfl | exact ⟨of_decide_eq_true rfl, rfl⟩) ?_; conv => whnf)
              | (refine SAll.mk (fun _ => ?_); conv => whnf)
              | (refine SAnd.mk ⟨by intro c hc; simp at hc; first | (subst hc; rfl) | ((repeat' (rcases hc with rfl | hc)) <;> first | rfl | (subst hc; rfl)), by (simp; first | done | omega), by (simp; first | done | omega)⟩ ?_; conv => whnf)
              | (refine SAnd.mk (by first | exact rfl | kernel_rfl | omega | decide | exact r187_3 | exact m3 | exact p3) ?_; conv => whnf)
              | fail)
            refine ⟨⟨4, by omega⟩, by simp only; omega, ?_⟩
            · refine SLe.of [(0, 0), (1, 1), (2, 2), (3, 3)] [] rfl rfl ?_
              conv => whnf
              repeat' (first
              | exact True.intro
              | (refine SAnd.mk (PLe.of_eq (by simp only [wrapK]; rw [wrap_id (by first | omega | (simp only; done) | (simp only; omega) | simp) (by first | omega | (simp only; done) | (simp only; omega) | simp)]; simp)) ?_; conv => whnf)
              | (refine SAnd.mk (PLe.refl _) ?_; conv => whnf)
              | (refine SAnd.mk (PLeL.refl _) ?_; conv => whnf)
              | (refine SAnd.mk (PLe.of_eq (by simp)) ?_; conv => whnf)
              | (refine SAnd.mk rfl ?_; conv => whnf)
              | (refine SAnd.mk ⟨rfl, rfl⟩ ?_; conv => whnf)
              | (refine SAnd.mk ⟨rfl, rfl, rfl⟩ ?_; conv => whnf))
          · skip
            cases hb : divB d4 4 with
            | true =>
              rw [hb] at dd
              have hb' : db q 3 = true := by unfold db; rw [← e]; exact hb
              have e1 : dq q 3 = divG d4 4 := by unfold dq; rw [e]
              conv => whnf
              repeat' (first
                | (refine codeK_sound good (mu := []) ?_; conv => whnf)
                | ((first | rw [wl0] | rw [wl1] | rw [wl2] | rw [wl3] | rw [wl4] | rw [wl5]); conv => whnf)
                | (refine SBool.mk (fun _ => ?_) (fun h => absurd (of_decide_eq_true rfl) h); conv => whnf)
                | (refine SBool.mk (fun h => absurd h (of_decide_eq_false rfl)) (fun _ => ?_); conv => whnf)
                | (refine SBool.mk (fun h => ?_) (fun h => ?_) <;> conv => whnf)
                | (refine SEx.mk _ (by first | exact dd) ?_; conv => whnf)
                | (refine SEx.mk _ (by first | exact rfl | exact ⟨of_decide_eq_true rfl, rfl⟩) ?_; conv => whnf)
                | (refine SAll.mk (fun _ => ?_); conv => whnf)
                | (refine SAnd.mk ⟨by intro c hc; simp at hc; first | (subst hc; rfl) | ((repeat' (rcases hc with rfl | hc)) <;> first | rfl | (subst hc; rfl)), by (simp; first | done | omega), by (simp; first | done | omega)⟩ ?_; conv => whnf)
                | (refine SAnd.mk (by first | exact rfl | kernel_rfl | omega | decide | exact dd) ?_; conv => whnf)
                | fail)
              refine ⟨⟨4, by omega, fun j hj => by (rcases (by omega : j < 3 ∨ j = 3) with h | rfl); exact hall j h; exact hb'⟩, by simp only; omega, ?_⟩
              rw [← e1]
              · refine SLe.of [(0, 0), (1, 1), (2, 2)] [] rfl rfl ?_
                conv => whnf
                repeat' (first
                | exact True.intro
                | (refine SAnd.mk (PLe.of_eq (by simp only [wrapK]; rw [wrap_id (by first | omega | (simp only; done) | (simp only; omega) | simp) (by first | omega | (simp only; done) | (simp only; omega) | simp)]; simp)) ?_; conv => whnf)
                | (refine SAnd.mk (PLe.refl _) ?_; conv => whnf)
                | (refine SAnd.mk (PLeL.refl _) ?_; conv => whnf)
                | (refine SAnd.mk (PLe.of_eq (by simp)) ?_; conv => whnf)
                | (refine SAnd.mk rfl ?_; conv => whnf)
                | (refine SAnd.mk ⟨rfl, rfl⟩ ?_; conv => whnf)
                | (refine SAnd.mk ⟨rfl, rfl, rfl⟩ ?_; conv => whnf))
            | false =>
              rw [hb] at dd
              have hb' : db q 3 = false := by unfold db; rw [← e]; exact hb
              conv => whnf
              repeat' (first
                | (refine codeK_sound good (mu := []) ?_; conv => whnf)
                | ((first | rw [wl0] | rw [wl1] | rw [wl2] | rw [wl3] | rw [wl4] | rw [wl5]); conv => whnf)
                | (refine SBool.mk (fun _ => ?_) (fun h => absurd (of_decide_eq_true rfl) h); conv => whnf)
                | (refine SBool.mk (fun h => absurd h (of_decide_eq_false rfl)) (fun _ => ?_); conv => whnf)
                | (refine SBool.mk (fun h => ?_) (fun h => ?_) <;> conv => whnf)
                | (refine SEx.mk _ (by first | exact dd) ?_; conv => whnf)
                | (refine SEx.mk _ (by first | exact rfl | exact ⟨of_decide_eq_true rfl, rfl⟩) ?_; conv => whnf)
                | (refine SAll.mk (fun _ => ?_); conv => whnf)
                | (refine SAnd.mk ⟨by intro c hc; simp at hc; first | (subst hc; rfl) | ((repeat' (rcases hc with rfl | hc)) <;> first | rfl | (subst hc; rfl)), by (simp; first | done | omega), by (simp; first | done | omega)⟩ ?_; conv => whnf)
                | (refine SAnd.mk (by first | exact rfl | kernel_rfl | omega | decide | exact dd) ?_; conv => whnf)
                | fail)
              have hB : recB q = false := by
                unfold recB
                rw [hb']
                simp
              have hE : recE q = 2 := by unfold recE; rw [hB]; rfl
              exact ⟨PLe.of_eq (by unfold recV recL; rw [hE]; rfl)⟩
    · as_aux_lemma =>
        have hB : recB q = true := by
          unfold recB
          rw [hall 0 (by omega), hall 1 (by omega), hall 2 (by omega), hall 3 (by omega)]
          rfl
        have hE : recE q = madeE (recS q) := by unfold recE; rw [if_pos hB]
        conv => whnf
        repeat' (first
          | (refine codeK_sound good (mu := []) ?_; conv => whnf)
          | ((first | rw [wl0] | rw [wl1] | rw [wl2] | rw [wl3] | rw [wl4] | rw [wl5]); conv => whnf)
          | (refine SBool.mk (fun _ => ?_) (fun h => absurd (of_decide_eq_true rfl) h); conv => whnf)
          | (refine SBool.mk (fun h => absurd h (of_decide_eq_false rfl)) (fun _ => ?_); conv => whnf)
          | (refine SBool.mk (fun h => ?_) (fun h => ?_) <;> conv => whnf)
          | (refine SEx.mk _ (by first | exact made_pure (recS q)) ?_; conv => whnf)
          | (refine SEx.mk _ (by first | exact rfl | exact ⟨of_decide_eq_true rfl, rfl⟩) ?_; conv => whnf)
          | (refine SAll.mk (fun _ => ?_); conv => whnf)
          | (refine SAnd.mk ⟨by intro c hc; simp at hc; first | (subst hc; rfl) | ((repeat' (rcases hc with rfl | hc)) <;> first | rfl | (subst hc; rfl)), by (simp; first | done | omega), by (simp; first | done | omega)⟩ ?_; conv => whnf)
          | (refine SAnd.mk (by first | exact rfl | kernel_rfl | omega | decide | exact made_pure (recS q)) ?_; conv => whnf)
          | fail)
        · have e2 : recV q = madeS (recS q) := by unfold recV madeS; rw [hE, if_pos h]
          have e3 : recL q = dq q 3 := by unfold recL; rw [hE, if_pos h]
          exact ⟨PLe.of_eq (by rw [e2, e3, hE, h])⟩
        · have e2 : recV q = S0 := by unfold recV; rw [hE, if_neg h]
          have e3 : recL q = G0 := by unfold recL; rw [hE, if_neg h]
          exact ⟨PLe.of_eq (by rw [e2, e3, hE]; rfl)⟩
end Go.Proofs.Ab.Tone
end
section
/- Received and averaged panels. -/
set_option maxRecDepth 100000
set_option linter.unusedVariables false
set_option linter.unusedSimpArgs false
namespace Go.Proofs.Ab.Tone
open Go Go.RowKit Go.Proofs.Ab
theorem conv32 {x : Nat} {n : Int} (h : FInt .f32 x n) (hn : n.natAbs ≤ 1000000) : ∀ w, (convert 125 3 (.float .f32 x)).run C.P w = .ok (.int .i64 n) w :=
  fun w => run_convert_float_int w 125 3 .f32 .i64 x n (by kernel_rfl) (by kernel_rfl) (h.int (by omega) (by omega))
theorem integers_pure (p : Pn) (h : p.Is) : APure C 150 [.agg (pc p)] (.agg (p4 p)) := by
  have c0 := conv32 h.g0.re h.f0.re
  have c1 := conv32 h.g0.im h.f0.im
  have c2 := conv32 h.g1.re h.f1.re
  have c3 := conv32 h.g1.im h.f1.im
  have c4 := conv32 h.g2.re h.f2.re
  have c5 := conv32 h.g2.im h.f2.im
  have c6 := conv32 h.g3.re h.f3.re
  have c7 := conv32 h.g3.im h.f3.im
  refine APure.of_body good [] (fn := Tryz.f150) (by kernel_rfl) (by kernel_rfl) rfl rfl (by kernel_rfl) rfl (by kernel_rfl) ?_
  conv => whnf
  repeat' (first
    | (refine codeK_sound good (mu := []) ?_; conv => whnf)
    | ((first | rw [wl0] | rw [wl1] | rw [wl2] | rw [wl3] | rw [wl4] | rw [wl5]); conv => whnf)
    | (refine SBool.mk (fun _ => ?_) (fun h => absurd (of_decide_eq_true rfl) h); conv => whnf)
    | (refine SBool.mk (fun h => absurd h (of_decide_eq_false rfl)) (fun _ => ?_); conv => whnf)
    | (refine SBool.mk (fun h => ?_) (fun h => ?_) <;> conv => whnf)
    | refine SCode.mk (AWp.rounds 5 ?_)
    | (refine SEx.mk _ (by first | exact c0 | exact c1 | exact c2 | exact c3 | exact c4 | exact c5 | exact c6 | exact c7) ?_; conv => whnf)
    | (refine SEx.mk _ (by first | exact rfl | exact ⟨of_decide_eq_true rfl, rfl⟩) ?_; conv => whnf)
    | (refine SAll.mk (fun _ => ?_); conv => whnf)
    | (refine SAnd.mk ⟨by intro c hc; simp at hc; first | (subst hc; rfl) | ((repeat' (rcases hc with rfl | hc)) <;> first | rfl | (subst hc; rfl)), by (simp; first | done | omega), by (simp; first | done | omega)⟩ ?_; conv => whnf)
    | (refine SAnd.mk (by first | exact rfl | kernel_rfl | omega | decide | exact c0 | exact c1 | exact c2 | exact c3 | exact c4 | exact c5 | exact c6 | exact c7) ?_; conv => whnf)
    | fail)
  exact ⟨PLe.refl _⟩
theorem eqIn_c {x y x' y' : Nat} {a b : G} (hx : FG x y a) (hy : FG x' y' b) (k : Nat) (w : World) : (Op.equalIn (k + 1) 119 (.complex .f32 x y) (.complex .f32 x' y')).run C.P w = .ok (decide (a.re = b.re ∧ a.im = b.im)) w := by
  have hu : C.P.underlying 119 = some (.complex .f32) := by kernel_rfl
  rw [Op.equalIn]
  simp [run_underlying hu, floatEq_int hx.re hy.re, floatEq_int hx.im hy.im]
def samePn (p p' : Pn) : Prop := (p.a0.re = p'.a0.re ∧ p.a0.im = p'.a0.im) ∧ (p.a1.re = p'.a1.re ∧ p.a1.im = p'.a1.im) ∧ (p.a2.re = p'.a2.re ∧ p.a2.im = p'.a2.im) ∧ (p.a3.re = p'.a3.re ∧ p.a3.im = p'.a3.im)
instance (p p' : Pn) : Decidable (samePn p p') := by unfold samePn; infer_instance
theorem eqIn_panel (p p' : Pn) (h : p.Is) (h' : p'.Is) (k : Nat) (w : World) : (Op.equalIn (k + 2) 120 (.agg #[.complex .f32 p.x0 p.y0, .complex .f32 p.x1 p.y1, .complex .f32 p.x2 p.y2, .complex .f32 p.x3 p.y3]) (.agg #[.complex .f32 p'.x0 p'.y0, .complex .f32 p'.x1 p'.y1, .complex .f32 p'.x2 p'.y2, .complex .f32 p'.x3 p'.y3])).run C.P w = .ok (decide (samePn p p')) w := by
  have hu : C.P.underlying 120 = some (.array 4 119) := by kernel_rfl
  have hu2 : C.P.underlying 119 = some (.complex .f32) := by kernel_rfl
  have hi : C.P.info? 119 = some Tryz.t119 := by kernel_rfl
  have hc : C.P.cellsOf 119 = 1 := by kernel_rfl
  rw [run_equalIn_array w (k + 1) _ _ hu hi, hc]
  have e0 := eqIn_c h.g0 h'.g0 k w
  have e1 := eqIn_c h.g1 h'.g1 k w
  have e2 := eqIn_c h.g2 h'.g2 k w
  have e3 := eqIn_c h.g3 h'.g3 k w
  have pt : ∀ (xs : Array Value) (j : Nat) (v : Value), xs[j]? = some v → (part 119 xs j).run C.P w = .ok v w := fun xs j v hv => by
    simp [part, isAgg, run_underlying hu2, hv]
  have r4 : List.range 4 = [0, 1, 2, 3] := rfl
  rw [r4]
  unfold samePn
  by_cases q0 : p.a0.re = p'.a0.re ∧ p.a0.im = p'.a0.im
  · by_cases q1 : p.a1.re = p'.a1.re ∧ p.a1.im = p'.a1.im
    · by_cases q2 : p.a2.re = p'.a2.re ∧ p.a2.im = p'.a2.im
      · by_cases q3 : p.a3.re = p'.a3.re ∧ p.a3.im = p'.a3.im
        · simp only [q0, q1, q2, q3, decide_true, decide_false, and_self, true_and] at e0 e1 e2 e3 ⊢
          simp [Op.eqItems, pt, e0, e1, e2, e3]
        · simp only [q0, q1, q2, q3, decide_true, decide_false, and_self, true_and] at e0 e1 e2 e3 ⊢
          simp [Op.eqItems, pt, e0, e1, e2, e3]
      · simp only [q0, q1, q2, decide_true, decide_false, and_self, true_and, false_and, and_false] at e0 e1 e2 e3 ⊢
        simp [Op.eqItems, pt, e0, e1, e2, e3]
    · simp only [q0, q1, decide_true, decide_false, and_self, true_and, false_and, and_false] at e0 e1 e2 e3 ⊢
      simp [Op.eqItems, pt, e0, e1, e2, e3]
  · simp only [q0, decide_true, decide_false, and_self, true_and, false_and, and_false] at e0 e1 e2 e3 ⊢
    simp [Op.eqItems, pt, e0, e1, e2, e3]
theorem eq_panel (p p' : Pn) (h : p.Is) (h' : p'.Is) : EqAgg C 120 (pc p) (pc p') (decide (samePn p p')) := by
  intro x y w ok us vs hu hv
  obtain ⟨u1, us1, rfl, h1, hu⟩ := hu.uncons
  obtain ⟨u2, us2, rfl, h2, hu⟩ := hu.uncons
  obtain ⟨u3, us3, rfl, h3, hu⟩ := hu.uncons
  obtain ⟨u4, us4, rfl, h4, hu⟩ := hu.uncons
  obtain rfl := hu.unnil
  obtain ⟨v1, vs1, rfl, g1, hv⟩ := hv.uncons
  obtain ⟨v2, vs2, rfl, g2, hv⟩ := hv.uncons
  obtain ⟨v3, vs3, rfl, g3, hv⟩ := hv.uncons
  obtain ⟨v4, vs4, rfl, g4, hv⟩ := hv.uncons
  obtain rfl := hv.unnil
  cases h1; cases h2; cases h3; cases h4; cases g1; cases g2; cases g3; cases g4
  have hm : C.P.eqGuardType C.P.depth 120 = false := by kernel_rfl
  exact ⟨run_eqGuard_agg w _ 120 x y _ _ hm, run_eqGuard_agg w _ 120 x y _ _ hm, eqIn_panel p p' h h' 9998 w⟩
def P0 : Pn := ⟨0, 0, 0, 0, 0, 0, 0, 0, G0, G0, G0, G0⟩
theorem P0_is : P0.Is := ⟨⟨FInt.zero32, FInt.zero32⟩, ⟨FInt.zero32, FInt.zero32⟩, ⟨FInt.zero32, FInt.zero32⟩, ⟨FInt.zero32, FInt.zero32⟩, ⟨by decide, by decide⟩, ⟨by decide, by decide⟩, ⟨by decide, by decide⟩, ⟨by decide, by decide⟩⟩
def Pn.q (p : Pn) : Q4 := ⟨p.a0, p.a1, p.a2, p.a3⟩
def rcvE (p : Pn) : Int := if panelE p = 0 then if samePn p P0 then 6 else recE p.q else panelE p
def rcvV (p : Pn) : Sg := if rcvE p = 0 then recV p.q else S0
def rcvL (p : Pn) : G := if rcvE p = 0 then recL p.q else G0
theorem Received_pure (p : Pn) (hp : p.Is) : APure C 74 [.agg (pc p)] (.tup [.agg (sc (rcvV p)), .agg (gc (rcvL p)), I (rcvE p)]) := by
  have hr := received_pure p.q ⟨hp.f0, hp.f1, hp.f2, hp.f3⟩
  refine APure.of_body good [] (fn := Tryz.f74) (by kernel_rfl) (by kernel_rfl) rfl rfl (by kernel_rfl) rfl (by kernel_rfl) ?_
  conv => whnf
  repeat' (first
    | (refine codeK_sound good (mu := []) ?_; conv => whnf)
    | ((first | rw [wl0] | rw [wl1] | rw [wl2] | rw [wl3] | rw [wl4] | rw [wl5]); conv => whnf)
    | (refine SBool.mk (fun _ => ?_) (fun h => absurd (of_decide_eq_true rfl) h); conv => whnf)
    | (refine SBool.mk (fun h => absurd h (of_decide_eq_false rfl)) (fun _ => ?_); conv => whnf)
    | (refine SBool.mk (fun h => ?_) (fun h => ?_) <;> conv => whnf)
    | (refine SEx.mk _ (by first | exact checkPanel_pure p hp | exact nothing_pure | exact eq_panel p P0 hp P0_is | exact integers_pure p hp | exact hr) ?_; conv => whnf)
    | (refine SEx.mk _ (by first | exact rfl | exact ⟨of_decide_eq_true rfl, rfl⟩) ?_; conv => whnf)
    | (refine SAll.mk (fun _ => ?_); conv => whnf)
    | (refine SAnd.mk (by first | exact hr) ?_; conv => whnf)
    | (refine SAnd.mk ⟨by intro c hc; simp at hc; first | (subst hc; rfl) | ((repeat' (rcases hc with rfl | hc)) <;> first | rfl | (subst hc; rfl)), by (simp; first | done | omega), by (simp; first | done | omega)⟩ ?_; conv => whnf)
    | (refine SAnd.mk (by first | exact rfl | kernel_rfl | omega | decide | exact checkPanel_pure p hp | exact nothing_pure | exact eq_panel p P0 hp P0_is | exact integers_pure p hp | exact hr) ?_; conv => whnf)
    | fail)
  · have h0 : samePn p P0 := of_decide_eq_true (by assumption)
    have hE : rcvE p = 6 := by unfold rcvE; rw [if_pos (by assumption), if_pos h0]
    exact ⟨PLe.of_eq (by unfold rcvV rcvL; rw [hE]; rfl)⟩
  · rename_i hz
    have h0 : ¬ samePn p P0 := of_decide_eq_false (by simpa using h)
    have hE : rcvE p = recE p.q := by unfold rcvE; rw [if_pos hz, if_neg h0]
    have e2 : rcvV p = recV p.q := by
      unfold rcvV
      rw [hE]
      split
      · rfl
      · rename_i h; unfold recV; rw [if_neg h]
    have e3 : rcvL p = recL p.q := by
      unfold rcvL
      rw [hE]
      split
      · rfl
      · rename_i h; unfold recL; rw [if_neg h]
    exact ⟨PLe.of_eq (by rw [e2, e3, hE])⟩
  · have hE : rcvE p = panelE p := by unfold rcvE; rw [if_neg (by assumption)]
    have hE0 : ¬ rcvE p = 0 := by rw [hE]; assumption
    exact ⟨PLe.of_eq (by unfold rcvV rcvL; rw [if_neg hE0, if_neg hE0, hE]; rfl)⟩
theorem mapped152_pure (f : Pn → Int) (g : FuncId) (caps : List PV) (xs : List Pn) (hl : xs.length ≤ 1000000) (hm : ∀ x ∈ xs, APure C g (.agg (pc x) :: caps) (I (f x))) :
    APure C 152 [.seq 4 (xs.map pc), .fn g caps] (.seq 1 (xs.map fun x => [I (f x)])) := by
  refine APure.of_body good [] (fn := Tryz.f152) (by kernel_rfl) (by kernel_rfl) rfl rfl (by kernel_rfl) rfl (by kernel_rfl) ?_
  conv => whnf
  refine ⟨AWp.loop (ι := { k : Nat // k ≤ xs.length }) (fun k => ⟨[(10, .p (I k.1)), (9, .p (I xs.length)), (8, .p (.seq 4 (xs.map pc))), (5, .own 0), (1, .p (.fn g caps))], [], [(0, (29, 1, (xs.take k.1).map fun x => [I (f x)]))], 1, [], [], []⟩) (fun k => xs.length - k.1) ⟨0, by simp⟩ ?_ ?_⟩
  · refine SLe.row 5 29 1 ?_
    conv => whnf
    · refine SLe.of [] [(0, 0)] rfl rfl ?_
      conv => whnf
      repeat' (first
      | exact True.intro
      | (refine SAnd.mk (PLe.of_eq (by simp only [wrapK]; rw [wrap_id (by first | omega | (simp only; done) | (simp only; omega) | simp) (by first | omega | (simp only; done) | (simp only; omega) | simp)]; simp)) ?_; conv => whnf)
      | (refine SAnd.mk (PLe.refl _) ?_; conv => whnf)
      | (refine SAnd.mk (PLeL.refl _) ?_; conv => whnf)
      | (refine SAnd.mk (PLe.of_eq (by simp)) ?_; conv => whnf)
      | (refine SAnd.mk rfl ?_; conv => whnf)
      | (refine SAnd.mk ⟨rfl, rfl⟩ ?_; conv => whnf)
      | (refine SAnd.mk ⟨rfl, rfl, rfl⟩ ?_; conv => whnf))
  · rintro ⟨k, hk⟩
    conv => whnf
    repeat' (first
      | (refine codeK_sound good (mu := []) ?_; conv => whnf)
      | ((first | rw [wl0] | rw [wl1] | rw [wl2] | rw [wl3] | rw [wl4] | rw [wl5]); conv => whnf)
      | (refine SBool.mk (fun _ => ?_) (fun h => absurd (of_decide_eq_true rfl) h); conv => whnf)
      | (refine SBool.mk (fun h => absurd h (of_decide_eq_false rfl)) (fun _ => ?_); conv => whnf)
      | (refine SBool.mk (fun h => ?_) (fun h => ?_) <;> conv => whnf)
      | (refine SEx.mk _ (by first | exact rfl | exact ⟨of_decide_eq_true rfl, rfl⟩) ?_; conv => whnf)
      | (refine SAll.mk (fun _ => ?_); conv => whnf)
      | (refine SAnd.mk ⟨by intro c hc; simp at hc; first | (subst hc; rfl) | ((repeat' (rcases hc with rfl | hc)) <;> first | rfl | (subst hc; rfl)), by (simp; first | done | omega), by (simp; first | done | omega)⟩ ?_; conv => whnf)
      | (refine SAnd.mk (by first | exact rfl | kernel_rfl | omega | decide) ?_; conv => whnf)
      | fail)
    · have hkl : k < xs.length := by simpa using h
      refine SEx.mk (pc xs[k]) (by simp [hkl]) ?_
      conv => whnf
      refine SEx.mk _ (hm xs[k] (List.getElem_mem hkl)) ?_
      conv => whnf
      repeat' (first
        | (refine codeK_sound good (mu := []) ?_; conv => whnf)
        | ((first | rw [wl0] | rw [wl1] | rw [wl2] | rw [wl3] | rw [wl4] | rw [wl5]); conv => whnf)
        | (refine SBool.mk (fun _ => ?_) (fun h => absurd (of_decide_eq_true rfl) h); conv => whnf)
        | (refine SBool.mk (fun h => absurd h (of_decide_eq_false rfl)) (fun _ => ?_); conv => whnf)
        | (refine SBool.mk (fun h => ?_) (fun h => ?_) <;> conv => whnf)
        | (refine SEx.mk _ (by first | exact rfl | exact ⟨of_decide_eq_true rfl, rfl⟩) ?_; conv => whnf)
        | (refine SAll.mk (fun _ => ?_); conv => whnf)
        | (refine SAnd.mk ⟨by intro c hc; simp at hc; first | (subst hc; rfl) | ((repeat' (rcases hc with rfl | hc)) <;> first | rfl | (subst hc; rfl)), by (simp; first | done | omega), by (simp; first | done | omega)⟩ ?_; conv => whnf)
        | (refine SAnd.mk (by first | exact rfl | kernel_rfl | omega | decide) ?_; conv => whnf)
        | fail)
      refine ⟨⟨k + 1, by omega⟩, by simp only; omega, ?_⟩
      · refine SLe.of [] [(0, 2)] rfl rfl ?_
        conv => whnf
        repeat' (first
        | exact True.intro
        | (refine SAnd.mk ((take_map_succ hkl _).symm) ?_; conv => whnf)
        | (refine SAnd.mk (PLe.of_eq (by simp only [wrapK]; rw [wrap_id (by first | omega | (simp only; done) | (simp only; omega) | simp) (by first | omega | (simp only; done) | (simp only; omega) | simp)]; simp)) ?_; conv => whnf)
        | (refine SAnd.mk (PLe.refl _) ?_; conv => whnf)
        | (refine SAnd.mk (PLeL.refl _) ?_; conv => whnf)
        | (refine SAnd.mk (PLe.of_eq (by simp)) ?_; conv => whnf)
        | (refine SAnd.mk rfl ?_; conv => whnf)
        | (refine SAnd.mk ⟨rfl, rfl⟩ ?_; conv => whnf)
        | (refine SAnd.mk ⟨rfl, rfl, rfl⟩ ?_; conv => whnf))
    · have : k = xs.length := by simp at h; omega
      subst this
      exact ⟨PLe.of_eq (by simp)⟩
theorem mapped153_pure (xs : List Pn) (hl : xs.length ≤ 1000000) (hm : ∀ x ∈ xs, x.Is) :
    APure C 153 [.seq 4 (xs.map pc), .fn 150 []] (.seq 8 (xs.map p4)) := by
  refine APure.of_body good [] (fn := Tryz.f153) (by kernel_rfl) (by kernel_rfl) rfl rfl (by kernel_rfl) rfl (by kernel_rfl) ?_
  conv => whnf
  refine ⟨AWp.loop (ι := { k : Nat // k ≤ xs.length }) (fun k => ⟨[(10, .p (I k.1)), (9, .p (I xs.length)), (8, .p (.seq 4 (xs.map pc))), (5, .own 0), (1, .p (.fn 150 []))], [], [(0, (213, 8, (xs.take k.1).map p4))], 1, [], [], []⟩) (fun k => xs.length - k.1) ⟨0, by simp⟩ ?_ ?_⟩
  · refine SLe.row 5 213 8 ?_
    conv => whnf
    · refine SLe.of [] [(0, 0)] rfl rfl ?_
      conv => whnf
      repeat' (first
      | exact True.intro
      | (refine SAnd.mk (PLe.of_eq (by simp only [wrapK]; rw [wrap_id (by first | omega | (simp only; done) | (simp only; omega) | simp) (by first | omega | (simp only; done) | (simp only; omega) | simp)]; simp)) ?_; conv => whnf)
      | (refine SAnd.mk (PLe.refl _) ?_; conv => whnf)
      | (refine SAnd.mk (PLeL.refl _) ?_; conv => whnf)
      | (refine SAnd.mk (PLe.of_eq (by simp)) ?_; conv => whnf)
      | (refine SAnd.mk rfl ?_; conv => whnf)
      | (refine SAnd.mk ⟨rfl, rfl⟩ ?_; conv => whnf)
      | (refine SAnd.mk ⟨rfl, rfl, rfl⟩ ?_; conv => whnf))
  · rintro ⟨k, hk⟩
    conv => whnf
    repeat' (first
      | (refine codeK_sound good (mu := []) ?_; conv => whnf)
      | ((first | rw [wl0] | rw [wl1] | rw [wl2] | rw [wl3] | rw [wl4] | rw [wl5]); conv => whnf)
      | (refine SBool.mk (fun _ => ?_) (fun h => absurd (of_decide_eq_true rfl) h); conv => whnf)
      | (refine SBool.mk (fun h => absurd h (of_decide_eq_false rfl)) (fun _ => ?_); conv => whnf)
      | (refine SBool.mk (fun h => ?_) (fun h => ?_) <;> conv => whnf)
      | (refine SEx.mk _ (by first | exact rfl | exact ⟨of_decide_eq_true rfl, rfl⟩) ?_; conv => whnf)
      | (refine SAll.mk (fun _ => ?_); conv => whnf)
      | (refine SAnd.mk ⟨by intro c hc; simp at hc; first | (subst hc; rfl) | ((repeat' (rcases hc with rfl | hc)) <;> first | rfl | (subst hc; rfl)), by (simp; first | done | omega), by (simp; first | done | omega)⟩ ?_; conv => whnf)
      | (refine SAnd.mk (by first | exact rfl | kernel_rfl | omega | decide) ?_; conv => whnf)
      | fail)
    · have hkl : k < xs.length := by simpa using h
      refine SEx.mk (pc xs[k]) (by simp [hkl]) ?_
      conv => whnf
      refine SEx.mk _ (integers_pure xs[k] (hm xs[k] (List.getElem_mem hkl))) ?_
      conv => whnf
      repeat' (first
        | (refine codeK_sound good (mu := []) ?_; conv => whnf)
        | ((first | rw [wl0] | rw [wl1] | rw [wl2] | rw [wl3] | rw [wl4] | rw [wl5]); conv => whnf)
        | (refine SBool.mk (fun _ => ?_) (fun h => absurd (of_decide_eq_true rfl) h); conv => whnf)
        | (refine SBool.mk (fun h => absurd h (of_decide_eq_false rfl)) (fun _ => ?_); conv => whnf)
        | (refine SBool.mk (fun h => ?_) (fun h => ?_) <;> conv => whnf)
        | (refine SEx.mk _ (by first | exact rfl | exact ⟨of_decide_eq_true rfl, rfl⟩) ?_; conv => whnf)
        | (refine SAll.mk (fun _ => ?_); conv => whnf)
        | (refine SAnd.mk ⟨by intro c hc; simp at hc; first | (subst hc; rfl) | ((repeat' (rcases hc with rfl | hc)) <;> first | rfl | (subst hc; rfl)), by (simp; first | done | omega), by (simp; first | done | omega)⟩ ?_; conv => whnf)
        | (refine SAnd.mk (by first | exact rfl | kernel_rfl | omega | decide) ?_; conv => whnf)
        | fail)
      refine ⟨⟨k + 1, by omega⟩, by simp only; omega, ?_⟩
      · refine SLe.of [] [(0, 2)] rfl rfl ?_
        conv => whnf
        repeat' (first
        | exact True.intro
        | (refine SAnd.mk ((take_map_succ hkl _).symm) ?_; conv => whnf)
        | (refine SAnd.mk (PLe.of_eq (by simp only [wrapK]; rw [wrap_id (by first | omega | (simp only; done) | (simp only; omega) | simp) (by first | omega | (simp only; done) | (simp only; omega) | simp)]; simp)) ?_; conv => whnf)
        | (refine SAnd.mk (PLe.refl _) ?_; conv => whnf)
        | (refine SAnd.mk (PLeL.refl _) ?_; conv => whnf)
        | (refine SAnd.mk (PLe.of_eq (by simp)) ?_; conv => whnf)
        | (refine SAnd.mk rfl ?_; conv => whnf)
        | (refine SAnd.mk ⟨rfl, rfl⟩ ?_; conv => whnf)
        | (refine SAnd.mk ⟨rfl, rfl, rfl⟩ ?_; conv => whnf))
    · have : k = xs.length := by simp at h; omega
      subst this
      exact ⟨PLe.of_eq (by simp)⟩
end Go.Proofs.Ab.Tone
end
