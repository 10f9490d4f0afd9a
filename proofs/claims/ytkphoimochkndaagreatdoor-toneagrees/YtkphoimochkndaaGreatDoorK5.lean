/- The machine, the contracts and the walks on which ToneDepths rests: a part of the proof. -/
import Derived.Test.YtkphoimochkndaaGreatDoorK4
import Derived.ChangeKeysEq
import Derived.Laws.RangeString
import Derived.Laws.RangeAny
section
/- The signal of four complex integers. -/
set_option maxRecDepth 100000
set_option linter.unusedVariables false
set_option linter.unusedSimpArgs false
namespace Go.Proofs.Ab.Tone
open Go Go.RowKit Go.Proofs.Ab
structure Q4 where
  a0 : G
  a1 : G
  a2 : G
  a3 : G
abbrev qc (q : Q4) : List PV := [I q.a0.re, I q.a0.im, I q.a1.re, I q.a1.im, I q.a2.re, I q.a2.im, I q.a3.re, I q.a3.im]
structure Q4.Fit (q : Q4) : Prop where
  f0 : q.a0.Fit 1000000
  f1 : q.a1.Fit 1000000
  f2 : q.a2.Fit 1000000
  f3 : q.a3.Fit 1000000
def dot1 (q : Q4) (s0 : Int) : G := (⟨0, 0⟩ : G).add (q.a0.mul ⟨s0, 0⟩)
def dot2 (q : Q4) (s0 s1 : Int) : G := (dot1 q s0).add (q.a1.mul ⟨s1, 0⟩)
def dot3 (q : Q4) (s0 s1 s2 : Int) : G := (dot2 q s0 s1).add (q.a2.mul ⟨s2, 0⟩)
def dot4 (q : Q4) (s0 s1 s2 s3 : Int) : G := (dot3 q s0 s1 s2).add (q.a3.mul ⟨s3, 0⟩)
theorem r184_0 : APure C 184 [I 0] (I 1) := by
  refine APure.of_body good [] (fn := Tryz.f184) (by kernel_rfl) (by kernel_rfl) rfl rfl (by kernel_rfl) rfl (by kernel_rfl) ?_
  conv => whnf
  repeat' (first
    | (refine codeK_sound good (mu := []) ?_; conv => whnf)
    | ((first | rw [wl0] | rw [wl1] | rw [wl2] | rw [wl3] | rw [wl4] | rw [wl5]); conv => whnf)
    | (refine SBool.mk (fun _ => ?_) (fun h => absurd (of_decide_eq_true rfl) h); conv => whnf)
    | (refine SBool.mk (fun h => absurd h (of_decide_eq_false rfl)) (fun _ => ?_); conv => whnf)
    | (refine SBool.mk (fun h => ?_) (fun h => ?_) <;> conv => whnf)
    | (refine SEx.mk _ (by first | exact rfl | exact ⟨of_decide_eq_true rfl, rfl⟩) ?_; conv => whnf)
    | (refine SAll.mk (fun _ => ?_); conv => whnf)
    | (refine SAnd.mk ⟨by intro c hc; simp at hc; first | (subst hc; rfl) | ((repeat' (rcases hc with rfl | hc)) <;> first | rfl | (subst hc; rfl)), by (simp; first | done | omega), by (simp; first | done | omega)⟩ ?_; conv => whnf)
    | (refine SAnd.mk (by first | exact rfl | kernel_rfl | omega | decide) ?_; conv => whnf)
    | fail)
  all_goals exact ⟨PLe.of_eq (by kernel_rfl)⟩
theorem r184_1 : APure C 184 [I 1] (I 1) := by
  refine APure.of_body good [] (fn := Tryz.f184) (by kernel_rfl) (by kernel_rfl) rfl rfl (by kernel_rfl) rfl (by kernel_rfl) ?_
  conv => whnf
  repeat' (first
    | (refine codeK_sound good (mu := []) ?_; conv => whnf)
    | ((first | rw [wl0] | rw [wl1] | rw [wl2] | rw [wl3] | rw [wl4] | rw [wl5]); conv => whnf)
    | (refine SBool.mk (fun _ => ?_) (fun h => absurd (of_decide_eq_true rfl) h); conv => whnf)
    | (refine SBool.mk (fun h => absurd h (of_decide_eq_false rfl)) (fun _ => ?_); conv => whnf)
    | (refine SBool.mk (fun h => ?_) (fun h => ?_) <;> conv => whnf)
    | (refine SEx.mk _ (by first | exact rfl | exact ⟨of_decide_eq_true rfl, rfl⟩) ?_; conv => whnf)
    | (refine SAll.mk (fun _ => ?_); conv => whnf)
    | (refine SAnd.mk ⟨by intro c hc; simp at hc; first | (subst hc; rfl) | ((repeat' (rcases hc with rfl | hc)) <;> first | rfl | (subst hc; rfl)), by (simp; first | done | omega), by (simp; first | done | omega)⟩ ?_; conv => whnf)
    | (refine SAnd.mk (by first | exact rfl | kernel_rfl | omega | decide) ?_; conv => whnf)
    | fail)
  all_goals exact ⟨PLe.of_eq (by kernel_rfl)⟩
theorem r184_2 : APure C 184 [I 2] (I 1) := by
  refine APure.of_body good [] (fn := Tryz.f184) (by kernel_rfl) (by kernel_rfl) rfl rfl (by kernel_rfl) rfl (by kernel_rfl) ?_
  conv => whnf
  repeat' (first
    | (refine codeK_sound good (mu := []) ?_; conv => whnf)
    | ((first | rw [wl0] | rw [wl1] | rw [wl2] | rw [wl3] | rw [wl4] | rw [wl5]); conv => whnf)
    | (refine SBool.mk (fun _ => ?_) (fun h => absurd (of_decide_eq_true rfl) h); conv => whnf)
    | (refine SBool.mk (fun h => absurd h (of_decide_eq_false rfl)) (fun _ => ?_); conv => whnf)
    | (refine SBool.mk (fun h => ?_) (fun h => ?_) <;> conv => whnf)
    | (refine SEx.mk _ (by first | exact rfl | exact ⟨of_decide_eq_true rfl, rfl⟩) ?_; conv => whnf)
    | (refine SAll.mk (fun _ => ?_); conv => whnf)
    | (refine SAnd.mk ⟨by intro c hc; simp at hc; first | (subst hc; rfl) | ((repeat' (rcases hc with rfl | hc)) <;> first | rfl | (subst hc; rfl)), by (simp; first | done | omega), by (simp; first | done | omega)⟩ ?_; conv => whnf)
    | (refine SAnd.mk (by first | exact rfl | kernel_rfl | omega | decide) ?_; conv => whnf)
    | fail)
  all_goals exact ⟨PLe.of_eq (by kernel_rfl)⟩
theorem r184_3 : APure C 184 [I 3] (I 1) := by
  refine APure.of_body good [] (fn := Tryz.f184) (by kernel_rfl) (by kernel_rfl) rfl rfl (by kernel_rfl) rfl (by kernel_rfl) ?_
  conv => whnf
  repeat' (first
    | (refine codeK_sound good (mu := []) ?_; conv => whnf)
    | ((first | rw [wl0] | rw [wl1] | rw [wl2] | rw [wl3] | rw [wl4] | rw [wl5]); conv => whnf)
    | (refine SBool.mk (fun _ => ?_) (fun h => absurd (of_decide_eq_true rfl) h); conv => whnf)
    | (refine SBool.mk (fun h => absurd h (of_decide_eq_false rfl)) (fun _ => ?_); conv => whnf)
    | (refine SBool.mk (fun h => ?_) (fun h => ?_) <;> conv => whnf)
    | (refine SEx.mk _ (by first | exact rfl | exact ⟨of_decide_eq_true rfl, rfl⟩) ?_; conv => whnf)
    | (refine SAll.mk (fun _ => ?_); conv => whnf)
    | (refine SAnd.mk ⟨by intro c hc; simp at hc; first | (subst hc; rfl) | ((repeat' (rcases hc with rfl | hc)) <;> first | rfl | (subst hc; rfl)), by (simp; first | done | omega), by (simp; first | done | omega)⟩ ?_; conv => whnf)
    | (refine SAnd.mk (by first | exact rfl | kernel_rfl | omega | decide) ?_; conv => whnf)
    | fail)
  all_goals exact ⟨PLe.of_eq (by kernel_rfl)⟩
theorem r185_0 : APure C 185 [I 0, .ref [I 1, I 1, I (-1), I (-1)]] (I 1) := by
  refine APure.of_body good [] (fn := Tryz.f185) (by kernel_rfl) (by kernel_rfl) rfl rfl (by kernel_rfl) rfl (by kernel_rfl) ?_
  conv => whnf
  repeat' (first
    | (refine codeK_sound good (mu := []) ?_; conv => whnf)
    | ((first | rw [wl0] | rw [wl1] | rw [wl2] | rw [wl3] | rw [wl4] | rw [wl5]); conv => whnf)
    | (refine SBool.mk (fun _ => ?_) (fun h => absurd (of_decide_eq_true rfl) h); conv => whnf)
    | (refine SBool.mk (fun h => absurd h (of_decide_eq_false rfl)) (fun _ => ?_); conv => whnf)
    | (refine SBool.mk (fun h => ?_) (fun h => ?_) <;> conv => whnf)
    | (refine SEx.mk _ (by first | exact rfl | exact ⟨of_decide_eq_true rfl, rfl⟩) ?_; conv => whnf)
    | (refine SAll.mk (fun _ => ?_); conv => whnf)
    | (refine SAnd.mk ⟨by intro c hc; simp at hc; first | (subst hc; rfl) | ((repeat' (rcases hc with rfl | hc)) <;> first | rfl | (subst hc; rfl)), by (simp; first | done | omega), by (simp; first | done | omega)⟩ ?_; conv => whnf)
    | (refine SAnd.mk (by first | exact rfl | kernel_rfl | omega | decide) ?_; conv => whnf)
    | fail)
  all_goals exact ⟨PLe.of_eq (by kernel_rfl)⟩
theorem r185_1 : APure C 185 [I 1, .ref [I 1, I 1, I (-1), I (-1)]] (I 1) := by
  refine APure.of_body good [] (fn := Tryz.f185) (by kernel_rfl) (by kernel_rfl) rfl rfl (by kernel_rfl) rfl (by kernel_rfl) ?_
  conv => whnf
  repeat' (first
    | (refine codeK_sound good (mu := []) ?_; conv => whnf)
    | ((first | rw [wl0] | rw [wl1] | rw [wl2] | rw [wl3] | rw [wl4] | rw [wl5]); conv => whnf)
    | (refine SBool.mk (fun _ => ?_) (fun h => absurd (of_decide_eq_true rfl) h); conv => whnf)
    | (refine SBool.mk (fun h => absurd h (of_decide_eq_false rfl)) (fun _ => ?_); conv => whnf)
    | (refine SBool.mk (fun h => ?_) (fun h => ?_) <;> conv => whnf)
    | (refine SEx.mk _ (by first | exact rfl | exact ⟨of_decide_eq_true rfl, rfl⟩) ?_; conv => whnf)
    | (refine SAll.mk (fun _ => ?_); conv => whnf)
    | (refine SAnd.mk ⟨by intro c hc; simp at hc; first | (subst hc; rfl) | ((repeat' (rcases hc with rfl | hc)) <;> first | rfl | (subst hc; rfl)), by (simp; first | done | omega), by (simp; first | done | omega)⟩ ?_; conv => whnf)
    | (refine SAnd.mk (by first | exact rfl | kernel_rfl | omega | decide) ?_; conv => whnf)
    | fail)
  all_goals exact ⟨PLe.of_eq (by kernel_rfl)⟩
theorem r185_2 : APure C 185 [I 2, .ref [I 1, I 1, I (-1), I (-1)]] (I (-1)) := by
  refine APure.of_body good [] (fn := Tryz.f185) (by kernel_rfl) (by kernel_rfl) rfl rfl (by kernel_rfl) rfl (by kernel_rfl) ?_
  conv => whnf
  repeat' (first
    | (refine codeK_sound good (mu := []) ?_; conv => whnf)
    | ((first | rw [wl0] | rw [wl1] | rw [wl2] | rw [wl3] | rw [wl4] | rw [wl5]); conv => whnf)
    | (refine SBool.mk (fun _ => ?_) (fun h => absurd (of_decide_eq_true rfl) h); conv => whnf)
    | (refine SBool.mk (fun h => absurd h (of_decide_eq_false rfl)) (fun _ => ?_); conv => whnf)
    | (refine SBool.mk (fun h => ?_) (fun h => ?_) <;> conv => whnf)
    | (refine SEx.mk _ (by first | exact rfl | exact ⟨of_decide_eq_true rfl, rfl⟩) ?_; conv => whnf)
    | (refine SAll.mk (fun _ => ?_); conv => whnf)
    | (refine SAnd.mk ⟨by intro c hc; simp at hc; first | (subst hc; rfl) | ((repeat' (rcases hc with rfl | hc)) <;> first | rfl | (subst hc; rfl)), by (simp; first | done | omega), by (simp; first | done | omega)⟩ ?_; conv => whnf)
    | (refine SAnd.mk (by first | exact rfl | kernel_rfl | omega | decide) ?_; conv => whnf)
    | fail)
  all_goals exact ⟨PLe.of_eq (by kernel_rfl)⟩
theorem r185_3 : APure C 185 [I 3, .ref [I 1, I 1, I (-1), I (-1)]] (I (-1)) := by
  refine APure.of_body good [] (fn := Tryz.f185) (by kernel_rfl) (by kernel_rfl) rfl rfl (by kernel_rfl) rfl (by kernel_rfl) ?_
  conv => whnf
  repeat' (first
    | (refine codeK_sound good (mu := []) ?_; conv => whnf)
    | ((first | rw [wl0] | rw [wl1] | rw [wl2] | rw [wl3] | rw [wl4] | rw [wl5]); conv => whnf)
    | (refine SBool.mk (fun _ => ?_) (fun h => absurd (of_decide_eq_true rfl) h); conv => whnf)
    | (refine SBool.mk (fun h => absurd h (of_decide_eq_false rfl)) (fun _ => ?_); conv => whnf)
    | (refine SBool.mk (fun h => ?_) (fun h => ?_) <;> conv => whnf)
    | (refine SEx.mk _ (by first | exact rfl | exact ⟨of_decide_eq_true rfl, rfl⟩) ?_; conv => whnf)
    | (refine SAll.mk (fun _ => ?_); conv => whnf)
    | (refine SAnd.mk ⟨by intro c hc; simp at hc; first | (subst hc; rfl) | ((repeat' (rcases hc with rfl | hc)) <;> first | rfl | (subst hc; rfl)), by (simp; first | done | omega), by (simp; first | done | omega)⟩ ?_; conv => whnf)
    | (refine SAnd.mk (by first | exact rfl | kernel_rfl | omega | decide) ?_; conv => whnf)
    | fail)
  all_goals exact ⟨PLe.of_eq (by kernel_rfl)⟩
theorem r186_0 : APure C 186 [I 0, .ref [I 1, I (-1), I 1, I (-1)]] (I 1) := by
  refine APure.of_body good [] (fn := Tryz.f186) (by kernel_rfl) (by kernel_rfl) rfl rfl (by kernel_rfl) rfl (by kernel_rfl) ?_
  conv => whnf
  repeat' (first
    | (refine codeK_sound good (mu := []) ?_; conv => whnf)
    | ((first | rw [wl0] | rw [wl1] | rw [wl2] | rw [wl3] | rw [wl4] | rw [wl5]); conv => whnf)
    | (refine SBool.mk (fun _ => ?_) (fun h => absurd (of_decide_eq_true rfl) h); conv => whnf)
    | (refine SBool.mk (fun h => absurd h (of_decide_eq_false rfl)) (fun _ => ?_); conv => whnf)
    | (refine SBool.mk (fun h => ?_) (fun h => ?_) <;> conv => whnf)
    | (refine SEx.mk _ (by first | exact rfl | exact ⟨of_decide_eq_true rfl, rfl⟩) ?_; conv => whnf)
    | (refine SAll.mk (fun _ => ?_); conv => whnf)
    | (refine SAnd.mk ⟨by intro c hc; simp at hc; first | (subst hc; rfl) | ((repeat' (rcases hc with rfl | hc)) <;> first | rfl | (subst hc; rfl)), by (simp; first | done | omega), by (simp; first | done | omega)⟩ ?_; conv => whnf)
    | (refine SAnd.mk (by first | exact rfl | kernel_rfl | omega | decide) ?_; conv => whnf)
    | fail)
  all_goals exact ⟨PLe.of_eq (by kernel_rfl)⟩
theorem r186_1 : APure C 186 [I 1, .ref [I 1, I (-1), I 1, I (-1)]] (I (-1)) := by
  refine APure.of_body good [] (fn := Tryz.f186) (by kernel_rfl) (by kernel_rfl) rfl rfl (by kernel_rfl) rfl (by kernel_rfl) ?_
  conv => whnf
  repeat' (first
    | (refine codeK_sound good (mu := []) ?_; conv => whnf)
    | ((first | rw [wl0] | rw [wl1] | rw [wl2] | rw [wl3] | rw [wl4] | rw [wl5]); conv => whnf)
    | (refine SBool.mk (fun _ => ?_) (fun h => absurd (of_decide_eq_true rfl) h); conv => whnf)
    | (refine SBool.mk (fun h => absurd h (of_decide_eq_false rfl)) (fun _ => ?_); conv => whnf)
    | (refine SBool.mk (fun h => ?_) (fun h => ?_) <;> conv => whnf)
    | (refine SEx.mk _ (by first | exact rfl | exact ⟨of_decide_eq_true rfl, rfl⟩) ?_; conv => whnf)
    | (refine SAll.mk (fun _ => ?_); conv => whnf)
    | (refine SAnd.mk ⟨by intro c hc; simp at hc; first | (subst hc; rfl) | ((repeat' (rcases hc with rfl | hc)) <;> first | rfl | (subst hc; rfl)), by (simp; first | done | omega), by (simp; first | done | omega)⟩ ?_; conv => whnf)
    | (refine SAnd.mk (by first | exact rfl | kernel_rfl | omega | decide) ?_; conv => whnf)
    | fail)
  all_goals exact ⟨PLe.of_eq (by kernel_rfl)⟩
theorem r186_2 : APure C 186 [I 2, .ref [I 1, I (-1), I 1, I (-1)]] (I 1) := by
  refine APure.of_body good [] (fn := Tryz.f186) (by kernel_rfl) (by kernel_rfl) rfl rfl (by kernel_rfl) rfl (by kernel_rfl) ?_
  conv => whnf
  repeat' (first
    | (refine codeK_sound good (mu := []) ?_; conv => whnf)
    | ((first | rw [wl0] | rw [wl1] | rw [wl2] | rw [wl3] | rw [wl4] | rw [wl5]); conv => whnf)
    | (refine SBool.mk (fun _ => ?_) (fun h => absurd (of_decide_eq_true rfl) h); conv => whnf)
    | (refine SBool.mk (fun h => absurd h (of_decide_eq_false rfl)) (fun _ => ?_); conv => whnf)
    | (refine SBool.mk (fun h => ?_) (fun h => ?_) <;> conv => whnf)
    | (refine SEx.mk _ (by first | exact rfl | exact ⟨of_decide_eq_true rfl, rfl⟩) ?_; conv => whnf)
    | (refine SAll.mk (fun _ => ?_); conv => whnf)
    | (refine SAnd.mk ⟨by intro c hc; simp at hc; first | (subst hc; rfl) | ((repeat' (rcases hc with rfl | hc)) <;> first | rfl | (subst hc; rfl)), by (simp; first | done | omega), by (simp; first | done | omega)⟩ ?_; conv => whnf)
    | (refine SAnd.mk (by first | exact rfl | kernel_rfl | omega | decide) ?_; conv => whnf)
    | fail)
  all_goals exact ⟨PLe.of_eq (by kernel_rfl)⟩
theorem r186_3 : APure C 186 [I 3, .ref [I 1, I (-1), I 1, I (-1)]] (I (-1)) := by
  refine APure.of_body good [] (fn := Tryz.f186) (by kernel_rfl) (by kernel_rfl) rfl rfl (by kernel_rfl) rfl (by kernel_rfl) ?_
  conv => whnf
  repeat' (first
    | (refine codeK_sound good (mu := []) ?_; conv => whnf)
    | ((first | rw [wl0] | rw [wl1] | rw [wl2] | rw [wl3] | rw [wl4] | rw [wl5]); conv => whnf)
    | (refine SBool.mk (fun _ => ?_) (fun h => absurd (of_decide_eq_true rfl) h); conv => whnf)
    | (refine SBool.mk (fun h => absurd h (of_decide_eq_false rfl)) (fun _ => ?_); conv => whnf)
    | (refine SBool.mk (fun h => ?_) (fun h => ?_) <;> conv => whnf)
    | (refine SEx.mk _ (by first | exact rfl | exact ⟨of_decide_eq_true rfl, rfl⟩) ?_; conv => whnf)
    | (refine SAll.mk (fun _ => ?_); conv => whnf)
    | (refine SAnd.mk ⟨by intro c hc; simp at hc; first | (subst hc; rfl) | ((repeat' (rcases hc with rfl | hc)) <;> first | rfl | (subst hc; rfl)), by (simp; first | done | omega), by (simp; first | done | omega)⟩ ?_; conv => whnf)
    | (refine SAnd.mk (by first | exact rfl | kernel_rfl | omega | decide) ?_; conv => whnf)
    | fail)
  all_goals exact ⟨PLe.of_eq (by kernel_rfl)⟩
theorem r187_0 : APure C 187 [I 0, .ref [I 1, I 1, I (-1), I (-1)], .ref [I 1, I (-1), I 1, I (-1)]] (I 1) := by
  refine APure.of_body good [] (fn := Tryz.f187) (by kernel_rfl) (by kernel_rfl) rfl rfl (by kernel_rfl) rfl (by kernel_rfl) ?_
  conv => whnf
  repeat' (first
    | (refine codeK_sound good (mu := []) ?_; conv => whnf)
    | ((first | rw [wl0] | rw [wl1] | rw [wl2] | rw [wl3] | rw [wl4] | rw [wl5]); conv => whnf)
    | (refine SBool.mk (fun _ => ?_) (fun h => absurd (of_decide_eq_true rfl) h); conv => whnf)
    | (refine SBool.mk (fun h => absurd h (of_decide_eq_false rfl)) (fun _ => ?_); conv => whnf)
    | (refine SBool.mk (fun h => ?_) (fun h => ?_) <;> conv => whnf)
    | (refine SEx.mk _ (by first | exact rfl | exact ⟨of_decide_eq_true rfl, rfl⟩) ?_; conv => whnf)
    | (refine SAll.mk (fun _ => ?_); conv => whnf)
    | (refine SAnd.mk ⟨by intro c hc; simp at hc; first | (subst hc; rfl) | ((repeat' (rcases hc with rfl | hc)) <;> first | rfl | (subst hc; rfl)), by (simp; first | done | omega), by (simp; first | done | omega)⟩ ?_; conv => whnf)
    | (refine SAnd.mk (by first | exact rfl | kernel_rfl | omega | decide) ?_; conv => whnf)
    | fail)
  all_goals exact ⟨PLe.of_eq (by kernel_rfl)⟩
theorem r187_1 : APure C 187 [I 1, .ref [I 1, I 1, I (-1), I (-1)], .ref [I 1, I (-1), I 1, I (-1)]] (I (-1)) := by
  refine APure.of_body good [] (fn := Tryz.f187) (by kernel_rfl) (by kernel_rfl) rfl rfl (by kernel_rfl) rfl (by kernel_rfl) ?_
  conv => whnf
  repeat' (first
    | (refine codeK_sound good (mu := []) ?_; conv => whnf)
    | ((first | rw [wl0] | rw [wl1] | rw [wl2] | rw [wl3] | rw [wl4] | rw [wl5]); conv => whnf)
    | (refine SBool.mk (fun _ => ?_) (fun h => absurd (of_decide_eq_true rfl) h); conv => whnf)
    | (refine SBool.mk (fun h => absurd h (of_decide_eq_false rfl)) (fun _ => ?_); conv => whnf)
    | (refine SBool.mk (fun h => ?_) (fun h => ?_) <;> conv => whnf)
    | (refine SEx.mk _ (by first | exact rfl | exact ⟨of_decide_eq_true rfl, rfl⟩) ?_; conv => whnf)
    | (refine SAll.mk (fun _ => ?_); conv => whnf)
    | (refine SAnd.mk ⟨by intro c hc; simp at hc; first | (subst hc; rfl) | ((repeat' (rcases hc with rfl | hc)) <;> first | rfl | (subst hc; rfl)), by (simp; first | done | omega), by (simp; first | done | omega)⟩ ?_; conv => whnf)
    | (refine SAnd.mk (by first | exact rfl | kernel_rfl | omega | decide) ?_; conv => whnf)
    | fail)
  all_goals exact ⟨PLe.of_eq (by kernel_rfl)⟩
theorem r187_2 : APure C 187 [I 2, .ref [I 1, I 1, I (-1), I (-1)], .ref [I 1, I (-1), I 1, I (-1)]] (I (-1)) := by
  refine APure.of_body good [] (fn := Tryz.f187) (by kernel_rfl) (by kernel_rfl) rfl rfl (by kernel_rfl) rfl (by kernel_rfl) ?_
  conv => whnf
  repeat' (first
    | (refine codeK_sound good (mu := []) ?_; conv => whnf)
    | ((first | rw [wl0] | rw [wl1] | rw [wl2] | rw [wl3] | rw [wl4] | rw [wl5]); conv => whnf)
    | (refine SBool.mk (fun _ => ?_) (fun h => absurd (of_decide_eq_true rfl) h); conv => whnf)
    | (refine SBool.mk (fun h => absurd h (of_decide_eq_false rfl)) (fun _ => ?_); conv => whnf)
    | (refine SBool.mk (fun h => ?_) (fun h => ?_) <;> conv => whnf)
    | (refine SEx.mk _ (by first | exact rfl | exact ⟨of_decide_eq_true rfl, rfl⟩) ?_; conv => whnf)
    | (refine SAll.mk (fun _ => ?_); conv => whnf)
    | (refine SAnd.mk ⟨by intro c hc; simp at hc; first | (subst hc; rfl) | ((repeat' (rcases hc with rfl | hc)) <;> first | rfl | (subst hc; rfl)), by (simp; first | done | omega), by (simp; first | done | omega)⟩ ?_; conv => whnf)
    | (refine SAnd.mk (by first | exact rfl | kernel_rfl | omega | decide) ?_; conv => whnf)
    | fail)
  all_goals exact ⟨PLe.of_eq (by kernel_rfl)⟩
theorem r187_3 : APure C 187 [I 3, .ref [I 1, I 1, I (-1), I (-1)], .ref [I 1, I (-1), I 1, I (-1)]] (I 1) := by
  refine APure.of_body good [] (fn := Tryz.f187) (by kernel_rfl) (by kernel_rfl) rfl rfl (by kernel_rfl) rfl (by kernel_rfl) ?_
  conv => whnf
  repeat' (first
    | (refine codeK_sound good (mu := []) ?_; conv => whnf)
    | ((first | rw [wl0] | rw [wl1] | rw [wl2] | rw [wl3] | rw [wl4] | rw [wl5]); conv => whnf)
    | (refine SBool.mk (fun _ => ?_) (fun h => absurd (of_decide_eq_true rfl) h); conv => whnf)
    | (refine SBool.mk (fun h => absurd h (of_decide_eq_false rfl)) (fun _ => ?_); conv => whnf)
    | (refine SBool.mk (fun h => ?_) (fun h => ?_) <;> conv => whnf)
    | (refine SEx.mk _ (by first | exact rfl | exact ⟨of_decide_eq_true rfl, rfl⟩) ?_; conv => whnf)
    | (refine SAll.mk (fun _ => ?_); conv => whnf)
    | (refine SAnd.mk ⟨by intro c hc; simp at hc; first | (subst hc; rfl) | ((repeat' (rcases hc with rfl | hc)) <;> first | rfl | (subst hc; rfl)), by (simp; first | done | omega), by (simp; first | done | omega)⟩ ?_; conv => whnf)
    | (refine SAnd.mk (by first | exact rfl | kernel_rfl | omega | decide) ?_; conv => whnf)
    | fail)
  all_goals exact ⟨PLe.of_eq (by kernel_rfl)⟩
theorem mulc (a : G) (ha : a.Fit 1000000) (s : Int) (hs : s = 1 ∨ s = -1) : APure C 105 [.agg (gc a), .agg [I s, I 0]] (.agg (gc (a.mul ⟨s, 0⟩))) :=
  times_fit a ⟨s, 0⟩ (ha.mono (by decide)) ⟨by rcases hs with rfl | rfl <;> decide, (by decide : (0 : Int).natAbs ≤ 1000000)⟩
theorem addc (a b : G) (ha : a.Fit 64000000) (hb : b.Fit 64000000) : APure C 102 [.agg (gc a), .agg (gc b)] (.agg (gc (a.add b))) := plus_fit a b 64000000 (by decide) ha hb
theorem G.Fit.add2 {a b : G} {m n k : Nat} (ha : a.Fit m) (hb : b.Fit n) (h : m + n ≤ k) : (a.add b).Fit k := by
  have e1 := ha.re; have e2 := ha.im; have e3 := hb.re; have e4 := hb.im
  constructor <;> simp only [G.add] <;> omega
def D (q : Q4) : Nat → G
  | 0 => dot4 q 1 1 1 1
  | 1 => dot4 q 1 1 (-1) (-1)
  | 2 => dot4 q 1 (-1) 1 (-1)
  | _ => dot4 q 1 (-1) (-1) 1
structure Chain (q : Q4) (s0 s1 s2 s3 : Int) (x0 x1 x2 x3 d1 d2 d3 d4 : G) : Prop where
  m0 : APure C 105 [.agg (gc q.a0), .agg [I s0, I 0]] (.agg (gc x0))
  m1 : APure C 105 [.agg (gc q.a1), .agg [I s1, I 0]] (.agg (gc x1))
  m2 : APure C 105 [.agg (gc q.a2), .agg [I s2, I 0]] (.agg (gc x2))
  m3 : APure C 105 [.agg (gc q.a3), .agg [I s3, I 0]] (.agg (gc x3))
  p0 : APure C 102 [.agg [I 0, I 0], .agg (gc x0)] (.agg (gc d1))
  p1 : APure C 102 [.agg (gc d1), .agg (gc x1)] (.agg (gc d2))
  p2 : APure C 102 [.agg (gc d2), .agg (gc x2)] (.agg (gc d3))
  p3 : APure C 102 [.agg (gc d3), .agg (gc x3)] (.agg (gc d4))
  e : d4 = dot4 q s0 s1 s2 s3
theorem chain (q : Q4) (hq : q.Fit) {s0 s1 s2 s3 : Int} (h0 : s0 = 1 ∨ s0 = -1) (h1 : s1 = 1 ∨ s1 = -1) (h2 : s2 = 1 ∨ s2 = -1) (h3 : s3 = 1 ∨ s3 = -1) : ∃ x0 x1 x2 x3 d1 d2 d3 d4, Chain q s0 s1 s2 s3 x0 x1 x2 x3 d1 d2 d3 d4 := by
  have z0 : (⟨0, 0⟩ : G).Fit 1000000 := ⟨by decide, by decide⟩
  have f0 := mul_fit hq.f0 h0
  have f1 := mul_fit hq.f1 h1
  have f2 := mul_fit hq.f2 h2
  have f3 := mul_fit hq.f3 h3
  have t1 : (dot1 q s0).Fit 2000000 := z0.add2 f0 (by decide)
  have t2 : (dot2 q s0 s1).Fit 3000000 := t1.add2 f1 (by decide)
  have t3 : (dot3 q s0 s1 s2).Fit 4000000 := t2.add2 f2 (by decide)
  exact ⟨_, _, _, _, dot1 q s0, dot2 q s0 s1, dot3 q s0 s1 s2, _, mulc q.a0 hq.f0 s0 h0, mulc q.a1 hq.f1 s1 h1, mulc q.a2 hq.f2 s2 h2, mulc q.a3 hq.f3 s3 h3,
    addc ⟨0, 0⟩ _ (z0.mono (by decide)) (f0.mono (by decide)), addc _ _ (t1.mono (by decide)) (f1.mono (by decide)), addc _ _ (t2.mono (by decide)) (f2.mono (by decide)), addc _ _ (t3.mono (by decide)) (f3.mono (by decide)), rfl⟩
def dq (q : Q4) (k : Nat) : G := divG (D q k) 4
def db (q : Q4) (k : Nat) : Bool := divB (D q k) 4
def outR (q : Q4) : Nat → List PV
  | 0 => [I 0, I 0, I 0, I 0, I 0, I 0, I 0, I 0]
  | 1 => [I (dq q 0).re, I (dq q 0).im, I 0, I 0, I 0, I 0, I 0, I 0]
  | 2 => [I (dq q 0).re, I (dq q 0).im, I (dq q 1).re, I (dq q 1).im, I 0, I 0, I 0, I 0]
  | 3 => [I (dq q 0).re, I (dq q 0).im, I (dq q 1).re, I (dq q 1).im, I (dq q 2).re, I (dq q 2).im, I 0, I 0]
  | _ => [I (dq q 0).re, I (dq q 0).im, I (dq q 1).re, I (dq q 1).im, I (dq q 2).re, I (dq q 2).im, I (dq q 3).re, I (dq q 3).im]
def dn (d1 d2 d3 d4 : G) : Nat → List PV
  | 0 => [I 0, I 0]
  | 1 => gc d1
  | 2 => gc d2
  | 3 => gc d3
  | _ => gc d4
def recB (q : Q4) : Bool := db q 0 && db q 1 && db q 2 && db q 3
def recS (q : Q4) : Sg := ⟨dq q 0, dq q 1, dq q 2⟩
def recE (q : Q4) : Int := if recB q = true then madeE (recS q) else 2
def recV (q : Q4) : Sg := if recE q = 0 then recS q else S0
def recL (q : Q4) : G := if recE q = 0 then dq q 3 else G0
abbrev fnsV : PV := .agg [.fn 184 [], .fn 185 [.ref [I 1, I 1, I (-1), I (-1)]], .fn 186 [.ref [I 1, I (-1), I 1, I (-1)]], .fn 187 [.ref [I 1, I 1, I (-1), I (-1)], .ref [I 1, I (-1), I 1, I (-1)]]]
set_option maxHeartbeats 40000000 in
theorem received_pure (q : Q4) (hq : q.Fit) : APure C 149 [.agg (qc q)] (.tup [.agg (sc (recV q)), .agg (gc (recL q)), I (recE q)]) := by
  have pos : (1 : Int) = 1 ∨ (1 : Int) = -1 := .inl rfl
  have neg : (-1 : Int) = 1 ∨ (-1 : Int) = -1 := .inr rfl
  refine APure.of_body good [] (fn := Tryz.f149) (by kernel_rfl) (by kernel_rfl) rfl rfl (by kernel_rfl) rfl (by kernel_rfl) ?_
  conv => whnf
  repeat' (first
    | (refine codeK_sound good (mu := []) ?_; conv => whnf)
    | ((first | rw [wl0] | rw [wl1] | rw [wl2] | rw [wl3] | rw [wl4] | rw [wl5]); conv => whnf)
    | (refine SBool.mk (fun _ => ?_) (fun h => absurd (of_decide_eq_true rfl) h); conv => whnf)
    | (refine SBool.mk (fun h => absurd h (of_decide_eq_false rfl)) (fun _ => ?_); conv => whnf)
    | (refine SBool.mk (fun h => ?_) (fun h => ?_) <;> conv => whnf)
    | (refine SEx.mk _ (by first | exact tones_pure) ?_; conv => whnf)
    | (refine SEx.mk _ (by first | exact rfl | exact ⟨of_decide_eq_true rfl, rfl⟩) ?_; conv => whnf)
    | (refine SAll.mk (fun _ => ?_); conv => whnf)
    | (refine SAnd.mk ⟨by intro c hc; simp at hc; first | (subst hc; rfl) | ((repeat' (rcases hc with rfl | hc)) <;> first | rfl | (subst hc; rfl)), by (simp; first | done | omega), by (simp; first | done | omega)⟩ ?_; conv => whnf)
    | (refine SAnd.mk (by first | exact rfl | kernel_rfl | omega | decide | exact tones_pure) ?_; conv => whnf)
    | fail)
  refine ⟨AWp.loop (ι := { k : Nat // k ≤ 4 ∧ ∀ j, j < k → db q j = true }) (fun k => ⟨[(29, .p (I k.1)), (28, .p fnsV), (8, .box 2 0), (3, .box 1 0), (2, .box 0 0), (1, .p (.ref (qc q)))], [(0, (32, [I 0, I 0, I 0, I 0, I 0, I 0])), (1, (23, [I 0, I 0])), (2, (213, outR q k.1))], [], 3, [], [], []⟩) (fun k => 4 - k.1) ⟨0, by omega, fun j hj => by omega⟩ ?_ ?_⟩
  · refine SLe.of [(0, 0), (1, 1), (2, 5)] [] rfl rfl ?_
    conv => whnf
    repeat' (first
    | exact True.intro
    | (refine SAnd.mk (PLe.of_eq (by simp only [wrapK]; rw [wrap_id (by first | omega | (simp only; done) | (simp only; omega) | simp) (by first | omega | (simp only; done) | (simp only; omega) | simp)]; simp)) ?_; conv => whnf)
    | (refine SAnd.mk (PLe.refl _) ?_; conv => whnf)
    | (refine SAnd.mk (PLeL.refl _) ?_; conv => whnf)
    | (refine SAnd.mk (PLe.of_eq (by simp)) ?_; conv => whnf)
    | (refine SAnd.mk rfl ?_; conv => whnf)
    | (refine SAnd.mk ⟨rfl, rfl⟩ ?_; conv => whnf)
    | (refine SAnd.mk ⟨rfl, rfl, rfl⟩ ?_; conv => whnf))
  · rintro ⟨k, hk, hall⟩
    rcases le4 hk with rfl | rfl | rfl | rfl | rfl
    · as_aux_lemma =>
        obtain ⟨x0, x1, x2, x3, d1, d2, d3, d4, m0, m1, m2, m3, p0, p1, p2, p3, e⟩ := chain q hq pos pos pos pos
        have e : d4 = D q 0 := e
        have dd := divided_pure d4 4 (by decide)
        conv => whnf
        repeat' (first
          | (refine codeK_sound good (mu := []) ?_; conv => whnf)
          | ((first | rw [wl0] | rw [wl1] | rw [wl2] | rw [wl3] | rw [wl4] | rw [wl5]); conv => whnf)
          | (refine SBool.mk (fun _ => ?_) (fun h => absurd (of_decide_eq_true rfl) h); conv => whnf)
          | (refine SBool.mk (fun h => absurd h (of_decide_eq_false rfl)) (fun _ => ?_); conv => whnf)
          | (refine SBool.mk (fun h => ?_) (fun h => ?_) <;> conv => whnf)
          | (refine SEx.mk _ (by first | exact rfl | exact ⟨of_decide_eq_true rfl, rfl⟩) ?_; conv => whnf)
          | (refine SAll.mk (fun _ => ?_); conv => whnf)
          | (refine SAnd.mk ⟨by intro c hc; simp at hc; first | (subst hc; rfl) | ((repeat' (rcases hc with rfl | hc)) <;> first | rfl | (subst hc; rfl)), by (simp; first | done | omega), by (simp; first | done | omega)⟩ ?_; conv => whnf)
          | (refine SAnd.mk (by first | exact rfl | kernel_rfl | omega | decide) ?_; conv => whnf)
          | fail)
        refine ⟨AWp.loop (ι := { t : Nat // t ≤ 4 }) (fun t => ⟨[(34, .p (I t.1)), (33, .p (.agg (qc q))), (11, .box 3 0), (10, .p (.fn 184 [])), (9, .p (I 0)), (29, .p (I 0)), (28, .p fnsV), (8, .box 2 0), (3, .box 1 0), (2, .box 0 0), (1, .p (.ref (qc q)))], [(0, (32, [I 0, I 0, I 0, I 0, I 0, I 0])), (1, (23, [I 0, I 0])), (2, (213, outR q 0)), (3, (23, dn d1 d2 d3 d4 t.1))], [], 4, [], [], []⟩) (fun t => 4 - t.1) ⟨0, by omega⟩ ?_ ?_⟩
        · refine SLe.of [(0, 0), (1, 1), (2, 2), (3, 3)] [] rfl rfl ?_
          conv => whnf
          repeat' (first
          | exact True.intro
          | (refine SAnd.mk (PLe.of_eq (by simp only [wrapK]; rw [wrap_id (by first | omega | (simp only; done) | (simp only; omega) | simp) (by first | omega | (simp only; done) | (simp only; omega) | simp)]; simp)) ?_; conv => whnf)
          | (refine SAnd.mk (PLe.refl _) ?_; conv => whnf)
          | (refine SAnd.mk (PLeL.refl _) ?_; conv => whnf)
          | (refine SAnd.mk (PLe.of_eq (by simp)) ?_; conv => whnf)
          | (refine SAnd.mk rfl ?_; conv => whnf)
          | (refine SAnd.mk ⟨rfl, rfl⟩ ?_; conv => whnf)
          | (refine SAnd.mk ⟨rfl, rfl, rfl⟩ ?_; conv => whnf))
        · rintro ⟨t, ht⟩
          rcases le4 ht with rfl | rfl | rfl | rfl | rfl
          · skip
            conv => whnf
            repeat' (first
              | (refine codeK_sound good (mu := []) ?_; conv => whnf)
              | ((first | rw [wl0] | rw [wl1] | rw [wl2] | rw [wl3] | rw [wl4] | rw [wl5]); conv => whnf)
              | (refine SBool.mk (fun _ => ?_) (fun h => absurd (of_decide_eq_true rfl) h); conv => whnf)
              | (refine SBool.mk (fun h => absurd h (of_decide_eq_false rfl)) (fun _ => ?_); conv => whnf)
              | (refine SBool.mk (fun h => ?_) (fun h => ?_) <;> conv => whnf)
              | (refine SEx.mk _ (by first | exact r184_0 | exact m0 | exact p0) ?_; conv => whnf)
              | (refine SEx.mk _ (by first | exact rfl | exact ⟨of_decide_eq_true rfl, rfl⟩) ?_; conv => whnf)
              | (refine SAll.mk (fun _ => ?_); conv => whnf)
              | (refine SAnd.mk ⟨by intro c hc; simp at hc; first | (subst hc; rfl) | ((repeat' (rcases hc with rfl | hc)) <;> first | rfl | (subst hc; rfl)), by (simp; first | done | omega), by (simp; first | done | omega)⟩ ?_; conv => whnf)
              | (refine SAnd.mk (by first | exact rfl | kernel_rfl | omega | decide | exact r184_0 | exact m0 | exact p0) ?_; conv => whnf)
              | fail)
            refine ⟨⟨1, by omega⟩, by simp only; omega, ?_⟩
            · refine SLe.of [(0, 0), (1, 1), (2, 2), (3, 3)] [] rfl rfl ?_
              conv => whnf
              repeat' (first
              | exact True.intro
              | (refine SAnd.mk (PLe.of_eq (by simp only [wrapK]; rw [wrap_id (by first | omega | (simp only; done) | (simp only; omega) | simp) (by first | omega | (simp only; done) | (simp only; omega) | simp)]; simp)) ?_; conv => whnf)
              | (refine SAnd.mk (PLe.refl _) ?_; conv => whnf)
              | (refine SAnd.mk (PLeL.refl _) ?_; conv => whnf)
              | (refine SAnd.mk (PLe.of_eq (by simp)) ?_; conv => whnf)
              | (refine SAnd.mk rfl ?_; conv => whnf)
              | (refine SAnd.mk ⟨rfl, rfl⟩ ?_; conv => whnf)
              | (refine SAnd.mk ⟨rfl, rfl, rfl⟩ ?_; conv => whnf))
          · skip
            conv => whnf
            repeat' (first
              | (refine codeK_sound good (mu := []) ?_; conv => whnf)
              | ((first | rw [wl0] | rw [wl1] | rw [wl2] | rw [wl3] | rw [wl4] | rw [wl5]); conv => whnf)
              | (refine SBool.mk (fun _ => ?_) (fun h => absurd (of_decide_eq_true rfl) h); conv => whnf)
              | (refine SBool.mk (fun h => absurd h (of_decide_eq_false rfl)) (fun _ => ?_); conv => whnf)
              | (refine SBool.mk (fun h => ?_) (fun h => ?_) <;> conv => whnf)
              | (refine SEx.mk _ (by first | exact r184_1 | exact m1 | exact p1) ?_; conv => whnf)
              | (refine SEx.mk _ (by first | exact rfl | exact ⟨of_decide_eq_true rfl, rfl⟩) ?_; conv => whnf)
              | (refine SAll.mk (fun _ => ?_); conv => whnf)
              | (refine SAnd.mk ⟨by intro c hc; simp at hc; first | (subst hc; rfl) | ((repeat' (rcases hc with rfl | hc)) <;> first | rfl | (subst hc; rfl)), by (simp; first | done | omega), by (simp; first | done | omega)⟩ ?_; conv => whnf)
              | (refine SAnd.mk (by first | exact rfl | kernel_rfl | omega | decide | exact r184_1 | exact m1 | exact p1) ?_; conv => whnf)
              | fail)
            refine ⟨⟨2, by omega⟩, by simp only; omega, ?_⟩
            · refine SLe.of [(0, 0), (1, 1), (2, 2), (3, 3)] [] rfl rfl ?_
              conv => whnf
              repeat' (first
              | exact True.intro
              | (refine SAnd.mk (PLe.of_eq (by simp only [wrapK]; rw [wrap_id (by first | omega | (simp only; done) | (simp only; omega) | simp) (by first | omega | (simp only; done) | (simp only; omega) | simp)]; simp)) ?_; conv => whnf)
              | (refine SAnd.mk (PLe.refl _) ?_; conv => whnf)
              | (refine SAnd.mk (PLeL.refl _) ?_; conv => whnf)
              | (refine SAnd.mk (PLe.of_eq (by simp)) ?_; conv => whnf)
              | (refine SAnd.mk rfl ?_; conv => whnf)
              | (refine SAnd.mk ⟨rfl, rfl⟩ ?_; conv => whnf)
              | (refine SAnd.mk ⟨rfl, rfl, rfl⟩ ?_; conv => whnf))
          · skip
            conv => whnf
            repeat' (first
              | (refine codeK_sound good (mu := []) ?_; conv => whnf)
              | ((first | rw [wl0] | rw [wl1] | rw [wl2] | rw [wl3] | rw [wl4] | rw [wl5]); conv => whnf)
              | (refine SBool.mk (fun _ => ?_) (fun h => absurd (of_decide_eq_true rfl) h); conv => whnf)
              | (refine SBool.mk (fun h => absurd h (of_decide_eq_false rfl)) (fun _ => ?_); conv => whnf)
              | (refine SBool.mk (fun h => ?_) (fun h => ?_) <;> conv => whnf)
              | (refine SEx.mk _ (by first | exact r184_2 | exact m2 | exact p2) ?_; conv => whnf)
              | (refine SEx.mk _ (by first | exact rfl | exact ⟨of_decide_eq_true rfl, rfl⟩) ?_; conv => whnf)
              | (refine SAll.mk (fun _ => ?_); conv => whnf)
              | (refine SAnd.mk ⟨by intro c hc; simp at hc; first | (subst hc; rfl) | ((repeat' (rcases hc with rfl | hc)) <;> first | rfl | (subst hc; rfl)), by (simp; first | done | omega), by (simp; first | done | omega)⟩ ?_; conv => whnf)
              | (refine SAnd.mk (by first | exact rfl | kernel_rfl | omega | decide | exact r184_2 | exact m2 | exact p2) ?_; conv => whnf)
              | fail)
            refine ⟨⟨3, by omega⟩, by simp only; omega, ?_⟩
            · refine SLe.of [(0, 0), (1, 1), (2, 2), (3, 3)] [] rfl rfl ?_
              conv => whnf
              repeat' (first
              | exact True.intro
              | (refine SAnd.mk (PLe.of_eq (by simp only [wrapK]; rw [wrap_id (by first | omega | (simp only; done) | (simp only; omega) | simp) (by first | omega | (simp only; done) | (simp only; omega) | simp)]; simp)) ?_; conv => whnf)
              | (refine SAnd.mk (PLe.refl _) ?_; conv => whnf)
              | (refine SAnd.mk (PLeL.refl _) ?_; conv => whnf)
              | (refine SAnd.mk (PLe.of_eq (by simp)) ?_; conv => whnf)
              | (refine SAnd.mk rfl ?_; conv => whnf)
              | (refine SAnd.mk ⟨rfl, rfl⟩ ?_; conv => whnf)
              | (refine SAnd.mk ⟨rfl, rfl, rfl⟩ ?_; conv => whnf))
          · skip
            conv => whnf
            repeat' (first
              | (refine codeK_sound good (mu := []) ?_; conv => whnf)
              | ((first | rw [wl0] | rw [wl1] | rw [wl2] | rw [wl3] | rw [wl4] | rw [wl5]); conv => whnf)
              | (refine SBool.mk (fun _ => ?_) (fun h => absurd (of_decide_eq_true rfl) h); conv => whnf)
              | (refine SBool.mk (fun h => absurd h (of_decide_eq_false rfl)) (fun _ => ?_); conv => whnf)
              | (refine SBool.mk (fun h => ?_) (fun h => ?_) <;> conv => whnf)
              | (refine SEx.mk _ (by first | exact r184_3 | exact m3 | exact p3) ?_; conv => whnf)
              | (refine SEx.mk _ (by first | exact rfl | exact ⟨of_decide_eq_true rfl, rfl⟩) ?_; conv => whnf)
              | (refine SAll.mk (fun _ => ?_); conv => whnf)
              | (refine SAnd.mk ⟨by intro c hc; simp at hc; first | (subst hc; rfl) | ((repeat' (rcases hc with rfl | hc)) <;> first | rfl | (subst hc; rfl)), by (simp; first | done | omega), by (simp; first | done | omega)⟩ ?_; conv => whnf)
              | (refine SAnd.mk (by first | exact rfl | kernel_rfl | omega | decide | exact r184_3 | exact m3 | exact p3) ?_; conv => whnf)
              | fail)
            refine ⟨⟨4, by omega⟩, by simp only; omega, ?_⟩
            · refine SLe.of [(0, 0), (1, 1), (2, 2), (3, 3)] [] rfl rfl ?_
              conv => whnf
              repeat' (first
              | exact True.intro
              | (refine SAnd.mk (PLe.of_eq (by simp only [wrapK]; rw [wrap_id (by first | omega | (simp only; done) | (simp only; omega) | simp) (by first | omega | (simp only; done) | (simp only; omega) | simp)]; simp)) ?_; conv => whnf)
              | (refine SAnd.mk (PLe.refl _) ?_; conv => whnf)
              | (refine SAnd.mk (PLeL.refl _) ?_; conv => whnf)
              | (refine SAnd.mk (PLe.of_eq (by simp)) ?_; conv => whnf)
              | (refine SAnd.mk rfl ?_; conv => whnf)
              | (refine SAnd.mk ⟨rfl, rfl⟩ ?_; conv => whnf)
              | (refine SAnd.mk ⟨rfl, rfl, rfl⟩ ?_; conv => whnf))
          · skip
            cases hb : divB d4 4 with
            | true =>
              rw [hb] at dd
              have hb' : db q 0 = true := by unfold db; rw [← e]; exact hb
              have e1 : dq q 0 = divG d4 4 := by unfold dq; rw [e]
              conv => whnf
              repeat' (first
                | (refine codeK_sound good (mu := []) ?_; conv => whnf)
                | ((first | rw [wl0] | rw [wl1] | rw [wl2] | rw [wl3] | rw [wl4] | rw [wl5]); conv => whnf)
                | (refine SBool.mk (fun _ => ?_) (fun h => absurd (of_decide_eq_true rfl) h); conv => whnf)
                | (refine SBool.mk (fun h => absurd h (of_decide_eq_false rfl)) (fun _ => ?_); conv => whnf)
                | (refine SBool.mk (fun h => ?_) (fun h => ?_) <;> conv => whnf)
                | (refine SEx.mk _ (by first | exact dd) ?_; conv => whnf)
                | (refine SEx.mk _ (by first | exact rfl | exact ⟨of_decide_eq_true rfl, rfl⟩) ?_; conv => whnf)
                | (refine SAll.mk (fun _ => ?_); conv => whnf)
                | (refine SAnd.mk ⟨by intro c hc; simp at hc; first | (subst hc; rfl) | ((repeat' (rcases hc with rfl | hc)) <;> first | rfl | (subst hc; rfl)), by (simp; first | done | omega), by (simp; first | done | omega)⟩ ?_; conv => whnf)
                | (refine SAnd.mk (by first | exact rfl | kernel_rfl | omega | decide | exact dd) ?_; conv => whnf)
                | fail)
              refine ⟨⟨1, by omega, fun j hj => by (rcases (by omega : j < 0 ∨ j = 0) with h | rfl); exact hall j h; exact hb'⟩, by simp only; omega, ?_⟩
              rw [← e1]
              · refine SLe.of [(0, 0), (1, 1), (2, 2)] [] rfl rfl ?_
                conv => whnf
                repeat' (first
                | exact True.intro
                | (refine SAnd.mk (PLe.of_eq (by simp only [wrapK]; rw [wrap_id (by first | omega | (simp only; done) | (simp only; omega) | simp) (by first | omega | (simp only; done) | (simp only; omega) | simp)]; simp)) ?_; conv => whnf)
                | (refine SAnd.mk (PLe.refl _) ?_; conv => whnf)
                | (refine SAnd.mk (PLeL.refl _) ?_; conv => whnf)
                | (refine SAnd.mk (PLe.of_eq (by simp)) ?_; conv => whnf)
                | (refine SAnd.mk rfl ?_; conv => whnf)
                | (refine SAnd.mk ⟨rfl, rfl⟩ ?_; conv => whnf)
                | (refine SAnd.mk ⟨rfl, rfl, rfl⟩ ?_; conv => whnf))
            | false =>
              rw [hb] at dd
              have hb' : db q 0 = false := by unfold db; rw [← e]; exact hb
              conv => whnf
              repeat' (first
                | (refine codeK_sound good (mu := []) ?_; conv => whnf)
                | ((first | rw [wl0] | rw [wl1] | rw [wl2] | rw [wl3] | rw [wl4] | rw [wl5]); conv => whnf)
                | (refine SBool.mk (fun _ => ?_) (fun h => absurd (of_decide_eq_true rfl) h); conv => whnf)
                | (refine SBool.mk (fun h => absurd h (of_decide_eq_false rfl)) (fun _ => ?_); conv => whnf)
                | (refine SBool.mk (fun h => ?_) (fun h => ?_) <;> conv => whnf)
                | (refine SEx.mk _ (by first | exact dd) ?_; conv => whnf)
                | (refine SEx.mk _ (by first | exact rfl | exact ⟨of_decide_eq_true rfl, rfl⟩) ?_; conv => whnf)
                | (refine SAll.mk (fun _ => ?_); conv => whnf)
                | (refine SAnd.mk ⟨by intro c hc; simp at hc; first | (subst hc; rfl) | ((repeat' (rcases hc with rfl | hc)) <;> first | rfl | (subst hc; rfl)), by (simp; first | done | omega), by (simp; first | done | omega)⟩ ?_; conv => whnf)
                | (refine SAnd.mk (by first | exact rfl | kernel_rfl | omega | decide | exact dd) ?_; conv => whnf)
                | fail)
              have hB : recB q = false := by
                unfold recB
                rw [hb']
                simp
              have hE : recE q = 2 := by unfold recE; rw [hB]; rfl
              exact ⟨PLe.of_eq (by unfold recV recL; rw [hE]; rfl)⟩
    · as_aux_lemma =>
        obtain ⟨x0, x1, x2, x3, d1, d2, d3, d4, m0, m1, m2, m3, p0, p1, p2, p3, e⟩ := chain q hq pos pos neg neg
        have e : d4 = D q 1 := e
        have dd := divided_pure d4 4 (by decide)
        conv => whnf
        repeat' (first
          | (refine codeK_sound good (mu := []) ?_; conv => whnf)
          | ((first | rw [wl0] | rw [wl1] | rw [wl2] | rw [wl3] | rw [wl4] | rw [wl5]); conv => whnf)
          | (refine SBool.mk (fun _ => ?_) (fun h => absurd (of_decide_eq_true rfl) h); conv => whnf)
          | (refine SBool.mk (fun h => absurd h (of_decide_eq_false rfl)) (fun _ => ?_); conv => whnf)
          | (refine SBool.mk (fun h => ?_) (fun h => ?_) <;> conv => whnf)
          | (refine SEx.mk _ (by first | exact rfl | exact ⟨of_decide_eq_true rfl, rfl⟩) ?_; conv => whnf)
          | (refine SAll.mk (fun _ => ?_); conv => whnf)
          | (refine SAnd.mk ⟨by intro c hc; simp at hc; first | (subst hc; rfl) | ((repeat' (rcases hc with rfl | hc)) <;> first | rfl | (subst hc; rfl)), by (simp; first | done | omega), by (simp; first | done | omega)⟩ ?_; conv => whnf)
          | (refine SAnd.mk (by first | exact rfl | kernel_rfl | omega | decide) ?_; conv => whnf)
          | fail)
        refine ⟨AWp.loop (ι := { t : Nat // t ≤ 4 }) (fun t => ⟨[(34, .p (I t.1)), (33, .p (.agg (qc q))), (11, .box 3 0), (10, .p (.fn 185 [.ref [I 1, I 1, I (-1), I (-1)]])), (9, .p (I 1)), (29, .p (I 1)), (28, .p fnsV), (8, .box 2 0), (3, .box 1 0), (2, .box 0 0), (1, .p (.ref (qc q)))], [(0, (32, [I 0, I 0, I 0, I 0, I 0, I 0])), (1, (23, [I 0, I 0])), (2, (213, outR q 1)), (3, (23, dn d1 d2 d3 d4 t.1))], [], 4, [], [], []⟩) (fun t => 4 - t.1) ⟨0, by omega⟩ ?_ ?_⟩
        · refine SLe.of [(0, 0), (1, 1), (2, 2), (3, 3)] [] rfl rfl ?_
          conv => whnf
          repeat' (first
          | exact True.intro
          | (refine SAnd.mk (PLe.of_eq (by simp only [wrapK]; rw [wrap_id (by first | omega | (simp only; done) | (simp only; omega) | simp) (by first | omega | (simp only; done) | (simp only; omega) | simp)]; simp)) ?_; conv => whnf)
          | (refine SAnd.mk (PLe.refl _) ?_; conv => whnf)
          | (refine SAnd.mk (PLeL.refl _) ?_; conv => whnf)
          | (refine SAnd.mk (PLe.of_eq (by simp)) ?_; conv => whnf)
          | (refine SAnd.mk rfl ?_; conv => whnf)
          | (refine SAnd.mk ⟨rfl, rfl⟩ ?_; conv => whnf)
          | (refine SAnd.mk ⟨rfl, rfl, rfl⟩ ?_; conv => whnf))
        · rintro ⟨t, ht⟩
          rcases le4 ht with rfl | rfl | rfl | rfl | rfl
          · skip
            conv => whnf
            repeat' (first
              | (refine codeK_sound good (mu := []) ?_; conv => whnf)
              | ((first | rw [wl0] | rw [wl1] | rw [wl2] | rw [wl3] | rw [wl4] | rw [wl5]); conv => whnf)
              | (refine SBool.mk (fun _ => ?_) (fun h => absurd (of_decide_eq_true rfl) h); conv => whnf)
              | (refine SBool.mk (fun h => absurd h (of_decide_eq_false rfl)) (fun _ => ?_); conv => whnf)
              | (refine SBool.mk (fun h => ?_) (fun h => ?_) <;> conv => whnf)
              | (refine SEx.mk _ (by first | exact r185_0 | exact m0 | exact p0) ?_; conv => whnf)
              | (refine SEx.mk _ (by first | exact rfl | exact ⟨of_decide_eq_true rfl, rfl⟩) ?_; conv => whnf)
              | (refine SAll.mk (fun _ => ?_); conv => whnf)
              | (refine SAnd.mk ⟨by intro c hc; simp at hc; first | (subst hc; rfl) | ((repeat' (rcases hc with rfl | hc)) <;> first | rfl | (subst hc; rfl)), by (simp; first | done | omega), by (simp; first | done | omega)⟩ ?_; conv => whnf)
              | (refine SAnd.mk (by first | exact rfl | kernel_rfl | omega | decide | exact r185_0 | exact m0 | exact p0) ?_; conv => whnf)
              | fail)
            refine ⟨⟨1, by omega⟩, by simp only; omega, ?_⟩
            · refine SLe.of [(0, 0), (1, 1), (2, 2), (3, 3)] [] rfl rfl ?_
              conv => whnf
              repeat' (first
              | exact True.intro
              | (refine SAnd.mk (PLe.of_eq (by simp only [wrapK]; rw [wrap_id (by first | omega | (simp only; done) | (simp only; omega) | simp) (by first | omega | (simp only; done) | (simp only; omega) | simp)]; simp)) ?_; conv => whnf)
              | (refine SAnd.mk (PLe.refl _) ?_; conv => whnf)
              | (refine SAnd.mk (PLeL.refl _) ?_; conv => whnf)
              | (refine SAnd.mk (PLe.of_eq (by simp)) ?_; conv => whnf)
              | (refine SAnd.mk rfl ?_; conv => whnf)
              | (refine SAnd.mk ⟨rfl, rfl⟩ ?_; conv => whnf)
              | (refine SAnd.mk ⟨rfl, rfl, rfl⟩ ?_; conv => whnf))
          · skip
            conv => whnf
            repeat' (first
              | (refine codeK_sound good (mu := []) ?_; conv => whnf)
              | ((first | rw [wl0] | rw [wl1] | rw [wl2] | rw [wl3] | rw [wl4] | rw [wl5]); conv => whnf)
              | (refine SBool.mk (fun _ => ?_) (fun h => absurd (of_decide_eq_true rfl) h); conv => whnf)
              | (refine SBool.mk (fun h => absurd h (of_decide_eq_false rfl)) (fun _ => ?_); conv => whnf)
              | (refine SBool.mk (fun h => ?_) (fun h => ?_) <;> conv => whnf)
              | (refine SEx.mk _ (by first | exact r185_1 | exact m1 | exact p1) ?_; conv => whnf)
              | (refine SEx.mk _ (by first | exact rfl | exact ⟨of_decide_eq_true rfl, rfl⟩) ?_; conv => whnf)
              | (refine SAll.mk (fun _ => ?_); conv => whnf)
              | (refine SAnd.mk ⟨by intro c hc; simp at hc; first | (subst hc; rfl) | ((repeat' (rcases hc with rfl | hc)) <;> first | rfl | (subst hc; rfl)), by (simp; first | done | omega), by (simp; first | done | omega)⟩ ?_; conv => whnf)
              | (refine SAnd.mk (by first | exact rfl | kernel_rfl | omega | decide | exact r185_1 | exact m1 | exact p1) ?_; conv => whnf)
              | fail)
            refine ⟨⟨2, by omega⟩, by simp only; omega, ?_⟩
            · refine SLe.of [(0, 0), (1, 1), (2, 2), (3, 3)] [] rfl rfl ?_
              conv => whnf
              repeat' (first
              | exact True.intro
              | (refine SAnd.mk (PLe.of_eq (by simp only [wrapK]; rw [wrap_id (by first | omega | (simp only; done) | (simp only; omega) | simp) (by first | omega | (simp only; done) | (simp only; omega) | simp)]; simp)) ?_; conv => whnf)
              | (refine SAnd.mk (PLe.refl _) ?_; conv => whnf)
              | (refine SAnd.mk (PLeL.refl _) ?_; conv => whnf)
              | (refine SAnd.mk (PLe.of_eq (by simp)) ?_; conv => whnf)
              | (refine SAnd.mk rfl ?_; conv => whnf)
              | (refine SAnd.mk ⟨rfl, rfl⟩ ?_; conv => whnf)
              | (refine SAnd.mk ⟨rfl, rfl, rfl⟩ ?_; conv => whnf))
          · skip
            conv => whnf
            repeat' (first
              | (refine codeK_sound good (mu := []) ?_; conv => whnf)
              | ((first | rw [wl0] | rw [wl1] | rw [wl2] | rw [wl3] | rw [wl4] | rw [wl5]); conv => whnf)
              | (refine SBool.mk (fun _ => ?_) (fun h => absurd (of_decide_eq_true rfl) h); conv => whnf)
              | (refine SBool.mk (fun h => absurd h (of_decide_eq_false rfl)) (fun _ => ?_); conv => whnf)
              | (refine SBool.mk (fun h => ?_) (fun h => ?_) <;> conv => whnf)
              | (refine SEx.mk _ (by first | exact r185_2 | exact m2 | exact p2) ?_; conv => whnf)
              | (refine SEx.mk _ (by first | exact rfl | exact ⟨of_decide_eq_true rfl, rfl⟩) ?_; conv => whnf)
              | (refine SAll.mk (fun _ => ?_); conv => whnf)
              | (refine SAnd.mk ⟨by intro c hc; simp at hc; first | (subst hc; rfl) | ((repeat' (rcases hc with rfl | hc)) <;> first | rfl | (subst hc; rfl)), by (simp; first | done | omega), by (simp; first | done | omega)⟩ ?_; conv => whnf)
              | (refine SAnd.mk (by first | exact rfl | kernel_rfl | omega | decide | exact r185_2 | exact m2 | exact p2) ?_; conv => whnf)
              | fail)
            refine ⟨⟨3, by omega⟩, by simp only; omega, ?_⟩
            · refine SLe.of [(0, 0), (1, 1), (2, 2), (3, 3)] [] rfl rfl ?_
              conv => whnf
              repeat' (first
              | exact True.intro
              | (refine SAnd.mk (PLe.of_eq (by simp only [wrapK]; rw [wrap_id (by first | omega | (simp only; done) | (simp only; omega) | simp) (by first | omega | (simp only; done) | (simp only; omega) | simp)]; simp)) ?_; conv => whnf)
              | (refine SAnd.mk (PLe.refl _) ?_; conv => whnf)
              | (refine SAnd.mk (PLeL.refl _) ?_; conv => whnf)
              | (refine SAnd.mk (PLe.of_eq (by simp)) ?_; conv => whnf)
              | (refine SAnd.mk rfl ?_; conv => whnf)
              | (refine SAnd.mk ⟨rfl, rfl⟩ ?_; conv => whnf)
              | (refine SAnd.mk ⟨rfl, rfl, rfl⟩ ?_; conv => whnf))
          · skip
            conv => whnf
            repeat' (first
              | (refine codeK_sound good (mu := []) ?_; conv => whnf)
              | ((first | rw [wl0] | rw [wl1] | rw [wl2] | rw [wl3] | rw [wl4] | rw [wl5]); conv => whnf)
              | (refine SBool.mk (fun _ => ?_) (fun h => absurd (of_decide_eq_true rfl) h); conv => whnf)
              | (refine SBool.mk (fun h => absurd h (of_decide_eq_false rfl)) (fun _ => ?_); conv => whnf)
              | (refine SBool.mk (fun h => ?_) (fun h => ?_) <;> conv => whnf)
              | (refine SEx.mk _ (by first | exact r185_3 | exact m3 | exact p3) ?_; conv => whnf)
              | (refine SEx.mk _ (by first | exact rfl | exact ⟨of_decide_eq_true rfl, rfl⟩) ?_; conv => whnf)
              | (refine SAll.mk (fun _ => ?_); conv => whnf)
              | (refine SAnd.mk ⟨by intro c hc; simp at hc; first | (subst hc; rfl) | ((repeat' (rcases hc with rfl | hc)) <;> first | rfl | (subst hc; rfl)), by (simp; first | done | omega), by (simp; first | done | omega)⟩ ?_; conv => whnf)
              | (refine SAnd.mk (by first | exact rfl | kernel_rfl | omega | decide | exact r185_3 | exact m3 | exact p3) ?_; conv => whnf)
              | fail)
            refine ⟨⟨4, by omega⟩, by simp only; omega, ?_⟩
            · refine SLe.of [(0, 0), (1, 1), (2, 2), (3, 3)] [] rfl rfl ?_
              conv => whnf
              repeat' (first
              | exact True.intro
              | (refine SAnd.mk (PLe.of_eq (by simp only [wrapK]; rw [wrap_id (by first | omega | (simp only; done) | (simp only; omega) | simp) (by first | omega | (simp only; done) | (simp only; omega) | simp)]; simp)) ?_; conv => whnf)
              | (refine SAnd.mk (PLe.refl _) ?_; conv => whnf)
              | (refine SAnd.mk (PLeL.refl _) ?_; conv => whnf)
              | (refine SAnd.mk (PLe.of_eq (by simp)) ?_; conv => whnf)
              | (refine SAnd.mk rfl ?_; conv => whnf)
              | (refine SAnd.mk ⟨rfl, rfl⟩ ?_; conv => whnf)
              | (refine SAnd.mk ⟨rfl, rfl, rfl⟩ ?_; conv => whnf))
          · skip
            cases hb : divB d4 4 with
            | true =>
              rw [hb] at dd
              have hb' : db q 1 = true := by unfold db; rw [← e]; exact hb
              have e1 : dq q 1 = divG d4 4 := by unfold dq; rw [e]
              conv => whnf
              repeat' (first
                | (refine codeK_sound good (mu := []) ?_; conv => whnf)
                | ((first | rw [wl0] | rw [wl1] | rw [wl2] | rw [wl3] | rw [wl4] | rw [wl5]); conv => whnf)
                | (refine SBool.mk (fun _ => ?_) (fun h => absurd (of_decide_eq_true rfl) h); conv => whnf)
                | (refine SBool.mk (fun h => absurd h (of_decide_eq_false rfl)) (fun _ => ?_); conv => whnf)
                | (refine SBool.mk (fun h => ?_) (fun h => ?_) <;> conv => whnf)
                | (refine SEx.mk _ (by first | exact dd) ?_; conv => whnf)
                | (refine SEx.mk _ (by first | exact rfl | exact ⟨of_decide_eq_true rfl, rfl⟩) ?_; conv => whnf)
                | (refine SAll.mk (fun _ => ?_); conv => whnf)
                | (refine SAnd.mk ⟨by intro c hc; simp at hc; first | (subst hc; rfl) | ((repeat' (rcases hc with rfl | hc)) <;> first | rfl | (subst hc; rfl)), by (simp; first | done | omega), by (simp; first | done | omega)⟩ ?_; conv => whnf)
                | (refine SAnd.mk (by first | exact rfl | kernel_rfl | omega | decide | exact dd) ?_; conv => whnf)
                | fail)
              refine ⟨⟨2, by omega, fun j hj => by (rcases (by omega : j < 1 ∨ j = 1) with h | rfl); exact hall j h; exact hb'⟩, by simp only; omega, ?_⟩
              rw [← e1]
              · refine SLe.of [(0, 0), (1, 1), (2, 2)] [] rfl rfl ?_
                conv => whnf
                repeat' (first
                | exact True.intro
                | (refine SAnd.mk (PLe.of_eq (by simp only [wrapK]; rw [wrap_id (by first | omega | (simp only; done) | (simp only; omega) | simp) (by first | omega | (simp only; done) | (simp only; omega) | simp)]; simp)) ?_; conv => whnf)
                | (refine SAnd.mk (PLe.refl _) ?_; conv => whnf)
                | (refine SAnd.mk (PLeL.refl _) ?_; conv => whnf)
                | (refine SAnd.mk (PLe.of_eq (by simp)) ?_; conv => whnf)
                | (refine SAnd.mk rfl ?_; conv => whnf)
                | (refine SAnd.mk ⟨rfl, rfl⟩ ?_; conv => whnf)
                | (refine SAnd.mk ⟨rfl, rfl, rfl⟩ ?_; conv => whnf))
            | false =>
              rw [hb] at dd
              have hb' : db q 1 = false := by unfold db; rw [← e]; exact hb
              conv => whnf
              repeat' (first
                | (refine codeK_sound good (mu := []) ?_; conv => whnf)
                | ((first | rw [wl0] | rw [wl1] | rw [wl2] | rw [wl3] | rw [wl4] | rw [wl5]); conv => whnf)
                | (refine SBool.mk (fun _ => ?_) (fun h => absurd (of_decide_eq_true rfl) h); conv => whnf)
                | (refine SBool.mk (fun h => absurd h (of_decide_eq_false rfl)) (fun _ => ?_); conv => whnf)
                | (refine SBool.mk (fun h => ?_) (fun h => ?_) <;> conv => whnf)
                | (refine SEx.mk _ (by first | exact dd) ?_; conv => whnf)
                | (refine SEx.mk _ (by first | exact rfl | exact ⟨of_decide_eq_true rfl, rfl⟩) ?_; conv => whnf)
                | (refine SAll.mk (fun _ => ?_); conv => whnf)
                | (refine SAnd.mk ⟨by intro c hc; simp at hc; first | (subst hc; rfl) | ((repeat' (rcases hc with rfl | hc)) <;> first | rfl | (subst hc; rfl)), by (simp; first | done | omega), by (simp; first | done | omega)⟩ ?_; conv => whnf)
                | (refine SAnd.mk (by first | exact rfl | kernel_rfl | omega | decide | exact dd) ?_; conv => whnf)
                | fail)
              have hB : recB q = false := by
                unfold recB
                rw [hb']
                simp
              have hE : recE q = 2 := by unfold recE; rw [hB]; rfl
              exact ⟨PLe.of_eq (by unfold recV recL; rw [hE]; rfl)⟩
    · as_aux_lemma =>
        obtain ⟨x0, x1, x2, x3, d1, d2, d3, d4, m0, m1, m2, m3, p0, p1, p2, p3, e⟩ := chain q hq pos neg pos neg
        have e : d4 = D q 2 := e
        have dd := divided_pure d4 4 (by decide)
        conv => whnf
        repeat' (first
          | (refine codeK_sound good (mu := []) ?_; conv => whnf)
          | ((first | rw [wl0] | rw [wl1] | rw [wl2] | rw [wl3] | rw [wl4] | rw [wl5]); conv => whnf)
          | (refine SBool.mk (fun _ => ?_) (fun h => absurd (of_decide_eq_true rfl) h); conv => whnf)
          | (refine SBool.mk (fun h => absurd h (of_decide_eq_false rfl)) (fun _ => ?_); conv => whnf)
          | (refine SBool.mk (fun h => ?_) (fun h => ?_) <;> conv => whnf)
          | (refine SEx.mk _ (by first | exact rfl | exact ⟨of_decide_eq_true rfl, rfl⟩) ?_; conv => whnf)
          | (refine SAll.mk (fun _ => ?_); conv => whnf)
          | (refine SAnd.mk ⟨by intro c hc; simp at hc; first | (subst hc; rfl) | ((repeat' (rcases hc with rfl | hc)) <;> first | rfl | (subst hc; rfl)), by (simp; first | done | omega), by (simp; first | done | omega)⟩ ?_; conv => whnf)
          | (refine SAnd.mk (by first | exact rfl | kernel_rfl | omega | decide) ?_; conv => whnf)
          | fail)
        refine ⟨AWp.loop (ι := { t : Nat // t ≤ 4 }) (fun t => ⟨[(34, .p (I t.1)), (33, .p (.agg (qc q))), (11, .box 3 0), (10, .p (.fn 186 [.ref [I 1, I (-1), I 1, I (-1)]])), (9, .p (I 2)), (29, .p (I 2)), (28, .p fnsV), (8, .box 2 0), (3, .box 1 0), (2, .box 0 0), (1, .p (.ref (qc q)))], [(0, (32, [I 0, I 0, I 0, I 0, I 0, I 0])), (1, (23, [I 0, I 0])), (2, (213, outR q 2)), (3, (23, dn d1 d2 d3 d4 t.1))], [], 4, [], [], []⟩) (fun t => 4 - t.1) ⟨0, by omega⟩ ?_ ?_⟩
        · refine SLe.of [(0, 0), (1, 1), (2, 2), (3, 3)] [] rfl rfl ?_
          conv => whnf
          repeat' (first
          | exact True.intro
          | (refine SAnd.mk (PLe.of_eq (by simp only [wrapK]; rw [wrap_id (by first | omega | (simp only; done) | (simp only; omega) | simp) (by first | omega | (simp only; done) | (simp only; omega) | simp)]; simp)) ?_; conv => whnf)
          | (refine SAnd.mk (PLe.refl _) ?_; conv => whnf)
          | (refine SAnd.mk (PLeL.refl _) ?_; conv => whnf)
          | (refine SAnd.mk (PLe.of_eq (by simp)) ?_; conv => whnf)
          | (refine SAnd.mk rfl ?_; conv => whnf)
          | (refine SAnd.mk ⟨rfl, rfl⟩ ?_; conv => whnf)
          | (refine SAnd.mk ⟨rfl, rfl, rfl⟩ ?_; conv => whnf))
        · rintro ⟨t, ht⟩
          rcases le4 ht with rfl | rfl | rfl | rfl | rfl
          · skip
            conv => whnf
            repeat' (first
              | (refine codeK_sound good (mu := []) ?_; conv => whnf)
              | ((first | rw [wl0] | rw [wl1] | rw [wl2] | rw [wl3] | rw [wl4] | rw [wl5]); conv => whnf)
              | (refine SBool.mk (fun _ => ?_) (fun h => absurd (of_decide_eq_true rfl) h); conv => whnf)
              | (refine SBool.mk (fun h => absurd h (of_decide_eq_false rfl)) (fun _ => ?_); conv => whnf)
              | (refine SBool.mk (fun h => ?_) (fun h => ?_) <;> conv => whnf)
              | (refine SEx.mk _ (by first | exact r186_0 | exact m0 | exact p0) ?_; conv => whnf)
              | (refine SEx.mk _ (by first | exact rfl | exact ⟨of_decide_eq_true rfl, rfl⟩) ?_; conv => whnf)
              | (refine SAll.mk (fun _ => ?_); conv => whnf)
              | (refine SAnd.mk ⟨by intro c hc; simp at hc; first | (subst hc; rfl) | ((repeat' (rcases hc with rfl | hc)) <;> first | rfl | (subst hc; rfl)), by (simp; first | done | omega), by (simp; first | done | omega)⟩ ?_; conv => whnf)
              | (refine SAnd.mk (by first | exact rfl | kernel_rfl | omega | decide | exact r186_0 | exact m0 | exact p0) ?_; conv => whnf)
              | fail)
            refine ⟨⟨1, by omega⟩, by simp only; omega, ?_⟩
            · refine SLe.of [(0, 0), (1, 1), (2, 2), (3, 3)] [] rfl rfl ?_
              conv => whnf
              repeat' (first
              | exact True.intro
              | (refine SAnd.mk (PLe.of_eq (by simp only [wrapK]; rw [wrap_id (by first | omega | (simp only; done) | (simp only; omega) | simp) (by first | omega | (simp only; done) | (simp only; omega) | simp)]; simp)) ?_; conv => whnf)
              | (refine SAnd.mk (PLe.refl _) ?_; conv => whnf)
              | (refine SAnd.mk (PLeL.refl _) ?_; conv => whnf)
              | (refine SAnd.mk (PLe.of_eq (by simp)) ?_; conv => whnf)
              | (refine SAnd.mk rfl ?_; conv => whnf)
              | (refine SAnd.mk ⟨rfl, rfl⟩ ?_; conv => whnf)
              | (refine SAnd.mk ⟨rfl, rfl, rfl⟩ ?_; conv => whnf))
          · skip
            conv => whnf
            repeat' (first
              | (refine codeK_sound good (mu := []) ?_; conv => whnf)
              | ((first | rw [wl0] | rw [wl1] | rw [wl2] | rw [wl3] | rw [wl4] | rw [wl5]); conv => whnf)
              | (refine SBool.mk (fun _ => ?_) (fun h => absurd (of_decide_eq_true rfl) h); conv => whnf)
              | (refine SBool.mk (fun h => absurd h (of_decide_eq_false rfl)) (fun _ => ?_); conv => whnf)
              | (refine SBool.mk (fun h => ?_) (fun h => ?_) <;> conv => whnf)
              | (refine SEx.mk _ (by first | exact r186_1 | exact m1 | exact p1) ?_; conv => whnf)
              | (refine SEx.mk _ (by first | exact rfl | exact ⟨of_decide_eq_true rfl, rfl⟩) ?_; conv => whnf)
              | (refine SAll.mk (fun _ => ?_); conv => whnf)
              | (refine SAnd.mk ⟨by intro c hc; simp at hc; first | (subst hc; rfl) | ((repeat' (rcases hc with rfl | hc)) <;> first | rfl | (subst hc; rfl)), by (simp; first | done | omega), by (simp; first | done | omega)⟩ ?_; conv => whnf)
              | (refine SAnd.mk (by first | exact rfl | kernel_rfl | omega | decide | exact r186_1 | exact m1 | exact p1) ?_; conv => whnf)
              | fail)
            refine ⟨⟨2, by omega⟩, by simp only; omega, ?_⟩
            · refine SLe.of [(0, 0), (1, 1), (2, 2), (3, 3)] [] rfl rfl ?_
              conv => whnf
              repeat' (first
              | exact True.intro
              | (refine SAnd.mk (PLe.of_eq (by simp only [wrapK]; rw [wrap_id (by first | omega | (simp only; done) | (simp only; omega) | simp) (by first | omega | (simp only; done) | (simp only; omega) | simp)]; simp)) ?_; conv => whnf)
              | (refine SAnd.mk (PLe.refl _) ?_; conv => whnf)
              | (refine SAnd.mk (PLeL.refl _) ?_; conv => whnf)
              | (refine SAnd.mk (PLe.of_eq (by simp)) ?_; conv => whnf)
              | (refine SAnd.mk rfl ?_; conv => whnf)
              | (refine SAnd.mk ⟨rfl, rfl⟩ ?_; conv => whnf)
              | (refine SAnd.mk ⟨rfl, rfl, rfl⟩ ?_; conv => whnf))
          · skip
            conv => whnf
            repeat' (first
              | (refine codeK_sound good (mu := []) ?_; conv => whnf)
              | ((first | rw [wl0] | rw [wl1] | rw [wl2] | rw [wl3] | rw [wl4] | rw [wl5]); conv => whnf)
              | (refine SBool.mk (fun _ => ?_) (fun h => absurd (of_decide_eq_true rfl) h); conv => whnf)
              | (refine SBool.mk (fun h => absurd h (of_decide_eq_false rfl)) (fun _ => ?_); conv => whnf)
              | (refine SBool.mk (fun h => ?_) (fun h => ?_) <;> conv => whnf)
              | (refine SEx.mk _ (by first | exact r186_2 | exact m2 | exact p2) ?_; conv => whnf)
              | (refine SEx.mk _ (by first | exact rfl | exact ⟨of_decide_eq_true rfl, rfl⟩) ?_; conv => whnf)
              | (refine SAll.mk (fun _ => ?_); conv => whnf)
              | (refine SAnd.mk ⟨by intro c hc; simp at hc; first | (subst hc; rfl) | ((repeat' (rcases hc with rfl | hc)) <;> first | rfl | (subst hc; rfl)), by (simp; first | done | omega), by (simp; first | done | omega)⟩ ?_; conv => whnf)
              | (refine SAnd.mk (by first | exact rfl | kernel_rfl | omega | decide | exact r186_2 | exact m2 | exact p2) ?_; conv => whnf)
              | fail)
            refine ⟨⟨3, by omega⟩, by simp only; omega, ?_⟩
            · refine SLe.of [(0, 0), (1, 1), (2, 2), (3, 3)] [] rfl rfl ?_
              conv => whnf
              repeat' (first
              | exact True.intro
              | (refine SAnd.mk (PLe.of_eq (by simp only [wrapK]; rw [wrap_id (by first | omega | (simp only; done) | (simp only; omega) | simp) (by first | omega | (simp only; done) | (simp only; omega) | simp)]; simp)) ?_; conv => whnf)
              | (refine SAnd.mk (PLe.refl _) ?_; conv => whnf)
              | (refine SAnd.mk (PLeL.refl _) ?_; conv => whnf)
              | (refine SAnd.mk (PLe.of_eq (by simp)) ?_; conv => whnf)
              | (refine SAnd.mk rfl ?_; conv => whnf)
              | (refine SAnd.mk ⟨rfl, rfl⟩ ?_; conv => whnf)
              | (refine SAnd.mk ⟨rfl, rfl, rfl⟩ ?_; conv => whnf))
          · skip
            conv => whnf
            repeat' (first
              | (refine codeK_sound good (mu := []) ?_; conv => whnf)
              | ((first | rw [wl0] | rw [wl1] | rw [wl2] | rw [wl3] | rw [wl4] | rw [wl5]); conv => whnf)
              | (refine SBool.mk (fun _ => ?_) (fun h => absurd (of_decide_eq_true rfl) h); conv => whnf)
              | (refine SBool.mk (fun h => absurd h (of_decide_eq_false rfl)) (fun _ => ?_); conv => whnf)
              | (refine SBool.mk (fun h => ?_) (fun h => ?_) <;> conv => whnf)
              | (refine SEx.mk _ (by first | exact r186_3 | exact m3 | exact p3) ?_; conv => whnf)
              | (refine SEx.mk _ (by first | exact rfl | exact ⟨of_decide_eq_true rfl, rfl⟩) ?_; conv => whnf)
              | (refine SAll.mk (fun _ => ?_); conv => whnf)
              | (refine SAnd.mk ⟨by intro c hc; simp at hc; first | (subst hc; rfl) | ((repeat' (rcases hc with rfl | hc)) <;> first | rfl | (subst hc; rfl)), by (simp; first | done | omega), by (simp; first | done | omega)⟩ ?_; conv => whnf)
              | (refine SAnd.mk (by first | exact rfl | kernel_rfl | omega | decide | exact r186_3 | exact m3 | exact p3) ?_; conv => whnf)
              | fail)
            refine ⟨⟨4, by omega⟩, by simp only; omega, ?_⟩
            · refine SLe.of [(0, 0), (1, 1), (2, 2), (3, 3)] [] rfl rfl ?_
              conv => whnf
              repeat' (first
              | exact True.intro
              | (refine SAnd.mk (PLe.of_eq (by simp only [wrapK]; rw [wrap_id (by first | omega | (simp only; done) | (simp only; omega) | simp) (by first | omega | (simp only; done) | (simp only; omega) | simp)]; simp)) ?_; conv => whnf)
              | (refine SAnd.mk (PLe.refl _) ?_; conv => whnf)
              | (refine SAnd.mk (PLeL.refl _) ?_; conv => whnf)
              | (refine SAnd.mk (PLe.of_eq (by simp)) ?_; conv => whnf)
              | (refine SAnd.mk rfl ?_; conv => whnf)
              | (refine SAnd.mk ⟨rfl, rfl⟩ ?_; conv => whnf)
              | (refine SAnd.mk ⟨rfl, rfl, rfl⟩ ?_; conv => whnf))
          · skip
            cases hb : divB d4 4 with
            | true =>
              rw [hb] at dd
              have hb' : db q 2 = true := by unfold db; rw [← e]; exact hb
              have e1 : dq q 2 = divG d4 4 := by unfold dq; rw [e]
              conv => whnf
              repeat' (first
                | (refine codeK_sound good (mu := []) ?_; conv => whnf)
                | ((first | rw [wl0] | rw [wl1] | rw [wl2] | rw [wl3] | rw [wl4] | rw [wl5]); conv => whnf)
                | (refine SBool.mk (fun _ => ?_) (fun h => absurd (of_decide_eq_true rfl) h); conv => whnf)
                | (refine SBool.mk (fun h => absurd h (of_decide_eq_false rfl)) (fun _ => ?_); conv => whnf)
                | (refine SBool.mk (fun h => ?_) (fun h => ?_) <;> conv => whnf)
                | (refine SEx.mk _ (by first | exact dd) ?_; conv => whnf)
                | (refine SEx.mk _ (by first | exact rfl | exact ⟨of_decide_eq_true rfl, rfl⟩) ?_; conv => whnf)
                | (refine SAll.mk (fun _ => ?_); conv => whnf)
                | (refine SAnd.mk ⟨by intro c hc; simp at hc; first | (subst hc; rfl) | ((repeat' (rcases hc with rfl | hc)) <;> first | rfl | (subst hc; rfl)), by (simp; first | done | omega), by (simp; first | done | omega)⟩ ?_; conv => whnf)
                | (refine SAnd.mk (by first | exact rfl | kernel_rfl | omega | decide | exact dd) ?_; conv => whnf)
                | fail)
              refine ⟨⟨3, by omega, fun j hj => by (rcases (by omega : j < 2 ∨ j = 2) with h | rfl); exact hall j h; exact hb'⟩, by simp only; omega, ?_⟩
              rw [← e1]
              · refine SLe.of [(0, 0), (1, 1), (2, 2)] [] rfl rfl ?_
                conv => whnf
                repeat' (first
                | exact True.intro
                | (refine SAnd.mk (PLe.of_eq (by simp only [wrapK]; rw [wrap_id (by first | omega | (simp only; done) | (simp only; omega) | simp) (by first | omega | (simp only; done) | (simp only; omega) | simp)]; simp)) ?_; conv => whnf)
                | (refine SAnd.mk (PLe.refl _) ?_; conv => whnf)
                | (refine SAnd.mk (PLeL.refl _) ?_; conv => whnf)
                | (refine SAnd.mk (PLe.of_eq (by simp)) ?_; conv => whnf)
                | (refine SAnd.mk rfl ?_; conv => whnf)
                | (refine SAnd.mk ⟨rfl, rfl⟩ ?_; conv => whnf)
                | (refine SAnd.mk ⟨rfl, rfl, rfl⟩ ?_; conv => whnf))
            | false =>
              rw [hb] at dd
              have hb' : db q 2 = false := by unfold db; rw [← e]; exact hb
              conv => whnf
              repeat' (first
                | (refine codeK_sound good (mu := []) ?_; conv => whnf)
                | ((first | rw [wl0] | rw [wl1] | rw [wl2] | rw [wl3] | rw [wl4] | rw [wl5]); conv => whnf)
                | (refine SBool.mk (fun _ => ?_) (fun h => absurd (of_decide_eq_true rfl) h); conv => whnf)
                | (refine SBool.mk (fun h => absurd h (of_decide_eq_false rfl)) (fun _ => ?_); conv => whnf)
                | (refine SBool.mk (fun h => ?_) (fun h => ?_) <;> conv => whnf)
                | (refine SEx.mk _ (by first | exact dd) ?_; conv => whnf)
                | (refine SEx.mk _ (by first | exact rfl | exact ⟨of_decide_eq_true rfl, rfl⟩) ?_; conv => whnf)
                | (refine SAll.mk (fun _ => ?_); conv => whnf)
                | (refine SAnd.mk ⟨by intro c hc; simp at hc; first | (subst hc; rfl) | ((repeat' (rcases hc with rfl | hc)) <;> first | rfl | (subst hc; rfl)), by (simp; first | done | omega), by (simp; first | done | omega)⟩ ?_; conv => whnf)
                | (refine SAnd.mk (by first | exact rfl | kernel_rfl | omega | decide | exact dd) ?_; conv => whnf)
                | fail)
              have hB : recB q = false := by
                unfold recB
                rw [hb']
                simp
              have hE : recE q = 2 := by unfold recE; rw [hB]; rfl
              exact ⟨PLe.of_eq (by unfold recV recL; rw [hE]; rfl)⟩
    · as_aux_lemma =>
        obtain ⟨x0, x1, x2, x3, d1, d2, d3, d4, m0, m1, m2, m3, p0, p1, p2, p3, e⟩ := chain q hq pos neg neg pos
        have e : d4 = D q 3 := e
        have dd := divided_pure d4 4 (by decide)
        conv => whnf
        repeat' (first
          | (refine codeK_sound good (mu := []) ?_; conv => whnf)
          | ((first | rw [wl0] | rw [wl1] | rw [wl2] | rw [wl3] | rw [wl4] | rw [wl5]); conv => whnf)
          | (refine SBool.mk (fun _ => ?_) (fun h => absurd (of_decide_eq_true rfl) h); conv => whnf)
          | (refine SBool.mk (fun h => absurd h (of_decide_eq_false rfl)) (fun _ => ?_); conv => whnf)
          | (refine SBool.mk (fun h => ?_) (fun h => ?_) <;> conv => whnf)
          | (refine SEx.mk _ (by first | exact rfl | exact ⟨of_decide_eq_true rfl, rfl⟩) ?_; conv => whnf)
          | (refine SAll.mk (fun _ => ?_); conv => whnf)
          | (refine SAnd.mk ⟨by intro c hc; simp at hc; first | (subst hc; rfl) | ((repeat' (rcases hc with rfl | hc)) <;> first | rfl | (subst hc; rfl)), by (simp; first | done | omega), by (simp; first | done | omega)⟩ ?_; conv => whnf)
          | (refine SAnd.mk (by first | exact rfl | kernel_rfl | omega | decide) ?_; conv => whnf)
          | fail)
        refine ⟨AWp.loop (ι := { t : Nat // t ≤ 4 }) (fun t => ⟨[(34, .p (I t.1)), (33, .p (.agg (qc q))), (11, .box 3 0), (10, .p (.fn 187 [.ref [I 1, I 1, I (-1), I (-1)], .ref [I 1, I (-1), I 1, I (-1)]])), (9, .p (I 3)), (29, .p (I 3)), (28, .p fnsV), (8, .box 2 0), (3, .box 1 0), (2, .box 0 0), (1, .p (.ref (qc q)))], [(0, (32, [I 0, I 0, I 0, I 0, I 0, I 0])), (1, (23, [I 0, I 0])), (2, (213, outR q 3)), (3, (23, dn d1 d2 d3 d4 t.1))], [], 4, [], [], []⟩) (fun t => 4 - t.1) ⟨0, by omega⟩ ?_ ?_⟩
        · refine SLe.of [(0, 0), (1, 1), (2, 2), (3, 3)] [] rfl rfl ?_
          conv => whnf
          repeat' (first
          | exact True.intro
          | (refine SAnd.mk (PLe.of_eq (by simp only [wrapK]; rw [wrap_id (by first | omega | (simp only; done) | (simp only; omega) | simp) (by first | omega | (simp only; done) | (simp only; omega) | simp)]; simp)) ?_; conv => whnf)
          | (refine SAnd.mk (PLe.refl _) ?_; conv => whnf)
          | (refine SAnd.mk (PLeL.refl _) ?_; conv => whnf)
          | (refine SAnd.mk (PLe.of_eq (by simp)) ?_; conv => whnf)
          | (refine SAnd.mk rfl ?_; conv => whnf)
          | (refine SAnd.mk ⟨rfl, rfl⟩ ?_; conv => whnf)
          | (refine SAnd.mk ⟨rfl, rfl, rfl⟩ ?_; conv => whnf))
        · rintro ⟨t, ht⟩
          rcases le4 ht with rfl | rfl | rfl | rfl | rfl
          · skip
            conv => whnf
            repeat' (first
              | (refine codeK_sound good (mu := []) ?_; conv => whnf)
              | ((first | rw [wl0] | rw [wl1] | rw [wl2] | rw [wl3] | rw [wl4] | rw [wl5]); conv => whnf)
              | (refine SBool.mk (fun _ => ?_) (fun h => absurd (of_decide_eq_true rfl) h); conv => whnf)
              | (refine SBool.mk (fun h => absurd h (of_decide_eq_false rfl)) (fun _ => ?_); conv => whnf)
              | (refine SBool.mk (fun h => ?_) (fun h => ?_) <;> conv => whnf)
              | (refine SEx.mk _ (by first | exact r187_0 | exact m0 | exact p0) ?_; conv => whnf)
              | (refine SEx.mk _ (by first | exact rfl | exact ⟨of_decide_eq_true rfl, rfl⟩) ?_; conv => whnf)
              | (refine SAll.mk (fun _ => ?_); conv => whnf)
              | (refine SAnd.mk ⟨by intro c hc; simp at hc; first | (subst hc; rfl) | ((repeat' (rcases hc with rfl | hc)) <;> first | rfl | (subst hc; rfl)), by (simp; first | done | omega), by (simp; first | done | omega)⟩ ?_; conv => whnf)
              | (refine SAnd.mk (by first | exact rfl | kernel_rfl | omega | decide | exact r187_0 | exact m0 | exact p0) ?_; conv => whnf)
              | fail)
            refine ⟨⟨1, by omega⟩, by simp only; omega, ?_⟩
            · refine SLe.of [(0, 0), (1, 1), (2, 2), (3, 3)] [] rfl rfl ?_
              conv => whnf
              repeat' (first
              | exact True.intro
              | (refine SAnd.mk (PLe.of_eq (by simp only [wrapK]; rw [wrap_id (by first | omega | (simp only; done) | (simp only; omega) | simp) (by first | omega | (simp only; done) | (simp only; omega) | simp)]; simp)) ?_; conv => whnf)
              | (refine SAnd.mk (PLe.refl _) ?_; conv => whnf)
              | (refine SAnd.mk (PLeL.refl _) ?_; conv => whnf)
              | (refine SAnd.mk (PLe.of_eq (by simp)) ?_; conv => whnf)
              | (refine SAnd.mk rfl ?_; conv => whnf)
              | (refine SAnd.mk ⟨rfl, rfl⟩ ?_; conv => whnf)
              | (refine SAnd.mk ⟨rfl, rfl, rfl⟩ ?_; conv => whnf))
          · skip
            conv => whnf
            repeat' (first
              | (refine codeK_sound good (mu := []) ?_; conv => whnf)
              | ((first | rw [wl0] | rw [wl1] | rw [wl2] | rw [wl3] | rw [wl4] | rw [wl5]); conv => whnf)
              | (refine SBool.mk (fun _ => ?_) (fun h => absurd (of_decide_eq_true rfl) h); conv => whnf)
              | (refine SBool.mk (fun h => absurd h (of_decide_eq_false rfl)) (fun _ => ?_); conv => whnf)
              | (refine SBool.mk (fun h => ?_) (fun h => ?_) <;> conv => whnf)
              | (refine SEx.mk _ (by first | exact r187_1 | exact m1 | exact p1) ?_; conv => whnf)
              | (refine SEx.mk _ (by first | exact rfl | exact ⟨of_decide_eq_true rfl, rfl⟩) ?_; conv => whnf)
              | (refine SAll.mk (fun _ => ?_); conv => whnf)
              | (refine SAnd.mk ⟨by intro c hc; simp at hc; first | (subst hc; rfl) | ((repeat' (rcases hc with rfl | hc)) <;> first | rfl | (subst hc; rfl)), by (simp; first | done | omega), by (simp; first | done | omega)⟩ ?_; conv => whnf)
              | (refine SAnd.mk (by first | exact rfl | kernel_rfl | omega | decide | exact r187_1 | exact m1 | exact p1) ?_; conv => whnf)
              | fail)
            refine ⟨⟨2, by omega⟩, by simp only; omega, ?_⟩
            · refine SLe.of [(0, 0), (1, 1), (2, 2), (3, 3)] [] rfl rfl ?_
              conv => whnf
              repeat' (first
              | exact True.intro
              | (refine SAnd.mk (PLe.of_eq (by simp only [wrapK]; rw [wrap_id (by first | omega | (simp only; done) | (simp only; omega) | simp) (by first | omega | (simp only; done) | (simp only; omega) | simp)]; simp)) ?_; conv => whnf)
              | (refine SAnd.mk (PLe.refl _) ?_; conv => whnf)
              | (refine SAnd.mk (PLeL.refl _) ?_; conv => whnf)
              | (refine SAnd.mk (PLe.of_eq (by simp)) ?_; conv => whnf)
              | (refine SAnd.mk rfl ?_; conv => whnf)
              | (refine SAnd.mk ⟨rfl, rfl⟩ ?_; conv => whnf)
              | (refine SAnd.mk ⟨rfl, rfl, rfl⟩ ?_; conv => whnf))
          · skip
            conv => whnf
            repeat' (first
              | (refine codeK_sound good (mu := []) ?_; conv => whnf)
              | ((first | rw [wl0] | rw [wl1] | rw [wl2] | rw [wl3] | rw [wl4] | rw [wl5]); conv => whnf)
              | (refine SBool.mk (fun _ => ?_) (fun h => absurd (of_decide_eq_true rfl) h); conv => whnf)
              | (refine SBool.mk (fun h => absurd h (of_decide_eq_false rfl)) (fun _ => ?_); conv => whnf)
              | (refine SBool.mk (fun h => ?_) (fun h => ?_) <;> conv => whnf)
              | (refine SEx.mk _ (by first | exact r187_2 | exact m2 | exact p2) ?_; conv => whnf)
              | (refine SEx.mk _ (by first | exact rfl | exact ⟨of_decide_eq_true rfl, rfl⟩) ?_; conv => whnf)
              | (refine SAll.mk (fun _ => ?_); conv => whnf)
              | (refine SAnd.mk ⟨by intro c hc; simp at hc; first | (subst hc; rfl) | ((repeat' (rcases hc with rfl | hc)) <;> first | rfl | (subst hc; rfl)), by (simp; first | done | omega), by (simp; first | done | omega)⟩ ?_; conv => whnf)
              | (refine SAnd.mk (by first | exact rfl | kernel_rfl | omega | decide | exact r187_2 | exact m2 | exact p2) ?_; conv => whnf)
              | fail)
            refine ⟨⟨3, by omega⟩, by simp only; omega, ?_⟩
            · refine SLe.of [(0, 0), (1, 1), (2, 2), (3, 3)] [] rfl rfl ?_
              conv => whnf
              repeat' (first
              | exact True.intro
              | (refine SAnd.mk (PLe.of_eq (by simp only [wrapK]; rw [wrap_id (by first | omega | (simp only; done) | (simp only; omega) | simp) (by first | omega | (simp only; done) | (simp only; omega) | simp)]; simp)) ?_; conv => whnf)
              | (refine SAnd.mk (PLe.refl _) ?_; conv => whnf)
              | (refine SAnd.mk (PLeL.refl _) ?_; conv => whnf)
              | (refine SAnd.mk (PLe.of_eq (by simp)) ?_; conv => whnf)
              | (refine SAnd.mk rfl ?_; conv => whnf)
              | (refine SAnd.mk ⟨rfl, rfl⟩ ?_; conv => whnf)
              | (refine SAnd.mk ⟨rfl, rfl, rfl⟩ ?_; conv => whnf))
          · skip
            conv => whnf
            repeat' (first
              | (refine codeK_sound good (mu := []) ?_; conv => whnf)
              | ((first | rw [wl0] | rw [wl1] | rw [wl2] | rw [wl3] | rw [wl4] | rw [wl5]); conv => whnf)
              | (refine SBool.mk (fun _ => ?_) (fun h => absurd (of_decide_eq_true rfl) h); conv => whnf)
              | (refine SBool.mk (fun h => absurd h (of_decide_eq_false rfl)) (fun _ => ?_); conv => whnf)
              | (refine SBool.mk (fun h => ?_) (fun h => ?_) <;> conv => whnf)
              | (refine SEx.mk _ (by first | exact r187_3 | exact m3 | exact p3) ?_; conv => whnf)
              | (refine SEx.mk _ (by first | exact rfl | exact ⟨of_decide_eq_true rfl, rfl⟩) ?_; conv => whnf)
              | (refine SAll.mk (fun _ => ?_); conv => whnf)
              | (refine SAnd.mk ⟨by intro c hc; simp at hc; first | (subst hc; rfl) | ((repeat' (rcases hc with rfl | hc)) <;> first | rfl | (subst hc; rfl)), by (simp; first | done | omega), by (simp; first | done | omega)⟩ ?_; conv => whnf)
              | (refine SAnd.mk (by first | exact rfl | kernel_rfl | omega | decide | exact r187_3 | exact m3 | exact p3) ?_; conv => whnf)
              | fail)
            refine ⟨⟨4, by omega⟩, by simp only; omega, ?_⟩
            · refine SLe.of [(0, 0), (1, 1), (2, 2), (3, 3)] [] rfl rfl ?_
              conv => whnf
              repeat' (first
              | exact True.intro
              | (refine SAnd.mk (PLe.of_eq (by simp only [wrapK]; rw [wrap_id (by first | omega | (simp only; done) | (simp only; omega) | simp) (by first | omega | (simp only; done) | (simp only; omega) | simp)]; simp)) ?_; conv => whnf)
              | (refine SAnd.mk (PLe.refl _) ?_; conv => whnf)
              | (refine SAnd.mk (PLeL.refl _) ?_; conv => whnf)
              | (refine SAnd.mk (PLe.of_eq (by simp)) ?_; conv => whnf)
              | (refine SAnd.mk rfl ?_; conv => whnf)
              | (refine SAnd.mk ⟨rfl, rfl⟩ ?_; conv => whnf)
              | (refine SAnd.mk ⟨rfl, rfl, rfl⟩ ?_; conv => whnf))
          · skip
            cases hb : divB d4 4 with
            | true =>
              rw [hb] at dd
              have hb' : db q 3 = true := by unfold db; rw [← e]; exact hb
              have e1 : dq q 3 = divG d4 4 := by unfold dq; rw [e]
              conv => whnf
              repeat' (first
                | (refine codeK_sound good (mu := []) ?_; conv => whnf)
                | ((first | rw [wl0] | rw [wl1] | rw [wl2] | rw [wl3] | rw [wl4] | rw [wl5]); conv => whnf)
                | (refine SBool.mk (fun _ => ?_) (fun h => absurd (of_decide_eq_true rfl) h); conv => whnf)
                | (refine SBool.mk (fun h => absurd h (of_decide_eq_false rfl)) (fun _ => ?_); conv => whnf)
                | (refine SBool.mk (fun h => ?_) (fun h => ?_) <;> conv => whnf)
                | (refine SEx.mk _ (by first | exact dd) ?_; conv => whnf)
                | (refine SEx.mk _ (by first | exact rfl | exact ⟨of_decide_eq_true rfl, rfl⟩) ?_; conv => whnf)
                | (refine SAll.mk (fun _ => ?_); conv => whnf)
                | (refine SAnd.mk ⟨by intro c hc; simp at hc; first | (subst hc; rfl) | ((repeat' (rcases hc with rfl | hc)) <;> first | rfl | (subst hc; rfl)), by (simp; first | done | omega), by (simp; first | done | omega)⟩ ?_; conv => whnf)
                | (refine SAnd.mk (by first | exact rfl | kernel_rfl | omega | decide | exact dd) ?_; conv => whnf)
                | fail)
              refine ⟨⟨4, by omega, fun j hj => by (rcases (by omega : j < 3 ∨ j = 3) with h | rfl); exact hall j h; exact hb'⟩, by simp only; omega, ?_⟩
              rw [← e1]
              · refine SLe.of [(0, 0), (1, 1), (2, 2)] [] rfl rfl ?_
                conv => whnf
                repeat' (first
                | exact True.intro
                | (refine SAnd.mk (PLe.of_eq (by simp only [wrapK]; rw [wrap_id (by first | omega | (simp only; done) | (simp only; omega) | simp) (by first | omega | (simp only; done) | (simp only; omega) | simp)]; simp)) ?_; conv => whnf)
                | (refine SAnd.mk (PLe.refl _) ?_; conv => whnf)
                | (refine SAnd.mk (PLeL.refl _) ?_; conv => whnf)
                | (refine SAnd.mk (PLe.of_eq (by simp)) ?_; conv => whnf)
                | (refine SAnd.mk rfl ?_; conv => whnf)
                | (refine SAnd.mk ⟨rfl, rfl⟩ ?_; conv => whnf)
                | (refine SAnd.mk ⟨rfl, rfl, rfl⟩ ?_; conv => whnf))
            | false =>
              rw [hb] at dd
              have hb' : db q 3 = false := by unfold db; rw [← e]; exact hb
              conv => whnf
              repeat' (first
                | (refine codeK_sound good (mu := []) ?_; conv => whnf)
                | ((first | rw [wl0] | rw [wl1] | rw [wl2] | rw [wl3] | rw [wl4] | rw [wl5]); conv => whnf)
                | (refine SBool.mk (fun _ => ?_) (fun h => absurd (of_decide_eq_true rfl) h); conv => whnf)
                | (refine SBool.mk (fun h => absurd h (of_decide_eq_false rfl)) (fun _ => ?_); conv => whnf)
                | (refine SBool.mk (fun h => ?_) (fun h => ?_) <;> conv => whnf)
                | (refine SEx.mk _ (by first | exact dd) ?_; conv => whnf)
                | (refine SEx.mk _ (by first | exact rfl | exact ⟨of_decide_eq_true rfl, rfl⟩) ?_; conv => whnf)
                | (refine SAll.mk (fun _ => ?_); conv => whnf)
                | (refine SAnd.mk ⟨by intro c hc; simp at hc; first | (subst hc; rfl) | ((repeat' (rcases hc with rfl | hc)) <;> first | rfl | (subst hc; rfl)), by (simp; first | done | omega), by (simp; first | done | omega)⟩ ?_; conv => whnf)
                | (refine SAnd.mk (by first | exact rfl | kernel_rfl | omega | decide | exact dd) ?_; conv => whnf)
                | fail)
              have hB : recB q = false := by
                unfold recB
                rw [hb']
                simp
              have hE : recE q = 2 := by unfold recE; rw [hB]; rfl
              exact ⟨PLe.of_eq (by unfold recV recL; rw [hE]; rfl)⟩
    · as_aux_lemma =>
        have hB : recB q = true := by
          unfold recB
          rw [hall 0 (by omega), hall 1 (by omega), hall 2 (by omega), hall 3 (by omega)]
          rfl
        have hE : recE q = madeE (recS q) := by unfold recE; rw [if_pos hB]
        conv => whnf
        repeat' (first
          | (refine codeK_sound good (mu := []) ?_; conv => whnf)
          | ((first | rw [wl0] | rw [wl1] | rw [wl2] | rw [wl3] | rw [wl4] | rw [wl5]); conv => whnf)
          | (refine SBool.mk (fun _ => ?_) (fun h => absurd (of_decide_eq_true rfl) h); conv => whnf)
          | (refine SBool.mk (fun h => absurd h (of_decide_eq_false rfl)) (fun _ => ?_); conv => whnf)
          | (refine SBool.mk (fun h => ?_) (fun h => ?_) <;> conv => whnf)
          | (refine SEx.mk _ (by first | exact made_pure (recS q)) ?_; conv => whnf)
          | (refine SEx.mk _ (by first | exact rfl | exact ⟨of_decide_eq_true rfl, rfl⟩) ?_; conv => whnf)
          | (refine SAll.mk (fun _ => ?_); conv => whnf)
          | (refine SAnd.mk ⟨by intro c hc; simp at hc; first | (subst hc; rfl) | ((repeat' (rcases hc with rfl | hc)) <;> first | rfl | (subst hc; rfl)), by (simp; first | done | omega), by (simp; first | done | omega)⟩ ?_; conv => whnf)
          | (refine SAnd.mk (by first | exact rfl | kernel_rfl | omega | decide | exact made_pure (recS q)) ?_; conv => whnf)
          | fail)
        · have e2 : recV q = madeS (recS q) := by unfold recV madeS; rw [hE, if_pos h]
          have e3 : recL q = dq q 3 := by unfold recL; rw [hE, if_pos h]
          exact ⟨PLe.of_eq (by rw [e2, e3, hE, h])⟩
        · have e2 : recV q = S0 := by unfold recV; rw [hE, if_neg h]
          have e3 : recL q = G0 := by unfold recL; rw [hE, if_neg h]
          exact ⟨PLe.of_eq (by rw [e2, e3, hE]; rfl)⟩
end Go.Proofs.Ab.Tone
end
section
/- Received and averaged panels. -/
set_option maxRecDepth 100000
set_option linter.unusedVariables false
set_option linter.unusedSimpArgs false
namespace Go.Proofs.Ab.Tone
open Go Go.RowKit Go.Proofs.Ab
theorem conv32 {x : Nat} {n : Int} (h : FInt .f32 x n) (hn : n.natAbs ≤ 1000000) : ∀ w, (convert 125 3 (.float .f32 x)).run C.P w = .ok (.int .i64 n) w :=
  fun w => run_convert_float_int w 125 3 .f32 .i64 x n (by kernel_rfl) (by kernel_rfl) (h.int (by omega) (by omega))
theorem integers_pure (p : Pn) (h : p.Is) : APure C 150 [.agg (pc p)] (.agg (p4 p)) := by
  have c0 := conv32 h.g0.re h.f0.re
  have c1 := conv32 h.g0.im h.f0.im
  have c2 := conv32 h.g1.re h.f1.re
  have c3 := conv32 h.g1.im h.f1.im
  have c4 := conv32 h.g2.re h.f2.re
  have c5 := conv32 h.g2.im h.f2.im
  have c6 := conv32 h.g3.re h.f3.re
  have c7 := conv32 h.g3.im h.f3.im
  refine APure.of_body good [] (fn := Tryz.f150) (by kernel_rfl) (by kernel_rfl) rfl rfl (by kernel_rfl) rfl (by kernel_rfl) ?_
  conv => whnf
  repeat' (first
    | (refine codeK_sound good (mu := []) ?_; conv => whnf)
    | ((first | rw [wl0] | rw [wl1] | rw [wl2] | rw [wl3] | rw [wl4] | rw [wl5]); conv => whnf)
    | (refine SBool.mk (fun _ => ?_) (fun h => absurd (of_decide_eq_true rfl) h); conv => whnf)
    | (refine SBool.mk (fun h => absurd h (of_decide_eq_false rfl)) (fun _ => ?_); conv => whnf)
    | (refine SBool.mk (fun h => ?_) (fun h => ?_) <;> conv => whnf)
    | refine SCode.mk (AWp.rounds 5 ?_)
    | (refine SEx.mk _ (by first | exact c0 | exact c1 | exact c2 | exact c3 | exact c4 | exact c5 | exact c6 | exact c7) ?_; conv => whnf)
    | (refine SEx.mk _ (by first | exact rfl | exact ⟨of_decide_eq_true rfl, rfl⟩) ?_; conv => whnf)
    | (refine SAll.mk (fun _ => ?_); conv => whnf)
    | (refine SAnd.mk ⟨by intro c hc; simp at hc; first | (subst hc; rfl) | ((repeat' (rcases hc with rfl | hc)) <;> first | rfl | (subst hc; rfl)), by (simp; first | done | omega), by (simp; first | done | omega)⟩ ?_; conv => whnf)
    | (refine SAnd.mk (by first | exact rfl | kernel_rfl | omega | decide | exact c0 | exact c1 | exact c2 | exact c3 | exact c4 | exact c5 | exact c6 | exact c7) ?_; conv => whnf)
    | fail)
  exact ⟨PLe.refl _⟩
theorem eqIn_c {x y x' y' : Nat} {a b : G} (hx : FG x y a) (hy : FG x' y' b) (k : Nat) (w : World) : (Op.equalIn (k + 1) 119 (.complex .f32 x y) (.complex .f32 x' y')).run C.P w = .ok (decide (a.re = b.re ∧ a.im = b.im)) w := by
  have hu : C.P.underlying 119 = some (.complex .f32) := by kernel_rfl
  rw [Op.equalIn]
  simp [run_underlying hu, floatEq_int hx.re hy.re, floatEq_int hx.im hy.im]
def samePn (p p' : Pn) : Prop := (p.a0.re = p'.a0.re ∧ p.a0.im = p'.a0.im) ∧ (p.a1.re = p'.a1.re ∧ p.a1.im = p'.a1.im) ∧ (p.a2.re = p'.a2.re ∧ p.a2.im = p'.a2.im) ∧ (p.a3.re = p'.a3.re ∧ p.a3.im = p'.a3.im)
instance (p p' : Pn) : Decidable (samePn p p') := by unfold samePn; infer_instance
theorem eqIn_panel (p p' : Pn) (h : p.Is) (h' : p'.Is) (k : Nat) (w : World) : (Op.equalIn (k + 2) 120 (.agg #[.complex .f32 p.x0 p.y0, .complex .f32 p.x1 p.y1, .complex .f32 p.x2 p.y2, .complex .f32 p.x3 p.y3]) (.agg #[.complex .f32 p'.x0 p'.y0, .complex .f32 p'.x1 p'.y1, .complex .f32 p'.x2 p'.y2, .complex .f32 p'.x3 p'.y3])).run C.P w = .ok (decide (samePn p p')) w := by
  have hu : C.P.underlying 120 = some (.array 4 119) := by kernel_rfl
  have hu2 : C.P.underlying 119 = some (.complex .f32) := by kernel_rfl
  have hi : C.P.info? 119 = some Tryz.t119 := by kernel_rfl
  have hc : C.P.cellsOf 119 = 1 := by kernel_rfl
  rw [run_equalIn_array w (k + 1) _ _ hu hi, hc]
  have e0 := eqIn_c h.g0 h'.g0 k w
  have e1 := eqIn_c h.g1 h'.g1 k w
  have e2 := eqIn_c h.g2 h'.g2 k w
  have e3 := eqIn_c h.g3 h'.g3 k w
  have pt : ∀ (xs : Array Value) (j : Nat) (v : Value), xs[j]? = some v → (part 119 xs j).run C.P w = .ok v w := fun xs j v hv => by
    simp [part, isAgg, run_underlying hu2, hv]
  have r4 : List.range 4 = [0, 1, 2, 3] := rfl
  rw [r4]
  unfold samePn
  by_cases q0 : p.a0.re = p'.a0.re ∧ p.a0.im = p'.a0.im
  · by_cases q1 : p.a1.re = p'.a1.re ∧ p.a1.im = p'.a1.im
    · by_cases q2 : p.a2.re = p'.a2.re ∧ p.a2.im = p'.a2.im
      · by_cases q3 : p.a3.re = p'.a3.re ∧ p.a3.im = p'.a3.im
        · simp only [q0, q1, q2, q3, decide_true, decide_false, and_self, true_and] at e0 e1 e2 e3 ⊢
          simp [Op.eqItems, pt, e0, e1, e2, e3]
        · simp only [q0, q1, q2, q3, decide_true, decide_false, and_self, true_and] at e0 e1 e2 e3 ⊢
          simp [Op.eqItems, pt, e0, e1, e2, e3]
      · simp only [q0, q1, q2, decide_true, decide_false, and_self, true_and, false_and, and_false] at e0 e1 e2 e3 ⊢
        simp [Op.eqItems, pt, e0, e1, e2, e3]
    · simp only [q0, q1, decide_true, decide_false, and_self, true_and, false_and, and_false] at e0 e1 e2 e3 ⊢
      simp [Op.eqItems, pt, e0, e1, e2, e3]
  · simp only [q0, decide_true, decide_false, and_self, true_and, false_and, and_false] at e0 e1 e2 e3 ⊢
    simp [Op.eqItems, pt, e0, e1, e2, e3]
theorem eq_panel (p p' : Pn) (h : p.Is) (h' : p'.Is) : EqAgg C 120 (pc p) (pc p') (decide (samePn p p')) := by
  intro x y w ok us vs hu hv
  obtain ⟨u1, us1, rfl, h1, hu⟩ := hu.uncons
  obtain ⟨u2, us2, rfl, h2, hu⟩ := hu.uncons
  obtain ⟨u3, us3, rfl, h3, hu⟩ := hu.uncons
  obtain ⟨u4, us4, rfl, h4, hu⟩ := hu.uncons
  obtain rfl := hu.unnil
  obtain ⟨v1, vs1, rfl, g1, hv⟩ := hv.uncons
  obtain ⟨v2, vs2, rfl, g2, hv⟩ := hv.uncons
  obtain ⟨v3, vs3, rfl, g3, hv⟩ := hv.uncons
  obtain ⟨v4, vs4, rfl, g4, hv⟩ := hv.uncons
  obtain rfl := hv.unnil
  cases h1; cases h2; cases h3; cases h4; cases g1; cases g2; cases g3; cases g4
  have hm : C.P.eqGuardType C.P.depth 120 = false := by kernel_rfl
  exact ⟨run_eqGuard_agg w _ 120 x y _ _ hm, run_eqGuard_agg w _ 120 x y _ _ hm, eqIn_panel p p' h h' 9998 w⟩
def P0 : Pn := ⟨0, 0, 0, 0, 0, 0, 0, 0, G0, G0, G0, G0⟩
theorem P0_is : P0.Is := ⟨⟨FInt.zero32, FInt.zero32⟩, ⟨FInt.zero32, FInt.zero32⟩, ⟨FInt.zero32, FInt.zero32⟩, ⟨FInt.zero32, FInt.zero32⟩, ⟨by decide, by decide⟩, ⟨by decide, by decide⟩, ⟨by decide, by decide⟩, ⟨by decide, by decide⟩⟩
def Pn.q (p : Pn) : Q4 := ⟨p.a0, p.a1, p.a2, p.a3⟩
def rcvE (p : Pn) : Int := if panelE p = 0 then if samePn p P0 then 6 else recE p.q else panelE p
def rcvV (p : Pn) : Sg := if rcvE p = 0 then recV p.q else S0
def rcvL (p : Pn) : G := if rcvE p = 0 then recL p.q else G0
theorem Received_pure (p : Pn) (hp : p.Is) : APure C 74 [.agg (pc p)] (.tup [.agg (sc (rcvV p)), .agg (gc (rcvL p)), I (rcvE p)]) := by
  have hr := received_pure p.q ⟨hp.f0, hp.f1, hp.f2, hp.f3⟩
  refine APure.of_body good [] (fn := Tryz.f74) (by kernel_rfl) (by kernel_rfl) rfl rfl (by kernel_rfl) rfl (by kernel_rfl) ?_
  conv => whnf
  repeat' (first
    | (refine codeK_sound good (mu := []) ?_; conv => whnf)
    | ((first | rw [wl0] | rw [wl1] | rw [wl2] | rw [wl3] | rw [wl4] | rw [wl5]); conv => whnf)
    | (refine SBool.mk (fun _ => ?_) (fun h => absurd (of_decide_eq_true rfl) h); conv => whnf)
    | (refine SBool.mk (fun h => absurd h (of_decide_eq_false rfl)) (fun _ => ?_); conv => whnf)
    | (refine SBool.mk (fun h => ?_) (fun h => ?_) <;> conv => whnf)
    | (refine SEx.mk _ (by first | exact checkPanel_pure p hp | exact nothing_pure | exact eq_panel p P0 hp P0_is | exact integers_pure p hp | exact hr) ?_; conv => whnf)
    | (refine SEx.mk _ (by first | exact rfl | exact ⟨of_decide_eq_true rfl, rfl⟩) ?_; conv => whnf)
    | (refine SAll.mk (fun _ => ?_); conv => whnf)
    | (refine SAnd.mk (by first | exact hr) ?_; conv => whnf)
    | (refine SAnd.mk ⟨by intro c hc; simp at hc; first | (subst hc; rfl) | ((repeat' (rcases hc with rfl | hc)) <;> first | rfl | (subst hc; rfl)), by (simp; first | done | omega), by (simp; first | done | omega)⟩ ?_; conv => whnf)
    | (refine SAnd.mk (by first | exact rfl | kernel_rfl | omega | decide | exact checkPanel_pure p hp | exact nothing_pure | exact eq_panel p P0 hp P0_is | exact integers_pure p hp | exact hr) ?_; conv => whnf)
    | fail)
  · have h0 : samePn p P0 := of_decide_eq_true (by assumption)
    have hE : rcvE p = 6 := by unfold rcvE; rw [if_pos (by assumption), if_pos h0]
    exact ⟨PLe.of_eq (by unfold rcvV rcvL; rw [hE]; rfl)⟩
  · rename_i hz
    have h0 : ¬ samePn p P0 := of_decide_eq_false (by simpa using h)
    have hE : rcvE p = recE p.q := by unfold rcvE; rw [if_pos hz, if_neg h0]
    have e2 : rcvV p = recV p.q := by
      unfold rcvV
      rw [hE]
      split
      · rfl
      · rename_i h; unfold recV; rw [if_neg h]
    have e3 : rcvL p = recL p.q := by
      unfold rcvL
      rw [hE]
      split
      · rfl
      · rename_i h; unfold recL; rw [if_neg h]
    exact ⟨PLe.of_eq (by rw [e2, e3, hE])⟩
  · have hE : rcvE p = panelE p := by unfold rcvE; rw [if_neg (by assumption)]
    have hE0 : ¬ rcvE p = 0 := by rw [hE]; assumption
    exact ⟨PLe.of_eq (by unfold rcvV rcvL; rw [if_neg hE0, if_neg hE0, hE]; rfl)⟩
theorem mapped152_pure (f : Pn → Int) (g : FuncId) (caps : List PV) (xs : List Pn) (hl : xs.length ≤ 1000000) (hm : ∀ x ∈ xs, APure C g (.agg (pc x) :: caps) (I (f x))) :
    APure C 152 [.seq 4 (xs.map pc), .fn g caps] (.seq 1 (xs.map fun x => [I (f x)])) := by
  refine APure.of_body good [] (fn := Tryz.f152) (by kernel_rfl) (by kernel_rfl) rfl rfl (by kernel_rfl) rfl (by kernel_rfl) ?_
  conv => whnf
  refine ⟨AWp.loop (ι := { k : Nat // k ≤ xs.length }) (fun k => ⟨[(10, .p (I k.1)), (9, .p (I xs.length)), (8, .p (.seq 4 (xs.map pc))), (5, .own 0), (1, .p (.fn g caps))], [], [(0, (29, 1, (xs.take k.1).map fun x => [I (f x)]))], 1, [], [], []⟩) (fun k => xs.length - k.1) ⟨0, by simp⟩ ?_ ?_⟩
  · refine SLe.row 5 29 1 ?_
    conv => whnf
    · refine SLe.of [] [(0, 0)] rfl rfl ?_
      conv => whnf
      repeat' (first
      | exact True.intro
      | (refine SAnd.mk (PLe.of_eq (by simp only [wrapK]; rw [wrap_id (by first | omega | (simp only; done) | (simp only; omega) | simp) (by first | omega | (simp only; done) | (simp only; omega) | simp)]; simp)) ?_; conv => whnf)
      | (refine SAnd.mk (PLe.refl _) ?_; conv => whnf)
      | (refine SAnd.mk (PLeL.refl _) ?_; conv => whnf)
      | (refine SAnd.mk (PLe.of_eq (by simp)) ?_; conv => whnf)
      | (refine SAnd.mk rfl ?_; conv => whnf)
      | (refine SAnd.mk ⟨rfl, rfl⟩ ?_; conv => whnf)
      | (refine SAnd.mk ⟨rfl, rfl, rfl⟩ ?_; conv => whnf))
  · rintro ⟨k, hk⟩
    conv => whnf
    repeat' (first
      | (refine codeK_sound good (mu := []) ?_; conv => whnf)
      | ((first | rw [wl0] | rw [wl1] | rw [wl2] | rw [wl3] | rw [wl4] | rw [wl5]); conv => whnf)
      | (refine SBool.mk (fun _ => ?_) (fun h => absurd (of_decide_eq_true rfl) h); conv => whnf)
      | (refine SBool.mk (fun h => absurd h (of_decide_eq_false rfl)) (fun _ => ?_); conv => whnf)
      | (refine SBool.mk (fun h => ?_) (fun h => ?_) <;> conv => whnf)
      | (refine SEx.mk _ (by first | exact rfl | exact ⟨of_decide_eq_true rfl, rfl⟩) ?_; conv => whnf)
      | (refine SAll.mk (fun _ => ?_); conv => whnf)
      | (refine SAnd.mk ⟨by intro c hc; simp at hc; first | (subst hc; rfl) | ((repeat' (rcases hc with rfl | hc)) <;> first | rfl | (subst hc; rfl)), by (simp; first | done | omega), by (simp; first | done | omega)⟩ ?_; conv => whnf)
      | (refine SAnd.mk (by first | exact rfl | kernel_rfl | omega | decide) ?_; conv => whnf)
      | fail)
    · have hkl : k < xs.length := by simpa using h
      refine SEx.mk (pc xs[k]) (by simp [hkl]) ?_
      conv => whnf
      refine SEx.mk _ (hm xs[k] (List.getElem_mem hkl)) ?_
      conv => whnf
      repeat' (first
        | (refine codeK_sound good (mu := []) ?_; conv => whnf)
        | ((first | rw [wl0] | rw [wl1] | rw [wl2] | rw [wl3] | rw [wl4] | rw [wl5]); conv => whnf)
        | (refine SBool.mk (fun _ => ?_) (fun h => absurd (of_decide_eq_true rfl) h); conv => whnf)
        | (refine SBool.mk (fun h => absurd h (of_decide_eq_false rfl)) (fun _ => ?_); conv => whnf)
        | (refine SBool.mk (fun h => ?_) (fun h => ?_) <;> conv => whnf)
        | (refine SEx.mk _ (by first | exact rfl | exact ⟨of_decide_eq_true rfl, rfl⟩) ?_; conv => whnf)
        | (refine SAll.mk (fun _ => ?_); conv => whnf)
        | (refine SAnd.mk ⟨by intro c hc; simp at hc; first | (subst hc; rfl) | ((repeat' (rcases hc with rfl | hc)) <;> first | rfl | (subst hc; rfl)), by (simp; first | done | omega), by (simp; first | done | omega)⟩ ?_; conv => whnf)
        | (refine SAnd.mk (by first | exact rfl | kernel_rfl | omega | decide) ?_; conv => whnf)
        | fail)
      refine ⟨⟨k + 1, by omega⟩, by simp only; omega, ?_⟩
      · refine SLe.of [] [(0, 2)] rfl rfl ?_
        conv => whnf
        repeat' (first
        | exact True.intro
        | (refine SAnd.mk ((take_map_succ hkl _).symm) ?_; conv => whnf)
        | (refine SAnd.mk (PLe.of_eq (by simp only [wrapK]; rw [wrap_id (by first | omega | (simp only; done) | (simp only; omega) | simp) (by first | omega | (simp only; done) | (simp only; omega) | simp)]; simp)) ?_; conv => whnf)
        | (refine SAnd.mk (PLe.refl _) ?_; conv => whnf)
        | (refine SAnd.mk (PLeL.refl _) ?_; conv => whnf)
        | (refine SAnd.mk (PLe.of_eq (by simp)) ?_; conv => whnf)
        | (refine SAnd.mk rfl ?_; conv => whnf)
        | (refine SAnd.mk ⟨rfl, rfl⟩ ?_; conv => whnf)
        | (refine SAnd.mk ⟨rfl, rfl, rfl⟩ ?_; conv => whnf))
    · have : k = xs.length := by simp at h; omega
      subst this
      exact ⟨PLe.of_eq (by simp)⟩
theorem mapped153_pure (xs : List Pn) (hl : xs.length ≤ 1000000) (hm : ∀ x ∈ xs, x.Is) :
    APure C 153 [.seq 4 (xs.map pc), .fn 150 []] (.seq 8 (xs.map p4)) := by
  refine APure.of_body good [] (fn := Tryz.f153) (by kernel_rfl) (by kernel_rfl) rfl rfl (by kernel_rfl) rfl (by kernel_rfl) ?_
  conv => whnf
  refine ⟨AWp.loop (ι := { k : Nat // k ≤ xs.length }) (fun k => ⟨[(10, .p (I k.1)), (9, .p (I xs.length)), (8, .p (.seq 4 (xs.map pc))), (5, .own 0), (1, .p (.fn 150 []))], [], [(0, (213, 8, (xs.take k.1).map p4))], 1, [], [], []⟩) (fun k => xs.length - k.1) ⟨0, by simp⟩ ?_ ?_⟩
  · refine SLe.row 5 213 8 ?_
    conv => whnf
    · refine SLe.of [] [(0, 0)] rfl rfl ?_
      conv => whnf
      repeat' (first
      | exact True.intro
      | (refine SAnd.mk (PLe.of_eq (by simp only [wrapK]; rw [wrap_id (by first | omega | (simp only; done) | (simp only; omega) | simp) (by first | omega | (simp only; done) | (simp only; omega) | simp)]; simp)) ?_; conv => whnf)
      | (refine SAnd.mk (PLe.refl _) ?_; conv => whnf)
      | (refine SAnd.mk (PLeL.refl _) ?_; conv => whnf)
      | (refine SAnd.mk (PLe.of_eq (by simp)) ?_; conv => whnf)
      | (refine SAnd.mk rfl ?_; conv => whnf)
      | (refine SAnd.mk ⟨rfl, rfl⟩ ?_; conv => whnf)
      | (refine SAnd.mk ⟨rfl, rfl, rfl⟩ ?_; conv => whnf))
  · rintro ⟨k, hk⟩
    conv => whnf
    repeat' (first
      | (refine codeK_sound good (mu := []) ?_; conv => whnf)
      | ((first | rw [wl0] | rw [wl1] | rw [wl2] | rw [wl3] | rw [wl4] | rw [wl5]); conv => whnf)
      | (refine SBool.mk (fun _ => ?_) (fun h => absurd (of_decide_eq_true rfl) h); conv => whnf)
      | (refine SBool.mk (fun h => absurd h (of_decide_eq_false rfl)) (fun _ => ?_); conv => whnf)
      | (refine SBool.mk (fun h => ?_) (fun h => ?_) <;> conv => whnf)
      | (refine SEx.mk _ (by first | exact rfl | exact ⟨of_decide_eq_true rfl, rfl⟩) ?_; conv => whnf)
      | (refine SAll.mk (fun _ => ?_); conv => whnf)
      | (refine SAnd.mk ⟨by intro c hc; simp at hc; first | (subst hc; rfl) | ((repeat' (rcases hc with rfl | hc)) <;> first | rfl | (subst hc; rfl)), by (simp; first | done | omega), by (simp; first | done | omega)⟩ ?_; conv => whnf)
      | (refine SAnd.mk (by first | exact rfl | kernel_rfl | omega | decide) ?_; conv => whnf)
      | fail)
    · have hkl : k < xs.length := by simpa using h
      refine SEx.mk (pc xs[k]) (by simp [hkl]) ?_
      conv => whnf
      refine SEx.mk _ (integers_pure xs[k] (hm xs[k] (List.getElem_mem hkl))) ?_
      conv => whnf
      repeat' (first
        | (refine codeK_sound good (mu := []) ?_; conv => whnf)
        | ((first | rw [wl0] | rw [wl1] | rw [wl2] | rw [wl3] | rw [wl4] | rw [wl5]); conv => whnf)
        | (refine SBool.mk (fun _ => ?_) (fun h => absurd (of_decide_eq_true rfl) h); conv => whnf)
        | (refine SBool.mk (fun h => absurd h (of_decide_eq_false rfl)) (fun _ => ?_); conv => whnf)
        | (refine SBool.mk (fun h => ?_) (fun h => ?_) <;> conv => whnf)
        | (refine SEx.mk _ (by first | exact rfl | exact ⟨of_decide_eq_true rfl, rfl⟩) ?_; conv => whnf)
        | (refine SAll.mk (fun _ => ?_); conv => whnf)
        | (refine SAnd.mk ⟨by intro c hc; simp at hc; first | (subst hc; rfl) | ((repeat' (rcases hc with rfl | hc)) <;> first | rfl | (subst hc; rfl)), by (simp; first | done | omega), by (simp; first | done | omega)⟩ ?_; conv => whnf)
        | (refine SAnd.mk (by first | exact rfl | kernel_rfl | omega | decide) ?_; conv => whnf)
        | fail)
      refine ⟨⟨k + 1, by omega⟩, by simp only; omega, ?_⟩
      · refine SLe.of [] [(0, 2)] rfl rfl ?_
        conv => whnf
        repeat' (first
        | exact True.intro
        | (refine SAnd.mk ((take_map_succ hkl _).symm) ?_; conv => whnf)
        | (refine SAnd.mk (PLe.of_eq (by simp only [wrapK]; rw [wrap_id (by first | omega | (simp only; done) | (simp only; omega) | simp) (by first | omega | (simp only; done) | (simp only; omega) | simp)]; simp)) ?_; conv => whnf)
        | (refine SAnd.mk (PLe.refl _) ?_; conv => whnf)
        | (refine SAnd.mk (PLeL.refl _) ?_; conv => whnf)
        | (refine SAnd.mk (PLe.of_eq (by simp)) ?_; conv => whnf)
        | (refine SAnd.mk rfl ?_; conv => whnf)
        | (refine SAnd.mk ⟨rfl, rfl⟩ ?_; conv => whnf)
        | (refine SAnd.mk ⟨rfl, rfl, rfl⟩ ?_; conv => whnf))
    · have : k = xs.length := by simp at h; omega
      subst this
      exact ⟨PLe.of_eq (by simp)⟩
end Go.Proofs.Ab.Tone
end
section
/- The mean of panels. -/
set_option maxRecDepth 100000
set_option linter.unusedVariables false
set_option linter.unusedSimpArgs false
namespace Go.Proofs.Ab.Tone
open Go Go.RowKit Go.Proofs.Ab
def Q4.add (a b : Q4) : Q4 := ⟨a.a0.add b.a0, a.a1.add b.a1, a.a2.add b.a2, a.a3.add b.a3⟩
def Q0 : Q4 := ⟨G0, G0, G0, G0⟩
def sumQ (xs : List Pn) (k : Nat) : Q4 := (xs.take k).foldl (fun a p => a.add p.q) Q0
theorem sumQ_succ {xs : List Pn} {k : Nat} (h : k < xs.length) : sumQ xs (k + 1) = (sumQ xs k).add xs[k].q := by
  unfold sumQ
  rw [List.take_succ_eq_append_getElem h, List.foldl_append]
  rfl
structure Q4.Fits (q : Q4) (m : Nat) : Prop where
  f0 : q.a0.Fit m
  f1 : q.a1.Fit m
  f2 : q.a2.Fit m
  f3 : q.a3.Fit m
theorem sumQ_fit {xs : List Pn} (hm : ∀ x ∈ xs, x.Is) : ∀ k, k ≤ xs.length → (sumQ xs k).Fits (k * 1000000)
  | 0, _ =>
    have z : (sumQ xs 0).a0.re.natAbs ≤ 0 * 1000000 := (Nat.zero_le _ : 0 ≤ 0 * 1000000)
    ⟨⟨z, z⟩, ⟨z, z⟩, ⟨z, z⟩, ⟨z, z⟩⟩
  | k + 1, hk => by
    have ih := sumQ_fit hm k (by omega)
    have hx := hm xs[k] (List.getElem_mem (by omega))
    rw [sumQ_succ (by omega)]
    exact ⟨ih.f0.add2 hx.f0 (by omega), ih.f1.add2 hx.f1 (by omega), ih.f2.add2 hx.f2 (by omega), ih.f3.add2 hx.f3 (by omega)⟩
def mixQ (a b : Q4) : Nat → List PV
  | 0 => qc a
  | 1 => [I b.a0.re, I b.a0.im, I a.a1.re, I a.a1.im, I a.a2.re, I a.a2.im, I a.a3.re, I a.a3.im]
  | 2 => [I b.a0.re, I b.a0.im, I b.a1.re, I b.a1.im, I a.a2.re, I a.a2.im, I a.a3.re, I a.a3.im]
  | 3 => [I b.a0.re, I b.a0.im, I b.a1.re, I b.a1.im, I b.a2.re, I b.a2.im, I a.a3.re, I a.a3.im]
  | _ => qc b
def Q4.divG (q : Q4) (n : Int) : Q4 := ⟨Tone.divG q.a0 n, Tone.divG q.a1 n, Tone.divG q.a2 n, Tone.divG q.a3 n⟩
def Q4.nth (q : Q4) : Nat → G
  | 0 => q.a0
  | 1 => q.a1
  | 2 => q.a2
  | _ => q.a3
def Q4.divB (q : Q4) (n : Int) : Bool := Tone.divB q.a0 n && Tone.divB q.a1 n && Tone.divB q.a2 n && Tone.divB q.a3 n
def pansE (xs : List Pn) : Int := firstOf [sizedE xs.length 64, firstOf (xs.map panelE)]
def avgQ (xs : List Pn) : Q4 := (sumQ xs xs.length).divG xs.length
def avgE (xs : List Pn) : Int := if pansE xs = 0 then if (sumQ xs xs.length).divB xs.length = true then recE (avgQ xs) else 2 else pansE xs
def avgV (xs : List Pn) : Sg := if avgE xs = 0 then recV (avgQ xs) else S0
def avgL (xs : List Pn) : G := if avgE xs = 0 then recL (avgQ xs) else G0
theorem tdiv_fit {n m : Int} {k : Nat} (hn : n.natAbs ≤ m.toNat * k) (hm : 0 < m) : (n.tdiv m).natAbs ≤ k := by
  have h1 : (n.tdiv m).natAbs = n.natAbs / m.natAbs := Int.natAbs_tdiv n m
  rw [h1]
  have h2 : m.natAbs = m.toNat := by omega
  rw [h2]
  have h3 : 0 < m.toNat := by omega
  calc n.natAbs / m.toNat ≤ m.toNat * k / m.toNat := Nat.div_le_div_right hn
    _ = k := Nat.mul_div_cancel_left k h3
theorem divG_fit {a : G} {m : Int} {k : Nat} (h : a.Fit (m.toNat * k)) (hm : 0 < m) (hk : k ≤ 1000000) : (divG a m).Fit k := by
  have h1 := tdiv_fit h.re hm
  have h2 := tdiv_fit h.im hm
  unfold divG
  constructor
  · simp only; rw [wrap_id (by omega) (by omega)]; exact h1
  · simp only; rw [wrap_id (by omega) (by omega)]; exact h2
theorem pansE_zero {xs : List Pn} : pansE xs = 0 → (xs ≠ [] ∧ xs.length ≤ 64) := by
  unfold pansE
  rw [firstOf_zero]
  rintro ⟨h1, _⟩
  unfold sizedE at h1
  split at h1
  · cases h1
  · split at h1
    · cases h1
    · rename_i h2 h3
      refine ⟨fun e => h2 (by rw [e]; rfl), by omega⟩
set_option maxHeartbeats 40000000 in
theorem Averaged_pure (xs : List Pn) (hl : xs.length ≤ 1000000) (hm : ∀ x ∈ xs, x.Is) : APure C 77 [.seq 4 (xs.map pc)] (.tup [.agg (sc (avgV xs)), .agg (gc (avgL xs)), I (avgE xs)]) := by
  have hp : APure C 98 [.seq 1 (xs.map fun x => [I (panelE x)])] (I (firstOf (xs.map panelE))) := firstM_pure panelE xs hl
  have hlen : ((xs.map pc).length : Int) = xs.length := by simp
  have hlen2 : ((xs.map p4).length : Int) = xs.length := by simp
  refine APure.of_body good [] (fn := Tryz.f77) (by kernel_rfl) (by kernel_rfl) rfl rfl (by kernel_rfl) rfl (by kernel_rfl) ?_
  conv => whnf
  repeat' (first
    | (refine codeK_sound good (mu := []) ?_; conv => whnf)
    | ((first | rw [wl0] | rw [wl1] | rw [wl2] | rw [wl3] | rw [wl4] | rw [wl5]); conv => whnf)
    | (refine SBool.mk (fun _ => ?_) (fun h => absurd (of_decide_eq_true rfl) h); conv => whnf)
    | (refine SBool.mk (fun h => absurd h (of_decide_eq_false rfl)) (fun _ => ?_); conv => whnf)
    | (refine SBool.mk (fun h => ?_) (fun h => ?_) <;> conv => whnf)
    | (refine SEx.mk _ (by first | exact rfl | exact ⟨of_decide_eq_true rfl, rfl⟩) ?_; conv => whnf)
    | (refine SAll.mk (fun _ => ?_); conv => whnf)
    | (refine SAnd.mk ⟨by intro c hc; simp at hc; first | (subst hc; rfl) | ((repeat' (rcases hc with rfl | hc)) <;> first | rfl | (subst hc; rfl)), by (simp; first | done | omega), by (simp; first | done | omega)⟩ ?_; conv => whnf)
    | (refine SAnd.mk (by first | exact rfl | kernel_rfl | omega | decide) ?_; conv => whnf)
    | fail)
  rw [hlen]
  conv => whnf
  repeat' (first
    | (refine codeK_sound good (mu := []) ?_; conv => whnf)
    | ((first | rw [wl0] | rw [wl1] | rw [wl2] | rw [wl3] | rw [wl4] | rw [wl5]); conv => whnf)
    | (refine SBool.mk (fun _ => ?_) (fun h => absurd (of_decide_eq_true rfl) h); conv => whnf)
    | (refine SBool.mk (fun h => absurd h (of_decide_eq_false rfl)) (fun _ => ?_); conv => whnf)
    | (refine SBool.mk (fun h => ?_) (fun h => ?_) <;> conv => whnf)
    | (refine SEx.mk _ (by first | exact sized_pure _ _ | exact mapped152_pure panelE 147 [] xs hl (fun x hx => checkPanel_pure x (hm x hx)) | exact hp | exact first2_pure _ _ | exact mapped153_pure xs hl hm) ?_; conv => whnf)
    | (refine SEx.mk _ (by first | exact rfl | exact ⟨of_decide_eq_true rfl, rfl⟩) ?_; conv => whnf)
    | (refine SAll.mk (fun _ => ?_); conv => whnf)
    | (refine SAnd.mk (by first | exact hp) ?_; conv => whnf)
    | (refine SAnd.mk ⟨by intro c hc; simp at hc; first | (subst hc; rfl) | ((repeat' (rcases hc with rfl | hc)) <;> first | rfl | (subst hc; rfl)), by (simp; first | done | omega), by (simp; first | done | omega)⟩ ?_; conv => whnf)
    | (refine SAnd.mk (by first | exact rfl | kernel_rfl | omega | decide | exact sized_pure _ _ | exact mapped152_pure panelE 147 [] xs hl (fun x hx => checkPanel_pure x (hm x hx)) | exact hp | exact first2_pure _ _ | exact mapped153_pure xs hl hm) ?_; conv => whnf)
    | fail)
  · have hz : pansE xs = 0 := h
    obtain ⟨hne, h64⟩ := pansE_zero hz
    have hpos : 0 < xs.length := List.length_pos_iff.2 hne
    rw [hlen2]
    conv => whnf
    repeat' (first
      | (refine codeK_sound good (mu := []) ?_; conv => whnf)
      | ((first | rw [wl0] | rw [wl1] | rw [wl2] | rw [wl3] | rw [wl4] | rw [wl5]); conv => whnf)
      | (refine SBool.mk (fun _ => ?_) (fun h => absurd (of_decide_eq_true rfl) h); conv => whnf)
      | (refine SBool.mk (fun h => absurd h (of_decide_eq_false rfl)) (fun _ => ?_); conv => whnf)
      | (refine SBool.mk (fun h => ?_) (fun h => ?_) <;> conv => whnf)
      | (refine SEx.mk _ (by first | exact rfl | exact ⟨of_decide_eq_true rfl, rfl⟩) ?_; conv => whnf)
      | (refine SAll.mk (fun _ => ?_); conv => whnf)
      | (refine SAnd.mk ⟨by intro c hc; simp at hc; first | (subst hc; rfl) | ((repeat' (rcases hc with rfl | hc)) <;> first | rfl | (subst hc; rfl)), by (simp; first | done | omega), by (simp; first | done | omega)⟩ ?_; conv => whnf)
      | (refine SAnd.mk (by first | exact rfl | kernel_rfl | omega | decide) ?_; conv => whnf)
      | fail)
    refine ⟨AWp.loop (ι := { k : Nat // k ≤ xs.length }) (fun k => ⟨[(32, .p (I k.1)), (31, .p (I xs.length)), (30, .p (.seq 8 (xs.map p4))), (7, .box 3 0), (6, .box 2 0), (3, .box 1 0), (2, .box 0 0), (0, .p (.seq 4 (xs.map pc)))], [(0, (32, [I 0, I 0, I 0, I 0, I 0, I 0])), (1, (23, [I 0, I 0])), (2, (213, qc (sumQ xs k.1))), (3, (213, qc Q0))], [], 4, [], [], []⟩) (fun k => xs.length - k.1) ⟨0, by simp⟩ ?_ ?_⟩
    · refine SLe.of [(0, 0), (1, 1), (2, 2), (3, 3)] [] rfl rfl ?_
      conv => whnf
      repeat' (first
      | exact True.intro
      | (refine SAnd.mk (PLe.of_eq (by simp only [wrapK]; rw [wrap_id (by first | omega | (simp only; done) | (simp only; omega) | simp) (by first | omega | (simp only; done) | (simp only; omega) | simp)]; simp)) ?_; conv => whnf)
      | (refine SAnd.mk (PLe.refl _) ?_; conv => whnf)
      | (refine SAnd.mk (PLeL.refl _) ?_; conv => whnf)
      | (refine SAnd.mk (PLe.of_eq (by simp)) ?_; conv => whnf)
      | (refine SAnd.mk rfl ?_; conv => whnf)
      | (refine SAnd.mk ⟨rfl, rfl⟩ ?_; conv => whnf)
      | (refine SAnd.mk ⟨rfl, rfl, rfl⟩ ?_; conv => whnf))
    · rintro ⟨k, hk⟩
      conv => whnf
      repeat' (first
        | (refine codeK_sound good (mu := []) ?_; conv => whnf)
        | ((first | rw [wl0] | rw [wl1] | rw [wl2] | rw [wl3] | rw [wl4] | rw [wl5]); conv => whnf)
        | (refine SBool.mk (fun _ => ?_) (fun h => absurd (of_decide_eq_true rfl) h); conv => whnf)
        | (refine SBool.mk (fun h => absurd h (of_decide_eq_false rfl)) (fun _ => ?_); conv => whnf)
        | (refine SBool.mk (fun h => ?_) (fun h => ?_) <;> conv => whnf)
        | (refine SEx.mk _ (by first | exact rfl | exact ⟨of_decide_eq_true rfl, rfl⟩) ?_; conv => whnf)
        | (refine SAll.mk (fun _ => ?_); conv => whnf)
        | (refine SAnd.mk ⟨by intro c hc; simp at hc; first | (subst hc; rfl) | ((repeat' (rcases hc with rfl | hc)) <;> first | rfl | (subst hc; rfl)), by (simp; first | done | omega), by (simp; first | done | omega)⟩ ?_; conv => whnf)
        | (refine SAnd.mk (by first | exact rfl | kernel_rfl | omega | decide) ?_; conv => whnf)
        | fail)
      · have hkl : k < xs.length := by simpa using h
        have hx := hm xs[k] (List.getElem_mem hkl)
        have hf := sumQ_fit hm k hk
        have hkb : k * 1000000 ≤ 64000000 := by omega
        refine SEx.mk (p4 xs[k]) (by simp [hkl]) ?_
        conv => whnf
        repeat' (first
          | (refine codeK_sound good (mu := []) ?_; conv => whnf)
          | ((first | rw [wl0] | rw [wl1] | rw [wl2] | rw [wl3] | rw [wl4] | rw [wl5]); conv => whnf)
          | (refine SBool.mk (fun _ => ?_) (fun h => absurd (of_decide_eq_true rfl) h); conv => whnf)
          | (refine SBool.mk (fun h => absurd h (of_decide_eq_false rfl)) (fun _ => ?_); conv => whnf)
          | (refine SBool.mk (fun h => ?_) (fun h => ?_) <;> conv => whnf)
          | (refine SEx.mk _ (by first | exact rfl | exact ⟨of_decide_eq_true rfl, rfl⟩) ?_; conv => whnf)
          | (refine SAll.mk (fun _ => ?_); conv => whnf)
          | (refine SAnd.mk ⟨by intro c hc; simp at hc; first | (subst hc; rfl) | ((repeat' (rcases hc with rfl | hc)) <;> first | rfl | (subst hc; rfl)), by (simp; first | done | omega), by (simp; first | done | omega)⟩ ?_; conv => whnf)
          | (refine SAnd.mk (by first | exact rfl | kernel_rfl | omega | decide) ?_; conv => whnf)
          | fail)
        generalize ha : sumQ xs k = a at hf
        obtain ⟨b, hb⟩ : ∃ b, b = a.add xs[k].q := ⟨_, rfl⟩
        have p0 : APure C 102 [.agg (gc a.a0), .agg (gc xs[k].a0)] (.agg (gc b.a0)) := by rw [hb]; exact addc _ _ (hf.f0.mono hkb) (hx.f0.mono (by decide))
        have p1 : APure C 102 [.agg (gc a.a1), .agg (gc xs[k].a1)] (.agg (gc b.a1)) := by rw [hb]; exact addc _ _ (hf.f1.mono hkb) (hx.f1.mono (by decide))
        have p2 : APure C 102 [.agg (gc a.a2), .agg (gc xs[k].a2)] (.agg (gc b.a2)) := by rw [hb]; exact addc _ _ (hf.f2.mono hkb) (hx.f2.mono (by decide))
        have p3 : APure C 102 [.agg (gc a.a3), .agg (gc xs[k].a3)] (.agg (gc b.a3)) := by rw [hb]; exact addc _ _ (hf.f3.mono hkb) (hx.f3.mono (by decide))
        refine ⟨AWp.loop (ι := { t : Nat // t ≤ 4 }) (fun t => ⟨[(37, .p (I t.1)), (36, .p (.agg (p4 xs[k]))), (32, .p (I k)), (31, .p (I xs.length)), (30, .p (.seq 8 (xs.map p4))), (7, .box 3 0), (6, .box 2 0), (3, .box 1 0), (2, .box 0 0), (0, .p (.seq 4 (xs.map pc)))], [(0, (32, [I 0, I 0, I 0, I 0, I 0, I 0])), (1, (23, [I 0, I 0])), (2, (213, mixQ a b t.1)), (3, (213, qc Q0))], [], 4, [], [], []⟩) (fun t => 4 - t.1) ⟨0, by omega⟩ ?_ ?_⟩
        · simp only [ha]
          · refine SLe.of [(0, 0), (1, 1), (2, 2), (3, 3)] [] rfl rfl ?_
            conv => whnf
            repeat' (first
            | exact True.intro
            | (refine SAnd.mk (PLe.of_eq (by simp only [wrapK]; rw [wrap_id (by first | omega | (simp only; done) | (simp only; omega) | simp) (by first | omega | (simp only; done) | (simp only; omega) | simp)]; simp)) ?_; conv => whnf)
            | (refine SAnd.mk (PLe.refl _) ?_; conv => whnf)
            | (refine SAnd.mk (PLeL.refl _) ?_; conv => whnf)
            | (refine SAnd.mk (PLe.of_eq (by simp)) ?_; conv => whnf)
            | (refine SAnd.mk rfl ?_; conv => whnf)
            | (refine SAnd.mk ⟨rfl, rfl⟩ ?_; conv => whnf)
            | (refine SAnd.mk ⟨rfl, rfl, rfl⟩ ?_; conv => whnf))
        · rintro ⟨t, ht⟩
          rcases le4 ht with rfl | rfl | rfl | rfl | rfl
          · skip
            conv => whnf
            repeat' (first
              | (refine codeK_sound good (mu := []) ?_; conv => whnf)
              | ((first | rw [wl0] | rw [wl1] | rw [wl2] | rw [wl3] | rw [wl4] | rw [wl5]); conv => whnf)
              | (refine SBool.mk (fun _ => ?_) (fun h => absurd (of_decide_eq_true rfl) h); conv => whnf)
              | (refine SBool.mk (fun h => absurd h (of_decide_eq_false rfl)) (fun _ => ?_); conv => whnf)
              | (refine SBool.mk (fun h => ?_) (fun h => ?_) <;> conv => whnf)
              | (refine SEx.mk _ (by first | exact p0) ?_; conv => whnf)
              | (refine SEx.mk _ (by first | exact rfl | exact ⟨of_decide_eq_true rfl, rfl⟩) ?_; conv => whnf)
              | (refine SAll.mk (fun _ => ?_); conv => whnf)
              | (refine SAnd.mk ⟨by intro c hc; simp at hc; first | (subst hc; rfl) | ((repeat' (rcases hc with rfl | hc)) <;> first | rfl | (subst hc; rfl)), by (simp; first | done | omega), by (simp; first | done | omega)⟩ ?_; conv => whnf)
              | (refine SAnd.mk (by first | exact rfl | kernel_rfl | omega | decide | exact p0) ?_; conv => whnf)
              | fail)
            refine ⟨⟨1, by omega⟩, by simp only; omega, ?_⟩
            · refine SLe.of [(0, 0), (1, 1), (2, 2), (3, 3)] [] rfl rfl ?_
              conv => whnf
              repeat' (first
              | exact True.intro
              | (refine SAnd.mk (PLe.of_eq (by simp only [wrapK]; rw [wrap_id (by first | omega | (simp only; done) | (simp only; omega) | simp) (by first | omega | (simp only; done) | (simp only; omega) | simp)]; simp)) ?_; conv => whnf)
              | (refine SAnd.mk (PLe.refl _) ?_; conv => whnf)
              | (refine SAnd.mk (PLeL.refl _) ?_; conv => whnf)
              | (refine SAnd.mk (PLe.of_eq (by simp)) ?_; conv => whnf)
              | (refine SAnd.mk rfl ?_; conv => whnf)
              | (refine SAnd.mk ⟨rfl, rfl⟩ ?_; conv => whnf)
              | (refine SAnd.mk ⟨rfl, rfl, rfl⟩ ?_; conv => whnf))
          · skip
            conv => whnf
            repeat' (first
              | (refine codeK_sound good (mu := []) ?_; conv => whnf)
              | ((first | rw [wl0] | rw [wl1] | rw [wl2] | rw [wl3] | rw [wl4] | rw [wl5]); conv => whnf)
              | (refine SBool.mk (fun _ => ?_) (fun h => absurd (of_decide_eq_true rfl) h); conv => whnf)
              | (refine SBool.mk (fun h => absurd h (of_decide_eq_false rfl)) (fun _ => ?_); conv => whnf)
              | (refine SBool.mk (fun h => ?_) (fun h => ?_) <;> conv => whnf)
              | (refine SEx.mk _ (by first | exact p1) ?_; conv => whnf)
              | (refine SEx.mk _ (by first | exact rfl | exact ⟨of_decide_eq_true rfl, rfl⟩) ?_; conv => whnf)
              | (refine SAll.mk (fun _ => ?_); conv => whnf)
              | (refine SAnd.mk ⟨by intro c hc; simp at hc; first | (subst hc; rfl) | ((repeat' (rcases hc with rfl | hc)) <;> first | rfl | (subst hc; rfl)), by (simp; first | done | omega), by (simp; first | done | omega)⟩ ?_; conv => whnf)
              | (refine SAnd.mk (by first | exact rfl | kernel_rfl | omega | decide | exact p1) ?_; conv => whnf)
              | fail)
            refine ⟨⟨2, by omega⟩, by simp only; omega, ?_⟩
            · refine SLe.of [(0, 0), (1, 1), (2, 2), (3, 3)] [] rfl rfl ?_
              conv => whnf
              repeat' (first
              | exact True.intro
              | (refine SAnd.mk (PLe.of_eq (by simp only [wrapK]; rw [wrap_id (by first | omega | (simp only; done) | (simp only; omega) | simp) (by first | omega | (simp only; done) | (simp only; omega) | simp)]; simp)) ?_; conv => whnf)
              | (refine SAnd.mk (PLe.refl _) ?_; conv => whnf)
              | (refine SAnd.mk (PLeL.refl _) ?_; conv => whnf)
              | (refine SAnd.mk (PLe.of_eq (by simp)) ?_; conv => whnf)
              | (refine SAnd.mk rfl ?_; conv => whnf)
              | (refine SAnd.mk ⟨rfl, rfl⟩ ?_; conv => whnf)
              | (refine SAnd.mk ⟨rfl, rfl, rfl⟩ ?_; conv => whnf))
          · skip
            conv => whnf
            repeat' (first
              | (refine codeK_sound good (mu := []) ?_; conv => whnf)
              | ((first | rw [wl0] | rw [wl1] | rw [wl2] | rw [wl3] | rw [wl4] | rw [wl5]); conv => whnf)
              | (refine SBool.mk (fun _ => ?_) (fun h => absurd (of_decide_eq_true rfl) h); conv => whnf)
              | (refine SBool.mk (fun h => absurd h (of_decide_eq_false rfl)) (fun _ => ?_); conv => whnf)
              | (refine SBool.mk (fun h => ?_) (fun h => ?_) <;> conv => whnf)
              | (refine SEx.mk _ (by first | exact p2) ?_; conv => whnf)
              | (refine SEx.mk _ (by first | exact rfl | exact ⟨of_decide_eq_true rfl, rfl⟩) ?_; conv => whnf)
              | (refine SAll.mk (fun _ => ?_); conv => whnf)
              | (refine SAnd.mk ⟨by intro c hc; simp at hc; first | (subst hc; rfl) | ((repeat' (rcases hc with rfl | hc)) <;> first | rfl | (subst hc; rfl)), by (simp; first | done | omega), by (simp; first | done | omega)⟩ ?_; conv => whnf)
              | (refine SAnd.mk (by first | exact rfl | kernel_rfl | omega | decide | exact p2) ?_; conv => whnf)
              | fail)
            refine ⟨⟨3, by omega⟩, by simp only; omega, ?_⟩
            · refine SLe.of [(0, 0), (1, 1), (2, 2), (3, 3)] [] rfl rfl ?_
              conv => whnf
              repeat' (first
              | exact True.intro
              | (refine SAnd.mk (PLe.of_eq (by simp only [wrapK]; rw [wrap_id (by first | omega | (simp only; done) | (simp only; omega) | simp) (by first | omega | (simp only; done) | (simp only; omega) | simp)]; simp)) ?_; conv => whnf)
              | (refine SAnd.mk (PLe.refl _) ?_; conv => whnf)
              | (refine SAnd.mk (PLeL.refl _) ?_; conv => whnf)
              | (refine SAnd.mk (PLe.of_eq (by simp)) ?_; conv => whnf)
              | (refine SAnd.mk rfl ?_; conv => whnf)
              | (refine SAnd.mk ⟨rfl, rfl⟩ ?_; conv => whnf)
              | (refine SAnd.mk ⟨rfl, rfl, rfl⟩ ?_; conv => whnf))
          · skip
            conv => whnf
            repeat' (first
              | (refine codeK_sound good (mu := []) ?_; conv => whnf)
              | ((first | rw [wl0] | rw [wl1] | rw [wl2] | rw [wl3] | rw [wl4] | rw [wl5]); conv => whnf)
              | (refine SBool.mk (fun _ => ?_) (fun h => absurd (of_decide_eq_true rfl) h); conv => whnf)
              | (refine SBool.mk (fun h => absurd h (of_decide_eq_false rfl)) (fun _ => ?_); conv => whnf)
              | (refine SBool.mk (fun h => ?_) (fun h => ?_) <;> conv => whnf)
              | (refine SEx.mk _ (by first | exact p3) ?_; conv => whnf)
              | (refine SEx.mk _ (by first | exact rfl | exact ⟨of_decide_eq_true rfl, rfl⟩) ?_; conv => whnf)
              | (refine SAll.mk (fun _ => ?_); conv => whnf)
              | (refine SAnd.mk ⟨by intro c hc; simp at hc; first | (subst hc; rfl) | ((repeat' (rcases hc with rfl | hc)) <;> first | rfl | (subst hc; rfl)), by (simp; first | done | omega), by (simp; first | done | omega)⟩ ?_; conv => whnf)
              | (refine SAnd.mk (by first | exact rfl | kernel_rfl | omega | decide | exact p3) ?_; conv => whnf)
              | fail)
            refine ⟨⟨4, by omega⟩, by simp only; omega, ?_⟩
            · refine SLe.of [(0, 0), (1, 1), (2, 2), (3, 3)] [] rfl rfl ?_
              conv => whnf
              repeat' (first
              | exact True.intro
              | (refine SAnd.mk (PLe.of_eq (by simp only [wrapK]; rw [wrap_id (by first | omega | (simp only; done) | (simp only; omega) | simp) (by first | omega | (simp only; done) | (simp only; omega) | simp)]; simp)) ?_; conv => whnf)
              | (refine SAnd.mk (PLe.refl _) ?_; conv => whnf)
              | (refine SAnd.mk (PLeL.refl _) ?_; conv => whnf)
              | (refine SAnd.mk (PLe.of_eq (by simp)) ?_; conv => whnf)
              | (refine SAnd.mk rfl ?_; conv => whnf)
              | (refine SAnd.mk ⟨rfl, rfl⟩ ?_; conv => whnf)
              | (refine SAnd.mk ⟨rfl, rfl, rfl⟩ ?_; conv => whnf))
          · skip
            conv => whnf
            repeat' (first
              | (refine codeK_sound good (mu := []) ?_; conv => whnf)
              | ((first | rw [wl0] | rw [wl1] | rw [wl2] | rw [wl3] | rw [wl4] | rw [wl5]); conv => whnf)
              | (refine SBool.mk (fun _ => ?_) (fun h => absurd (of_decide_eq_true rfl) h); conv => whnf)
              | (refine SBool.mk (fun h => absurd h (of_decide_eq_false rfl)) (fun _ => ?_); conv => whnf)
              | (refine SBool.mk (fun h => ?_) (fun h => ?_) <;> conv => whnf)
              | (refine SEx.mk _ (by first | exact rfl | exact ⟨of_decide_eq_true rfl, rfl⟩) ?_; conv => whnf)
              | (refine SAll.mk (fun _ => ?_); conv => whnf)
              | (refine SAnd.mk ⟨by intro c hc; simp at hc; first | (subst hc; rfl) | ((repeat' (rcases hc with rfl | hc)) <;> first | rfl | (subst hc; rfl)), by (simp; first | done | omega), by (simp; first | done | omega)⟩ ?_; conv => whnf)
              | (refine SAnd.mk (by first | exact rfl | kernel_rfl | omega | decide) ?_; conv => whnf)
              | fail)
            refine ⟨⟨k + 1, by omega⟩, by simp only; omega, ?_⟩
            have hs : sumQ xs (k + 1) = b := by rw [sumQ_succ hkl, ha, hb]
            simp only [hs]
            · refine SLe.of [(0, 0), (1, 1), (2, 2), (3, 3)] [] rfl rfl ?_
              conv => whnf
              repeat' (first
              | exact True.intro
              | (refine SAnd.mk (PLe.of_eq (by simp only [wrapK]; rw [wrap_id (by first | omega | (simp only; done) | (simp only; omega) | simp) (by first | omega | (simp only; done) | (simp only; omega) | simp)]; simp)) ?_; conv => whnf)
              | (refine SAnd.mk (PLe.refl _) ?_; conv => whnf)
              | (refine SAnd.mk (PLeL.refl _) ?_; conv => whnf)
              | (refine SAnd.mk (PLe.of_eq (by simp)) ?_; conv => whnf)
              | (refine SAnd.mk rfl ?_; conv => whnf)
              | (refine SAnd.mk ⟨rfl, rfl⟩ ?_; conv => whnf)
              | (refine SAnd.mk ⟨rfl, rfl, rfl⟩ ?_; conv => whnf))
      · have hke : k = xs.length := by simp at h; omega
        subst hke
        have hf := sumQ_fit hm xs.length (Nat.le_refl _)
        generalize ha : sumQ xs xs.length = a at hf
        have hn0 : ¬ (xs.length : Int) = 0 := by omega
        obtain ⟨b, hb⟩ : ∃ b, b = a.divG xs.length := ⟨_, rfl⟩
        have d0 : APure C 154 [.agg (gc a.a0), I xs.length] (.tup [.agg (gc b.a0), Bo (divB a.a0 xs.length)]) := by rw [hb]; exact divided_pure a.a0 xs.length hn0
        have d1 : APure C 154 [.agg (gc a.a1), I xs.length] (.tup [.agg (gc b.a1), Bo (divB a.a1 xs.length)]) := by rw [hb]; exact divided_pure a.a1 xs.length hn0
        have d2 : APure C 154 [.agg (gc a.a2), I xs.length] (.tup [.agg (gc b.a2), Bo (divB a.a2 xs.length)]) := by rw [hb]; exact divided_pure a.a2 xs.length hn0
        have d3 : APure C 154 [.agg (gc a.a3), I xs.length] (.tup [.agg (gc b.a3), Bo (divB a.a3 xs.length)]) := by rw [hb]; exact divided_pure a.a3 xs.length hn0
        have hfb : b.Fit := by
          rw [hb]
          have e : ((xs.length : Int)).toNat * 1000000 = xs.length * 1000000 := by simp
          exact ⟨divG_fit (by rw [e]; exact hf.f0) (by omega) (Nat.le_refl _), divG_fit (by rw [e]; exact hf.f1) (by omega) (Nat.le_refl _), divG_fit (by rw [e]; exact hf.f2) (by omega) (Nat.le_refl _), divG_fit (by rw [e]; exact hf.f3) (by omega) (Nat.le_refl _)⟩
        have hr := received_pure b hfb
        simp only [ha]
        refine ⟨AWp.loop (ι := { t : Nat // t ≤ 4 ∧ ∀ j, j < t → divB (a.nth j) xs.length = true }) (fun t => ⟨[(51, .p (I t.1)), (50, .p (.agg (qc a))), (7, .box 3 0), (3, .box 1 0), (2, .box 0 0), (0, .p (.seq 4 (xs.map pc)))], [(0, (32, [I 0, I 0, I 0, I 0, I 0, I 0])), (1, (23, [I 0, I 0])), (3, (213, mixQ Q0 b t.1))], [], 4, [], [], []⟩) (fun t => 4 - t.1) ⟨0, by omega, fun j hj => by omega⟩ ?_ ?_⟩
        · refine SLe.of [(0, 0), (1, 1), (3, 3)] [] rfl rfl ?_
          conv => whnf
          repeat' (first
          | exact True.intro
          | (refine SAnd.mk (PLe.of_eq (by simp only [wrapK]; rw [wrap_id (by first | omega | (simp only; done) | (simp only; omega) | simp) (by first | omega | (simp only; done) | (simp only; omega) | simp)]; simp)) ?_; conv => whnf)
          | (refine SAnd.mk (PLe.refl _) ?_; conv => whnf)
          | (refine SAnd.mk (PLeL.refl _) ?_; conv => whnf)
          | (refine SAnd.mk (PLe.of_eq (by simp)) ?_; conv => whnf)
          | (refine SAnd.mk rfl ?_; conv => whnf)
          | (refine SAnd.mk ⟨rfl, rfl⟩ ?_; conv => whnf)
          | (refine SAnd.mk ⟨rfl, rfl, rfl⟩ ?_; conv => whnf))
        · rintro ⟨t, ht, hall⟩
          rcases le4 ht with rfl | rfl | rfl | rfl | rfl
          · cases hd : divB a.a0 xs.length with
            | true =>
              rw [hd] at d0
              conv => whnf
              repeat' (first
                | (refine codeK_sound good (mu := []) ?_; conv => whnf)
                | ((first | rw [wl0] | rw [wl1] | rw [wl2] | rw [wl3] | rw [wl4] | rw [wl5]); conv => whnf)
                | (refine SBool.mk (fun _ => ?_) (fun h => absurd (of_decide_eq_true rfl) h); conv => whnf)
                | (refine SBool.mk (fun h => absurd h (of_decide_eq_false rfl)) (fun _ => ?_); conv => whnf)
                | (refine SBool.mk (fun h => ?_) (fun h => ?_) <;> conv => whnf)
                | (refine SEx.mk _ (by first | exact rfl | exact ⟨of_decide_eq_true rfl, rfl⟩) ?_; conv => whnf)
                | (refine SAll.mk (fun _ => ?_); conv => whnf)
                | (refine SAnd.mk ⟨by intro c hc; simp at hc; first | (subst hc; rfl) | ((repeat' (rcases hc with rfl | hc)) <;> first | rfl | (subst hc; rfl)), by (simp; first | done | omega), by (simp; first | done | omega)⟩ ?_; conv => whnf)
                | (refine SAnd.mk (by first | exact rfl | kernel_rfl | omega | decide) ?_; conv => whnf)
                | fail)
              rw [hlen]
              conv => whnf
              repeat' (first
                | (refine codeK_sound good (mu := []) ?_; conv => whnf)
                | ((first | rw [wl0] | rw [wl1] | rw [wl2] | rw [wl3] | rw [wl4] | rw [wl5]); conv => whnf)
                | (refine SBool.mk (fun _ => ?_) (fun h => absurd (of_decide_eq_true rfl) h); conv => whnf)
                | (refine SBool.mk (fun h => absurd h (of_decide_eq_false rfl)) (fun _ => ?_); conv => whnf)
                | (refine SBool.mk (fun h => ?_) (fun h => ?_) <;> conv => whnf)
                | (refine SEx.mk _ (by first | exact d0) ?_; conv => whnf)
                | (refine SEx.mk _ (by first | exact rfl | exact ⟨of_decide_eq_true rfl, rfl⟩) ?_; conv => whnf)
                | (refine SAll.mk (fun _ => ?_); conv => whnf)
                | (refine SAnd.mk ⟨by intro c hc; simp at hc; first | (subst hc; rfl) | ((repeat' (rcases hc with rfl | hc)) <;> first | rfl | (subst hc; rfl)), by (simp; first | done | omega), by (simp; first | done | omega)⟩ ?_; conv => whnf)
                | (refine SAnd.mk (by first | exact rfl | kernel_rfl | omega | decide | exact d0) ?_; conv => whnf)
                | fail)
              refine ⟨⟨1, by omega, fun j hj => by (rcases (by omega : j < 0 ∨ j = 0) with h | rfl); exact hall j h; exact hd⟩, by simp only; omega, ?_⟩
              · refine SLe.of [(0, 0), (1, 1), (3, 3)] [] rfl rfl ?_
                conv => whnf
                repeat' (first
                | exact True.intro
                | (refine SAnd.mk (PLe.of_eq (by simp only [wrapK]; rw [wrap_id (by first | omega | (simp only; done) | (simp only; omega) | simp) (by first | omega | (simp only; done) | (simp only; omega) | simp)]; simp)) ?_; conv => whnf)
                | (refine SAnd.mk (PLe.refl _) ?_; conv => whnf)
                | (refine SAnd.mk (PLeL.refl _) ?_; conv => whnf)
                | (refine SAnd.mk (PLe.of_eq (by simp)) ?_; conv => whnf)
                | (refine SAnd.mk rfl ?_; conv => whnf)
                | (refine SAnd.mk ⟨rfl, rfl⟩ ?_; conv => whnf)
                | (refine SAnd.mk ⟨rfl, rfl, rfl⟩ ?_; conv => whnf))
            | false =>
              rw [hd] at d0
              conv => whnf
              repeat' (first
                | (refine codeK_sound good (mu := []) ?_; conv => whnf)
                | ((first | rw [wl0] | rw [wl1] | rw [wl2] | rw [wl3] | rw [wl4] | rw [wl5]); conv => whnf)
                | (refine SBool.mk (fun _ => ?_) (fun h => absurd (of_decide_eq_true rfl) h); conv => whnf)
                | (refine SBool.mk (fun h => absurd h (of_decide_eq_false rfl)) (fun _ => ?_); conv => whnf)
                | (refine SBool.mk (fun h => ?_) (fun h => ?_) <;> conv => whnf)
                | (refine SEx.mk _ (by first | exact rfl | exact ⟨of_decide_eq_true rfl, rfl⟩) ?_; conv => whnf)
                | (refine SAll.mk (fun _ => ?_); conv => whnf)
                | (refine SAnd.mk ⟨by intro c hc; simp at hc; first | (subst hc; rfl) | ((repeat' (rcases hc with rfl | hc)) <;> first | rfl | (subst hc; rfl)), by (simp; first | done | omega), by (simp; first | done | omega)⟩ ?_; conv => whnf)
                | (refine SAnd.mk (by first | exact rfl | kernel_rfl | omega | decide) ?_; conv => whnf)
                | fail)
              rw [hlen]
              conv => whnf
              repeat' (first
                | (refine codeK_sound good (mu := []) ?_; conv => whnf)
                | ((first | rw [wl0] | rw [wl1] | rw [wl2] | rw [wl3] | rw [wl4] | rw [wl5]); conv => whnf)
                | (refine SBool.mk (fun _ => ?_) (fun h => absurd (of_decide_eq_true rfl) h); conv => whnf)
                | (refine SBool.mk (fun h => absurd h (of_decide_eq_false rfl)) (fun _ => ?_); conv => whnf)
                | (refine SBool.mk (fun h => ?_) (fun h => ?_) <;> conv => whnf)
                | (refine SEx.mk _ (by first | exact d0) ?_; conv => whnf)
                | (refine SEx.mk _ (by first | exact rfl | exact ⟨of_decide_eq_true rfl, rfl⟩) ?_; conv => whnf)
                | (refine SAll.mk (fun _ => ?_); conv => whnf)
                | (refine SAnd.mk ⟨by intro c hc; simp at hc; first | (subst hc; rfl) | ((repeat' (rcases hc with rfl | hc)) <;> first | rfl | (subst hc; rfl)), by (simp; first | done | omega), by (simp; first | done | omega)⟩ ?_; conv => whnf)
                | (refine SAnd.mk (by first | exact rfl | kernel_rfl | omega | decide | exact d0) ?_; conv => whnf)
                | fail)
              have hB : a.divB xs.length = false := by unfold Q4.divB; rw [hd]; simp
              have hE : avgE xs = 2 := by unfold avgE; rw [if_pos hz, ha, hB]; rfl
              exact ⟨PLe.of_eq (by unfold avgV avgL; rw [hE]; rfl)⟩
          · cases hd : divB a.a1 xs.length with
            | true =>
              rw [hd] at d1
              conv => whnf
              repeat' (first
                | (refine codeK_sound good (mu := []) ?_; conv => whnf)
                | ((first | rw [wl0] | rw [wl1] | rw [wl2] | rw [wl3] | rw [wl4] | rw [wl5]); conv => whnf)
                | (refine SBool.mk (fun _ => ?_) (fun h => absurd (of_decide_eq_true rfl) h); conv => whnf)
                | (refine SBool.mk (fun h => absurd h (of_decide_eq_false rfl)) (fun _ => ?_); conv => whnf)
                | (refine SBool.mk (fun h => ?_) (fun h => ?_) <;> conv => whnf)
                | (refine SEx.mk _ (by first | exact rfl | exact ⟨of_decide_eq_true rfl, rfl⟩) ?_; conv => whnf)
                | (refine SAll.mk (fun _ => ?_); conv => whnf)
                | (refine SAnd.mk ⟨by intro c hc; simp at hc; first | (subst hc; rfl) | ((repeat' (rcases hc with rfl | hc)) <;> first | rfl | (subst hc; rfl)), by (simp; first | done | omega), by (simp; first | done | omega)⟩ ?_; conv => whnf)
                | (refine SAnd.mk (by first | exact rfl | kernel_rfl | omega | decide) ?_; conv => whnf)
                | fail)
              rw [hlen]
              conv => whnf
              repeat' (first
                | (refine codeK_sound good (mu := []) ?_; conv => whnf)
                | ((first | rw [wl0] | rw [wl1] | rw [wl2] | rw [wl3] | rw [wl4] | rw [wl5]); conv => whnf)
                | (refine SBool.mk (fun _ => ?_) (fun h => absurd (of_decide_eq_true rfl) h); conv => whnf)
                | (refine SBool.mk (fun h => absurd h (of_decide_eq_false rfl)) (fun _ => ?_); conv => whnf)
                | (refine SBool.mk (fun h => ?_) (fun h => ?_) <;> conv => whnf)
                | (refine SEx.mk _ (by first | exact d1) ?_; conv => whnf)
                | (refine SEx.mk _ (by first | exact rfl | exact ⟨of_decide_eq_true rfl, rfl⟩) ?_; conv => whnf)
                | (refine SAll.mk (fun _ => ?_); conv => whnf)
                | (refine SAnd.mk ⟨by intro c hc; simp at hc; first | (subst hc; rfl) | ((repeat' (rcases hc with rfl | hc)) <;> first | rfl | (subst hc; rfl)), by (simp; first | done | omega), by (simp; first | done | omega)⟩ ?_; conv => whnf)
                | (refine SAnd.mk (by first | exact rfl | kernel_rfl | omega | decide | exact d1) ?_; conv => whnf)
                | fail)
              refine ⟨⟨2, by omega, fun j hj => by (rcases (by omega : j < 1 ∨ j = 1) with h | rfl); exact hall j h; exact hd⟩, by simp only; omega, ?_⟩
              · refine SLe.of [(0, 0), (1, 1), (3, 3)] [] rfl rfl ?_
                conv => whnf
                repeat' (first
                | exact True.intro
                | (refine SAnd.mk (PLe.of_eq (by simp only [wrapK]; rw [wrap_id (by first | omega | (simp only; done) | (simp only; omega) | simp) (by first | omega | (simp only; done) | (simp only; omega) | simp)]; simp)) ?_; conv => whnf)
                | (refine SAnd.mk (PLe.refl _) ?_; conv => whnf)
                | (refine SAnd.mk (PLeL.refl _) ?_; conv => whnf)
                | (refine SAnd.mk (PLe.of_eq (by simp)) ?_; conv => whnf)
                | (refine SAnd.mk rfl ?_; conv => whnf)
                | (refine SAnd.mk ⟨rfl, rfl⟩ ?_; conv => whnf)
                | (refine SAnd.mk ⟨rfl, rfl, rfl⟩ ?_; conv => whnf))
            | false =>
              rw [hd] at d1
              conv => whnf
              repeat' (first
                | (refine codeK_sound good (mu := []) ?_; conv => whnf)
                | ((first | rw [wl0] | rw [wl1] | rw [wl2] | rw [wl3] | rw [wl4] | rw [wl5]); conv => whnf)
                | (refine SBool.mk (fun _ => ?_) (fun h => absurd (of_decide_eq_true rfl) h); conv => whnf)
                | (refine SBool.mk (fun h => absurd h (of_decide_eq_false rfl)) (fun _ => ?_); conv => whnf)
                | (refine SBool.mk (fun h => ?_) (fun h => ?_) <;> conv => whnf)
                | (refine SEx.mk _ (by first | exact rfl | exact ⟨of_decide_eq_true rfl, rfl⟩) ?_; conv => whnf)
                | (refine SAll.mk (fun _ => ?_); conv => whnf)
                | (refine SAnd.mk ⟨by intro c hc; simp at hc; first | (subst hc; rfl) | ((repeat' (rcases hc with rfl | hc)) <;> first | rfl | (subst hc; rfl)), by (simp; first | done | omega), by (simp; first | done | omega)⟩ ?_; conv => whnf)
                | (refine SAnd.mk (by first | exact rfl | kernel_rfl | omega | decide) ?_; conv => whnf)
                | fail)
              rw [hlen]
              conv => whnf
              repeat' (first
                | (refine codeK_sound good (mu := []) ?_; conv => whnf)
                | ((first | rw [wl0] | rw [wl1] | rw [wl2] | rw [wl3] | rw [wl4] | rw [wl5]); conv => whnf)
                | (refine SBool.mk (fun _ => ?_) (fun h => absurd (of_decide_eq_true rfl) h); conv => whnf)
                | (refine SBool.mk (fun h => absurd h (of_decide_eq_false rfl)) (fun _ => ?_); conv => whnf)
                | (refine SBool.mk (fun h => ?_) (fun h => ?_) <;> conv => whnf)
                | (refine SEx.mk _ (by first | exact d1) ?_; conv => whnf)
                | (refine SEx.mk _ (by first | exact rfl | exact ⟨of_decide_eq_true rfl, rfl⟩) ?_; conv => whnf)
                | (refine SAll.mk (fun _ => ?_); conv => whnf)
                | (refine SAnd.mk ⟨by intro c hc; simp at hc; first | (subst hc; rfl) | ((repeat' (rcases hc with rfl | hc)) <;> first | rfl | (subst hc; rfl)), by (simp; first | done | omega), by (simp; first | done | omega)⟩ ?_; conv => whnf)
                | (refine SAnd.mk (by first | exact rfl | kernel_rfl | omega | decide | exact d1) ?_; conv => whnf)
                | fail)
              have hB : a.divB xs.length = false := by unfold Q4.divB; rw [hd]; simp
              have hE : avgE xs = 2 := by unfold avgE; rw [if_pos hz, ha, hB]; rfl
              exact ⟨PLe.of_eq (by unfold avgV avgL; rw [hE]; rfl)⟩
          · cases hd : divB a.a2 xs.length with
            | true =>
              rw [hd] at d2
              conv => whnf
              repeat' (first
                | (refine codeK_sound good (mu := []) ?_; conv => whnf)
                | ((first | rw [wl0] | rw [wl1] | rw [wl2] | rw [wl3] | rw [wl4] | rw [wl5]); conv => whnf)
                | (refine SBool.mk (fun _ => ?_) (fun h => absurd (of_decide_eq_true rfl) h); conv => whnf)
                | (refine SBool.mk (fun h => absurd h (of_decide_eq_false rfl)) (fun _ => ?_); conv => whnf)
                | (refine SBool.mk (fun h => ?_) (fun h => ?_) <;> conv => whnf)
                | (refine SEx.mk _ (by first | exact rfl | exact ⟨of_decide_eq_true rfl, rfl⟩) ?_; conv => whnf)
                | (refine SAll.mk (fun _ => ?_); conv => whnf)
                | (refine SAnd.mk ⟨by intro c hc; simp at hc; first | (subst hc; rfl) | ((repeat' (rcases hc with rfl | hc)) <;> first | rfl | (subst hc; rfl)), by (simp; first | done | omega), by (simp; first | done | omega)⟩ ?_; conv => whnf)
                | (refine SAnd.mk (by first | exact rfl | kernel_rfl | omega | decide) ?_; conv => whnf)
                | fail)
              rw [hlen]
              conv => whnf
              repeat' (first
                | (refine codeK_sound good (mu := []) ?_; conv => whnf)
                | ((first | rw [wl0] | rw [wl1] | rw [wl2] | rw [wl3] | rw [wl4] | rw [wl5]); conv => whnf)
                | (refine SBool.mk (fun _ => ?_) (fun h => absurd (of_decide_eq_true rfl) h); conv => whnf)
                | (refine SBool.mk (fun h => absurd h (of_decide_eq_false rfl)) (fun _ => ?_); conv => whnf)
                | (refine SBool.mk (fun h => ?_) (fun h => ?_) <;> conv => whnf)
                | (refine SEx.mk _ (by first | exact d2) ?_; conv => whnf)
                | (refine SEx.mk _ (by first | exact rfl | exact ⟨of_decide_eq_true rfl, rfl⟩) ?_; conv => whnf)
                | (refine SAll.mk (fun _ => ?_); conv => whnf)
                | (refine SAnd.mk ⟨by intro c hc; simp at hc; first | (subst hc; rfl) | ((repeat' (rcases hc with rfl | hc)) <;> first | rfl | (subst hc; rfl)), by (simp; first | done | omega), by (simp; first | done | omega)⟩ ?_; conv => whnf)
                | (refine SAnd.mk (by first | exact rfl | kernel_rfl | omega | decide | exact d2) ?_; conv => whnf)
                | fail)
              refine ⟨⟨3, by omega, fun j hj => by (rcases (by omega : j < 2 ∨ j = 2) with h | rfl); exact hall j h; exact hd⟩, by simp only; omega, ?_⟩
              · refine SLe.of [(0, 0), (1, 1), (3, 3)] [] rfl rfl ?_
                conv => whnf
                repeat' (first
                | exact True.intro
                | (refine SAnd.mk (PLe.of_eq (by simp only [wrapK]; rw [wrap_id (by first | omega | (simp only; done) | (simp only; omega) | simp) (by first | omega | (simp only; done) | (simp only; omega) | simp)]; simp)) ?_; conv => whnf)
                | (refine SAnd.mk (PLe.refl _) ?_; conv => whnf)
                | (refine SAnd.mk (PLeL.refl _) ?_; conv => whnf)
                | (refine SAnd.mk (PLe.of_eq (by simp)) ?_; conv => whnf)
                | (refine SAnd.mk rfl ?_; conv => whnf)
                | (refine SAnd.mk ⟨rfl, rfl⟩ ?_; conv => whnf)
                | (refine SAnd.mk ⟨rfl, rfl, rfl⟩ ?_; conv => whnf))
            | false =>
              rw [hd] at d2
              conv => whnf
              repeat' (first
                | (refine codeK_sound good (mu := []) ?_; conv => whnf)
                | ((first | rw [wl0] | rw [wl1] | rw [wl2] | rw [wl3] | rw [wl4] | rw [wl5]); conv => whnf)
                | (refine SBool.mk (fun _ => ?_) (fun h => absurd (of_decide_eq_true rfl) h); conv => whnf)
                | (refine SBool.mk (fun h => absurd h (of_decide_eq_false rfl)) (fun _ => ?_); conv => whnf)
                | (refine SBool.mk (fun h => ?_) (fun h => ?_) <;> conv => whnf)
                | (refine SEx.mk _ (by first | exact rfl | exact ⟨of_decide_eq_true rfl, rfl⟩) ?_; conv => whnf)
                | (refine SAll.mk (fun _ => ?_); conv => whnf)
                | (refine SAnd.mk ⟨by intro c hc; simp at hc; first | (subst hc; rfl) | ((repeat' (rcases hc with rfl | hc)) <;> first | rfl | (subst hc; rfl)), by (simp; first | done | omega), by (simp; first | done | omega)⟩ ?_; conv => whnf)
                | (refine SAnd.mk (by first | exact rfl | kernel_rfl | omega | decide) ?_; conv => whnf)
                | fail)
              rw [hlen]
              conv => whnf
              repeat' (first
                | (refine codeK_sound good (mu := []) ?_; conv => whnf)
                | ((first | rw [wl0] | rw [wl1] | rw [wl2] | rw [wl3] | rw [wl4] | rw [wl5]); conv => whnf)
                | (refine SBool.mk (fun _ => ?_) (fun h => absurd (of_decide_eq_true rfl) h); conv => whnf)
                | (refine SBool.mk (fun h => absurd h (of_decide_eq_false rfl)) (fun _ => ?_); conv => whnf)
                | (refine SBool.mk (fun h => ?_) (fun h => ?_) <;> conv => whnf)
                | (refine SEx.mk _ (by first | exact d2) ?_; conv => whnf)
                | (refine SEx.mk _ (by first | exact rfl | exact ⟨of_decide_eq_true rfl, rfl⟩) ?_; conv => whnf)
                | (refine SAll.mk (fun _ => ?_); conv => whnf)
                | (refine SAnd.mk ⟨by intro c hc; simp at hc; first | (subst hc; rfl) | ((repeat' (rcases hc with rfl | hc)) <;> first | rfl | (subst hc; rfl)), by (simp; first | done | omega), by (simp; first | done | omega)⟩ ?_; conv => whnf)
                | (refine SAnd.mk (by first | exact rfl | kernel_rfl | omega | decide | exact d2) ?_; conv => whnf)
                | fail)
              have hB : a.divB xs.length = false := by unfold Q4.divB; rw [hd]; simp
              have hE : avgE xs = 2 := by unfold avgE; rw [if_pos hz, ha, hB]; rfl
              exact ⟨PLe.of_eq (by unfold avgV avgL; rw [hE]; rfl)⟩
          · cases hd : divB a.a3 xs.length with
            | true =>
              rw [hd] at d3
              conv => whnf
              repeat' (first
                | (refine codeK_sound good (mu := []) ?_; conv => whnf)
                | ((first | rw [wl0] | rw [wl1] | rw [wl2] | rw [wl3] | rw [wl4] | rw [wl5]); conv => whnf)
                | (refine SBool.mk (fun _ => ?_) (fun h => absurd (of_decide_eq_true rfl) h); conv => whnf)
                | (refine SBool.mk (fun h => absurd h (of_decide_eq_false rfl)) (fun _ => ?_); conv => whnf)
                | (refine SBool.mk (fun h => ?_) (fun h => ?_) <;> conv => whnf)
                | (refine SEx.mk _ (by first | exact rfl | exact ⟨of_decide_eq_true rfl, rfl⟩) ?_; conv => whnf)
                | (refine SAll.mk (fun _ => ?_); conv => whnf)
                | (refine SAnd.mk ⟨by intro c hc; simp at hc; first | (subst hc; rfl) | ((repeat' (rcases hc with rfl | hc)) <;> first | rfl | (subst hc; rfl)), by (simp; first | done | omega), by (simp; first | done | omega)⟩ ?_; conv => whnf)
                | (refine SAnd.mk (by first | exact rfl | kernel_rfl | omega | decide) ?_; conv => whnf)
                | fail)
              rw [hlen]
              conv => whnf
              repeat' (first
                | (refine codeK_sound good (mu := []) ?_; conv => whnf)
                | ((first | rw [wl0] | rw [wl1] | rw [wl2] | rw [wl3] | rw [wl4] | rw [wl5]); conv => whnf)
                | (refine SBool.mk (fun _ => ?_) (fun h => absurd (of_decide_eq_true rfl) h); conv => whnf)
                | (refine SBool.mk (fun h => absurd h (of_decide_eq_false rfl)) (fun _ => ?_); conv => whnf)
                | (refine SBool.mk (fun h => ?_) (fun h => ?_) <;> conv => whnf)
                | (refine SEx.mk _ (by first | exact d3) ?_; conv => whnf)
                | (refine SEx.mk _ (by first | exact rfl | exact ⟨of_decide_eq_true rfl, rfl⟩) ?_; conv => whnf)
                | (refine SAll.mk (fun _ => ?_); conv => whnf)
                | (refine SAnd.mk ⟨by intro c hc; simp at hc; first | (subst hc; rfl) | ((repeat' (rcases hc with rfl | hc)) <;> first | rfl | (subst hc; rfl)), by (simp; first | done | omega), by (simp; first | done | omega)⟩ ?_; conv => whnf)
                | (refine SAnd.mk (by first | exact rfl | kernel_rfl | omega | decide | exact d3) ?_; conv => whnf)
                | fail)
              refine ⟨⟨4, by omega, fun j hj => by (rcases (by omega : j < 3 ∨ j = 3) with h | rfl); exact hall j h; exact hd⟩, by simp only; omega, ?_⟩
              · refine SLe.of [(0, 0), (1, 1), (3, 3)] [] rfl rfl ?_
                conv => whnf
                repeat' (first
                | exact True.intro
                | (refine SAnd.mk (PLe.of_eq (by simp only [wrapK]; rw [wrap_id (by first | omega | (simp only; done) | (simp only; omega) | simp) (by first | omega | (simp only; done) | (simp only; omega) | simp)]; simp)) ?_; conv => whnf)
                | (refine SAnd.mk (PLe.refl _) ?_; conv => whnf)
                | (refine SAnd.mk (PLeL.refl _) ?_; conv => whnf)
                | (refine SAnd.mk (PLe.of_eq (by simp)) ?_; conv => whnf)
                | (refine SAnd.mk rfl ?_; conv => whnf)
                | (refine SAnd.mk ⟨rfl, rfl⟩ ?_; conv => whnf)
                | (refine SAnd.mk ⟨rfl, rfl, rfl⟩ ?_; conv => whnf))
            | false =>
              rw [hd] at d3
              conv => whnf
              repeat' (first
                | (refine codeK_sound good (mu := []) ?_; conv => whnf)
                | ((first | rw [wl0] | rw [wl1] | rw [wl2] | rw [wl3] | rw [wl4] | rw [wl5]); conv => whnf)
                | (refine SBool.mk (fun _ => ?_) (fun h => absurd (of_decide_eq_true rfl) h); conv => whnf)
                | (refine SBool.mk (fun h => absurd h (of_decide_eq_false rfl)) (fun _ => ?_); conv => whnf)
                | (refine SBool.mk (fun h => ?_) (fun h => ?_) <;> conv => whnf)
                | (refine SEx.mk _ (by first | exact rfl | exact ⟨of_decide_eq_true rfl, rfl⟩) ?_; conv => whnf)
                | (refine SAll.mk (fun _ => ?_); conv => whnf)
                | (refine SAnd.mk ⟨by intro c hc; simp at hc; first | (subst hc; rfl) | ((repeat' (rcases hc with rfl | hc)) <;> first | rfl | (subst hc; rfl)), by (simp; first | done | omega), by (simp; first | done | omega)⟩ ?_; conv => whnf)
                | (refine SAnd.mk (by first | exact rfl | kernel_rfl | omega | decide) ?_; conv => whnf)
                | fail)
              rw [hlen]
              conv => whnf
              repeat' (first
                | (refine codeK_sound good (mu := []) ?_; conv => whnf)
                | ((first | rw [wl0] | rw [wl1] | rw [wl2] | rw [wl3] | rw [wl4] | rw [wl5]); conv => whnf)
                | (refine SBool.mk (fun _ => ?_) (fun h => absurd (of_decide_eq_true rfl) h); conv => whnf)
                | (refine SBool.mk (fun h => absurd h (of_decide_eq_false rfl)) (fun _ => ?_); conv => whnf)
                | (refine SBool.mk (fun h => ?_) (fun h => ?_) <;> conv => whnf)
                | (refine SEx.mk _ (by first | exact d3) ?_; conv => whnf)
                | (refine SEx.mk _ (by first | exact rfl | exact ⟨of_decide_eq_true rfl, rfl⟩) ?_; conv => whnf)
                | (refine SAll.mk (fun _ => ?_); conv => whnf)
                | (refine SAnd.mk ⟨by intro c hc; simp at hc; first | (subst hc; rfl) | ((repeat' (rcases hc with rfl | hc)) <;> first | rfl | (subst hc; rfl)), by (simp; first | done | omega), by (simp; first | done | omega)⟩ ?_; conv => whnf)
                | (refine SAnd.mk (by first | exact rfl | kernel_rfl | omega | decide | exact d3) ?_; conv => whnf)
                | fail)
              have hB : a.divB xs.length = false := by unfold Q4.divB; rw [hd]; simp
              have hE : avgE xs = 2 := by unfold avgE; rw [if_pos hz, ha, hB]; rfl
              exact ⟨PLe.of_eq (by unfold avgV avgL; rw [hE]; rfl)⟩
          · have hB : a.divB xs.length = true := by
              unfold Q4.divB
              rw [show divB a.a0 xs.length = true from hall 0 (by omega), show divB a.a1 xs.length = true from hall 1 (by omega), show divB a.a2 xs.length = true from hall 2 (by omega), show divB a.a3 xs.length = true from hall 3 (by omega)]
              rfl
            have hA : avgQ xs = b := by unfold avgQ; rw [ha, hb]
            have hE : avgE xs = recE b := by unfold avgE; rw [if_pos hz, ha, if_pos hB, hA]
            have e2 : avgV xs = recV b := by
              unfold avgV
              rw [hE, hA]
              split
              · rfl
              · rename_i h; unfold recV; rw [if_neg h]
            have e3 : avgL xs = recL b := by
              unfold avgL
              rw [hE, hA]
              split
              · rfl
              · rename_i h; unfold recL; rw [if_neg h]
            conv => whnf
            repeat' (first
              | (refine codeK_sound good (mu := []) ?_; conv => whnf)
              | ((first | rw [wl0] | rw [wl1] | rw [wl2] | rw [wl3] | rw [wl4] | rw [wl5]); conv => whnf)
              | (refine SBool.mk (fun _ => ?_) (fun h => absurd (of_decide_eq_true rfl) h); conv => whnf)
              | (refine SBool.mk (fun h => absurd h (of_decide_eq_false rfl)) (fun _ => ?_); conv => whnf)
              | (refine SBool.mk (fun h => ?_) (fun h => ?_) <;> conv => whnf)
              | (refine SEx.mk _ (by first | exact hr) ?_; conv => whnf)
              | (refine SEx.mk _ (by first | exact rfl | exact ⟨of_decide_eq_true rfl, rfl⟩) ?_; conv => whnf)
              | (refine SAll.mk (fun _ => ?_); conv => whnf)
              | (refine SAnd.mk (by first | exact hr) ?_; conv => whnf)
              | (refine SAnd.mk ⟨by intro c hc; simp at hc; first | (subst hc; rfl) | ((repeat' (rcases hc with rfl | hc)) <;> first | rfl | (subst hc; rfl)), by (simp; first | done | omega), by (simp; first | done | omega)⟩ ?_; conv => whnf)
              | (refine SAnd.mk (by first | exact rfl | kernel_rfl | omega | decide | exact hr) ?_; conv => whnf)
              | fail)
            exact ⟨PLe.of_eq (by rw [e2, e3, hE])⟩
  · have hz : ¬ pansE xs = 0 := h
    have hE : avgE xs = pansE xs := by unfold avgE; rw [if_neg hz]
    have hE0 : ¬ avgE xs = 0 := by rw [hE]; exact hz
    exact ⟨PLe.of_eq (by unfold avgV avgL; rw [if_neg hE0, if_neg hE0, hE]; rfl)⟩
end Go.Proofs.Ab.Tone
end
section
/- The program's answers at the document's examples. -/
set_option maxRecDepth 100000
set_option linter.unusedVariables false
set_option linter.unusedSimpArgs false
namespace Go.Proofs.Ab.Tone2
open Go Go.RowKit Go.Proofs.Ab Go.Proofs.Ab.Tone
def sA : Sg := ⟨⟨10, 0⟩, ⟨3, 0⟩, ⟨1, 0⟩⟩
abbrev sg6 (a b c d e f : Int) : PV := .agg [I a, I b, I c, I d, I e, I f]
def rA : Rx := ⟨100, 30, 50, 200, 600⟩
abbrev rv : PV := .agg [I 100, I 30, I 50, I 200, I 600]
theorem ofEq {m : Int} {f : FuncId} {xs : List PV} {v w : PV} (h : APure Tone.C f xs v) (e : v = w) : APure (C m) f xs w := e ▸ up h
theorem ofEq' {m : Int} {f : FuncId} {xs : List PV} {v w : PV} (h : APure (C m) f xs v) (e : v = w) : APure (C m) f xs w := e ▸ h
theorem kDepths {m : Int} : APure (C m) 15 [sg6 10 0 3 0 1 0] (.tup [.agg [I 3, I 10], .agg [I 1, I 10], I 0]) := ofEq (Depths_pure sA) (by kernel_rfl)
theorem kNeedle {m : Int} : APure (C m) 16 [sg6 10 0 3 0 1 0] (.tup [.agg [I 1, I 5], I 0]) := ofEq (Needle_pure sA) (by kernel_rfl)
theorem kSum {m : Int} : APure (C m) 17 [sg6 10 0 3 0 1 0] (.tup [.agg [I 2, I 5], I 0]) := ofEq (Sum_pure sA) (by kernel_rfl)
theorem kTurned {m : Int} : APure (C m) 27 [sg6 10 0 3 0 1 0, I 1] (.tup [sg6 0 10 0 3 0 1, I 0]) := ofEq (Turned_pure sA 1) (by kernel_rfl)
theorem kScaled {m : Int} : APure (C m) 28 [sg6 10 0 3 0 1 0, .agg [I 1, I 0], .agg [I 0, I 1]] (.tup [sg6 10 0 0 3 0 1, I 0]) := ofEq (Scaled_pure sA ⟨1, 0⟩ ⟨0, 1⟩) (by kernel_rfl)
theorem kNeedle2 {m : Int} : APure (C m) 16 [sg6 10 0 0 3 0 1] (.tup [.agg [I 0, I 1], I 0]) := ofEq (Needle_pure ⟨⟨10, 0⟩, ⟨0, 3⟩, ⟨0, 1⟩⟩) (by kernel_rfl)
theorem kTold1 {m : Int} : APure (C m) 39 [rv, sg6 10 0 3 0 1 0] (.tup [I 20, St ⟨#[]⟩, I 0]) := ofEq (Told_pure rA sA) (by kernel_rfl)
theorem kTold2 {m : Int} : APure (C m) 39 [rv, sg6 10 0 5 0 1 0] (.tup [I 30, St ⟨#[]⟩, I 0]) := ofEq (Told_pure rA ⟨⟨10, 0⟩, ⟨5, 0⟩, ⟨1, 0⟩⟩) (by kernel_rfl)
theorem kTold3 {m : Int} : APure (C m) 39 [rv, sg6 10 0 6 0 1 0] (.tup [I 0, St bDepth, I 0]) := ofEq (Told_pure rA ⟨⟨10, 0⟩, ⟨6, 0⟩, ⟨1, 0⟩⟩) (by kernel_rfl)
theorem kTold4 {m : Int} : APure (C m) 39 [rv, sg6 7 0 3 0 1 0] (.tup [I 0, St bWeak, I 0]) := ofEq (Told_pure rA ⟨⟨7, 0⟩, ⟨3, 0⟩, ⟨1, 0⟩⟩) (by kernel_rfl)
abbrev l6 (a b c d e f : Int) : List PV := [I a, I b, I c, I d, I e, I f]
theorem kFollowed {m : Int} : APure (C m) 41 [rv, I 4, I 0, .seq 6 [l6 10 0 3 0 1 0, l6 10 0 3 0 1 0, l6 10 0 3 0 1 0]] (.tup [.seq 1 [[I 5], [I 8], [I 11]], I 0]) := ofEq (Followed_pure rA (by decide) 4 0 [sA, sA, sA] (by decide)) (by kernel_rfl)
abbrev two : PV := .agg [I 10, I 0, I 3, I 0, I 1, I 0, I 6, I 0, I 0, I 0, I 3, I 0]
def sB : Sg := ⟨⟨6, 0⟩, ⟨0, 0⟩, ⟨3, 0⟩⟩
theorem kCaptured1 {m : Int} : APure (C m) 47 [two, I 2000] (.tup [I 0, I 0]) := ofEq (Captured_pure sA sB 2000) (by kernel_rfl)
theorem kCaptured2 {m : Int} : APure (C m) 47 [two, I 3000] (.tup [I 2, I 0]) := ofEq (Captured_pure sA sB 3000) (by kernel_rfl)
theorem kMixed {m : Int} : APure (C m) 48 [two, I 3000] (.tup [.agg [I 1, I 68], I 0]) := ofEq (Mixed_pure sA sB 3000) (by kernel_rfl)
theorem kLost {m : Int} : APure (C m) 52 [rv, sg6 10 0 3 0 1 0, .agg [I 0, I 500]] (.tup [.agg [I 10, I 20], I 0]) := ofEq (Lost_pure rA sA 0 500) (by kernel_rfl)
theorem kNoisy {m : Int} : APure (C m) 53 [rv, sg6 10 0 3 0 1 0, I 1] (.tup [.agg [I 0, I 30], I 0]) := ofEq (Noisy_pure rA sA 1) (by kernel_rfl)
theorem kAdded {m : Int} : APure (C m) 26 [sg6 10 0 3 0 1 0, sg6 1 0 (-1) 0 0 0] (.tup [sg6 11 0 2 0 1 0, I 0]) := ofEq (Added_pure sA ⟨⟨1, 0⟩, ⟨-1, 0⟩, ⟨0, 0⟩⟩) (by kernel_rfl)
theorem kFlagged {m : Int} : APure (C m) 59 [rv, .seq 6 [l6 10 0 3 0 1 0, l6 7 0 3 0 1 0, l6 10 0 6 0 1 0, l6 10 0 3 0 1 0]] (.tup [.seq 2 [[I 1, I 3]], I 0]) := ofEq' (Flagged_pure rA [sA, ⟨⟨7, 0⟩, ⟨3, 0⟩, ⟨1, 0⟩⟩, ⟨⟨10, 0⟩, ⟨6, 0⟩, ⟨1, 0⟩⟩, sA] (by decide)) (by kernel_rfl)
abbrev xsC : List Sg := [sA, ⟨⟨10, 0⟩, ⟨1, 0⟩, ⟨3, 0⟩⟩, ⟨⟨10, 0⟩, ⟨1, 0⟩, ⟨1, 0⟩⟩]
theorem crossC : crossL xsC = [(0, 2), (2, 3)] := by
  have e : crossP xsC xsC.length ++ spans (zeroP xsC) xsC.length = [(0, 2), (2, 3)] := by kernel_rfl
  exact (crossL_of (ys := [(0, 2), (2, 3)]) (by rw [e]) (by simp)).symm
theorem kCrossings {m : Int} : APure (C m) 58 [.seq 6 [l6 10 0 3 0 1 0, l6 10 0 1 0 3 0, l6 10 0 1 0 1 0]] (.tup [.seq 2 [[I 0, I 2], [I 2, I 3]], I 0]) := ofEq' (Crossings_pure xsC (by decide)) (by
  have e : checkL xsC = 0 := by kernel_rfl
  rw [e, if_pos rfl, crossC]
  rfl)
theorem kSampled {m : Int} : APure (C m) 73 [sg6 10 0 3 0 1 0] (.tup [.agg [.v (.complex .f32 1096810496 0), .v (.complex .f32 1094713344 0), .v (.complex .f32 1090519040 0), .v (.complex .f32 1086324736 0)], I 0]) := ofEq (Sampled_pure sA) (by kernel_rfl)
theorem itoa0 : Lib.itoa 0 = [48] := by simp [Lib.itoa, Lib.decDigits]
theorem itoa1 : Lib.itoa 1 = [49] := by simp [Lib.itoa, Lib.decDigits]
theorem itoa3 : Lib.itoa 3 = [51] := by simp [Lib.itoa, Lib.decDigits]
theorem itoa10 : Lib.itoa 10 = [49, 48] := by
  rw [show Lib.itoa 10 = Lib.decDigits 10 from rfl, Lib.decDigits, dif_neg (by decide), Lib.decDigits, dif_pos (by decide)]
  rfl
abbrev textA : ByteArray := ⟨#[115, 105, 103, 110, 97, 108, 32, 49, 48, 32, 48, 32, 51, 32, 48, 32, 49, 32, 48, 10]⟩
theorem printA : printB [sA] = textA := by
  have h : printB [sA] = joinB [lineB sA] ⟨#[]⟩ := rfl
  have hl : lineB sA = textA := by
    unfold lineB wordsB
    simp only [sA, itoaB, itoa0, itoa1, itoa3, itoa10]
    rfl
  rw [h, hl]
  rfl
theorem kPrint {m : Int} : APure (C m) 63 [.seq 6 [l6 10 0 3 0 1 0]] (.tup [St textA, I 0]) := ofEq' (Print_pure [sA] (by decide)) (by
  have e : checkL [sA] = 0 := by kernel_rfl
  rw [e, if_pos rfl, printA])
end Go.Proofs.Ab.Tone2
end
section
/- An integer's text, read. -/
set_option maxRecDepth 100000
set_option linter.unusedVariables false
set_option linter.unusedSimpArgs false
namespace Go.Proofs.Ab.Tone2
open Go Go.RowKit Go.Proofs.Ab Go.Proofs.Ab.Tone
abbrev dig (c : UInt8) : Prop := 48 ≤ c.toNat ∧ c.toNat ≤ 57
def digV (l : List UInt8) : Int := l.foldl (fun n c => 10 * n + ((c.toNat : Int) - 48)) 0
/-- What the digits and the sign come to. -/
def intV (l : List UInt8) (neg : Bool) : Int × Bool :=
  if (∀ c ∈ l, dig c) ∧ l.length ≤ 9 ∧ l ≠ [] ∧ ¬ (l.head? = some 48 ∧ (1 < l.length ∨ neg = true)) then (if neg then 0 - digV l else digV l, true) else (0, false)
theorem digV_succ (l : List UInt8) {k : Nat} (h : k < l.length) : digV (l.take (k + 1)) = 10 * digV (l.take k) + ((l[k].toNat : Int) - 48) := by
  unfold digV
  rw [List.take_succ_eq_append_getElem h, List.foldl_append]
  rfl
theorem digV_bound : ∀ (k : Nat) (l : List UInt8), (∀ c ∈ l.take k, dig c) → k ≤ l.length → 0 ≤ digV (l.take k) ∧ digV (l.take k) < ((10 ^ k : Nat) : Int)
  | 0, l, _, _ => by simp [digV]
  | k + 1, l, h, hk => by
    have hk' : k < l.length := by omega
    have ih := digV_bound k l (fun c hc => h c (by rw [List.take_succ_eq_append_getElem hk']; exact List.mem_append_left _ hc)) (by omega)
    have hd := h l[k] (by rw [List.take_succ_eq_append_getElem hk']; exact List.mem_append_right _ List.mem_cons_self)
    rw [digV_succ l hk', Nat.pow_succ]
    have h1 := hd.1
    have h2 := hd.2
    omega
theorem intV_bad {l : List UInt8} {neg : Bool} {k : Nat} (h : k < l.length) (hd : ¬ (dig l[k] ∧ l.length ≤ 9)) : intV l neg = (0, false) := by
  unfold intV
  rw [if_neg (fun ⟨h1, h2, _⟩ => hd ⟨h1 _ (List.getElem_mem h), h2⟩)]
theorem i32w {c : Nat} (h : c ≤ 255) : wrapK IntKind.i32 ((c : Int) - 48) = (c : Int) - 48 := by
  show IntKind.i32.wrap _ = _
  exact IntWalk.i32_in _ (by omega)
theorem integer_pure {m : Int} (s : ByteArray) : APure (C m) 179 [St s] (.tup [I (intV (Lib.trimPrefix s.data.toList [45]) (Lib.hasPrefix s.data.toList [45])).1, Bo (intV (Lib.trimPrefix s.data.toList [45]) (Lib.hasPrefix s.data.toList [45])).2]) := by
  have hcp := cutPrefix_pure (m := m) s ⟨#[45]⟩
  have e45 : (⟨#[45]⟩ : ByteArray).data.toList = [45] := rfl
  rw [e45] at hcp
  generalize Lib.trimPrefix s.data.toList [45] = l at *
  generalize Lib.hasPrefix s.data.toList [45] = neg at *
  refine APure.of_body good [] (fn := Tryz.f179) (by kernel_rfl) (by kernel_rfl) rfl rfl (by kernel_rfl) rfl (by kernel_rfl) ?_
  conv => whnf
  repeat' (first
    | (refine codeK_sound good (mu := []) ?_; conv => whnf)
    | ((first | rw [wl0] | rw [wl1] | rw [wl2] | rw [wl3] | rw [wl4] | rw [wl5]); conv => whnf)
    | (refine SBool.mk (fun _ => ?_) (fun h => absurd (of_decide_eq_true rfl) h); conv => whnf)
    | (refine SBool.mk (fun h => absurd h (of_decide_eq_false rfl)) (fun _ => ?_); conv => whnf)
    | (refine SBool.mk (fun h => ?_) (fun h => ?_) <;> conv => whnf)
    | (refine SEx.mk _ (by first | exact hcp) ?_; conv => whnf)
    | (refine SEx.mk _ (by first | exact rfl | exact ⟨of_decide_eq_true rfl, rfl⟩) ?_; conv => whnf)
    | (refine SAll.mk (fun _ => ?_); conv => whnf)
    | (refine SAnd.mk (by first | exact hcp) ?_; conv => whnf)
    | (refine SAnd.mk ⟨by intro c hc; simp at hc; first | (subst hc; rfl) | ((repeat' (rcases hc with rfl | hc)) <;> first | rfl | (subst hc; rfl)), by (simp; first | done | omega), by (simp; first | done | omega)⟩ ?_; conv => whnf)
    | (refine SAnd.mk (by first | exact rfl | kernel_rfl | omega | decide | exact hcp) ?_; conv => whnf)
    | fail)
  · rename_i g
    have hbs : (⟨l.toArray⟩ : ByteArray).size = l.length := by simp [ByteArray.size]
    refine ⟨AWp.loop (ι := { k : Nat // k ≤ l.length ∧ (∀ c ∈ l.take k, dig c) ∧ (0 < k → l.length ≤ 9) }) (fun k => ⟨[(15, .p (.v (.pointer (some ⟨g, 0, none⟩)))), (4, .p (St ⟨l.toArray⟩)), (5, .p (Bo neg)), (6, .p (I (digV (l.take k.1))))], [], [], 1, [], [(0, .siter g ⟨l.toArray⟩ k.1)], []⟩) (fun k => l.length - k.1) ⟨0, by simp, by simp, by simp⟩ ?_ ?_⟩
    · skip
      · refine SLe.ofO [] [] [(0, 0)] rfl rfl rfl ?_
        conv => whnf
        repeat' (first
        | exact True.intro
        | (refine SAnd.mk (PLe.of_eq (by simp only [wrapK]; rw [wrap_id (by first | omega | (simp only; done) | (simp only; omega) | simp) (by first | omega | (simp only; done) | (simp only; omega) | simp)]; simp)) ?_; conv => whnf)
        | (refine SAnd.mk (PLe.refl _) ?_; conv => whnf)
        | (refine SAnd.mk (PLeL.refl _) ?_; conv => whnf)
        | (refine SAnd.mk (PLe.of_eq (by simp)) ?_; conv => whnf)
        | (refine SAnd.mk rfl ?_; conv => whnf)
        | (refine SAnd.mk ⟨rfl, rfl⟩ ?_; conv => whnf)
        | (refine SAnd.mk ⟨rfl, rfl, rfl⟩ ?_; conv => whnf))
    · rintro ⟨k, hk, hd, h9⟩
      have hbd := digV_bound k l hd hk
      refine codeK_sound good (mu := []) ?_
      conv => whnf
      refine SAnd.mk rfl ?_
      conv => whnf
      refine SBool.mk (fun hc => ?_) (fun hc => ?_)
      · have hkl : k < l.length := by rw [hbs] at hc; exact hc
        have hks : k < (⟨l.toArray⟩ : ByteArray).size := by rw [hbs]; exact hkl
        have hget : (⟨l.toArray⟩ : ByteArray)[k]'hks = l[k] := rfl
        conv => whnf
        rcases Nat.lt_or_ge l[k].toNat 128 with hasc | hhigh
        · have hdec : Utf8.decode ⟨l.toArray⟩ k = (l[k].toNat, 1) := by
            rw [decode_ascii _ _ hks (by rw [hget]; exact hasc), hget]
          conv => whnf
          repeat' (first
            | (refine codeK_sound good (mu := []) ?_; conv => whnf)
            | ((first | rw [wl0] | rw [wl1] | rw [wl2] | rw [wl3] | rw [wl4] | rw [wl5]); conv => whnf)
            | (refine SBool.mk (fun _ => ?_) (fun h => absurd (of_decide_eq_true rfl) h); conv => whnf)
            | (refine SBool.mk (fun h => absurd h (of_decide_eq_false rfl)) (fun _ => ?_); conv => whnf)
            | (refine SBool.mk (fun h => ?_) (fun h => ?_) <;> conv => whnf)
            | (refine SEx.mk _ (by first | exact hdec) ?_; conv => whnf)
            | (refine SEx.mk _ (by first | exact rfl | exact ⟨of_decide_eq_true rfl, rfl⟩) ?_; conv => whnf)
            | (refine SAll.mk (fun _ => ?_); conv => whnf)
            | (refine SAnd.mk (by first | exact hdec) ?_; conv => whnf)
            | (refine SAnd.mk ⟨by intro c hc; simp at hc; first | (subst hc; rfl) | ((repeat' (rcases hc with rfl | hc)) <;> first | rfl | (subst hc; rfl)), by (simp; first | done | omega), by (simp; first | done | omega)⟩ ?_; conv => whnf)
            | (refine SAnd.mk (by first | exact rfl | kernel_rfl | omega | decide | exact hdec) ?_; conv => whnf)
            | fail)
          · have h1 : (l[k].toNat : Int) < 48 := h
            exact ⟨PLe.of_eq (by rw [intV_bad hkl (neg := neg) (fun ⟨hh, _⟩ => by have := hh.1; omega)])⟩
          · have h1 : 57 < (l[k].toNat : Int) := h
            exact ⟨PLe.of_eq (by rw [intV_bad hkl (neg := neg) (fun ⟨hh, _⟩ => by have := hh.2; omega)])⟩
          · have h1 : (9 : Int) < ((⟨l.toArray⟩ : ByteArray).size : Int) := h
            rw [hbs] at h1
            exact ⟨PLe.of_eq (by rw [intV_bad hkl (neg := neg) (fun ⟨_, hh⟩ => by omega)])⟩
          · rename_i h1 h2
            have h1 : ¬ (l[k].toNat : Int) < 48 := h1
            have h2 : ¬ 57 < (l[k].toNat : Int) := h2
            have h3 : ¬ (9 : Int) < ((⟨l.toArray⟩ : ByteArray).size : Int) := h
            rw [hbs] at h3
            have hdk : dig l[k] := ⟨by omega, by omega⟩
            have hp : 10 ^ k ≤ 10 ^ 8 := Nat.pow_le_pow_right (by decide) (by omega)
            have hw : wrapK IntKind.i64 (wrapK IntKind.i64 (10 * digV (l.take k)) + wrapK IntKind.i64 (wrapK IntKind.i32 ((l[k].toNat : Int) - 48))) = digV (l.take (k + 1)) := by
              rw [i32w (by omega), digV_succ l hkl]
              have e1 : wrapK IntKind.i64 (10 * digV (l.take k)) = 10 * digV (l.take k) := w64 (by omega)
              have e2 : wrapK IntKind.i64 ((l[k].toNat : Int) - 48) = (l[k].toNat : Int) - 48 := w64 (by omega)
              rw [e1, e2]
              exact w64 (by omega)
            refine ⟨⟨k + 1, by omega, fun c hc => ?_, fun _ => by omega⟩, by simp only; omega, ?_⟩
            · rw [List.take_succ_eq_append_getElem hkl] at hc
              rcases List.mem_append.1 hc with hc | hc
              · exact hd c hc
              · simp at hc
                rw [hc]
                exact hdk
            · skip
              · refine SLe.ofO [] [] [(0, 0)] rfl rfl rfl ?_
                conv => whnf
                repeat' (first
                | exact True.intro
                | (refine SAnd.mk (PLe.of_eq (congrArg I hw)) ?_; conv => whnf)
                | (refine SAnd.mk (PLe.of_eq (by simp only [wrapK]; rw [wrap_id (by first | omega | (simp only; done) | (simp only; omega) | simp) (by first | omega | (simp only; done) | (simp only; omega) | simp)]; simp)) ?_; conv => whnf)
                | (refine SAnd.mk (PLe.refl _) ?_; conv => whnf)
                | (refine SAnd.mk (PLeL.refl _) ?_; conv => whnf)
                | (refine SAnd.mk (PLe.of_eq (by simp)) ?_; conv => whnf)
                | (refine SAnd.mk rfl ?_; conv => whnf)
                | (refine SAnd.mk ⟨rfl, rfl⟩ ?_; conv => whnf)
                | (refine SAnd.mk ⟨rfl, rfl, rfl⟩ ?_; conv => whnf))
        · obtain ⟨hc1, hc2⟩ := decode_high _ k hks (by rw [hget]; exact hhigh)
          obtain ⟨cw, hcw⟩ : ∃ cw, Utf8.decode ⟨l.toArray⟩ k = cw := ⟨_, rfl⟩
          rw [hcw] at hc1
          have hb := intV_bad hkl (neg := neg) (fun ⟨hh, _⟩ => by have := hh.2; omega)
          conv => whnf
          repeat' (first
            | (refine codeK_sound good (mu := []) ?_; conv => whnf)
            | ((first | rw [wl0] | rw [wl1] | rw [wl2] | rw [wl3] | rw [wl4] | rw [wl5]); conv => whnf)
            | (refine SBool.mk (fun _ => ?_) (fun h => absurd (of_decide_eq_true rfl) h); conv => whnf)
            | (refine SBool.mk (fun h => absurd h (of_decide_eq_false rfl)) (fun _ => ?_); conv => whnf)
            | (refine SBool.mk (fun h => ?_) (fun h => ?_) <;> conv => whnf)
            | (refine SEx.mk _ (by first | exact hcw) ?_; conv => whnf)
            | (refine SEx.mk _ (by first | exact rfl | exact ⟨of_decide_eq_true rfl, rfl⟩) ?_; conv => whnf)
            | (refine SAll.mk (fun _ => ?_); conv => whnf)
            | (refine SAnd.mk (by first | exact hcw) ?_; conv => whnf)
            | (refine SAnd.mk ⟨by intro c hc; simp at hc; first | (subst hc; rfl) | ((repeat' (rcases hc with rfl | hc)) <;> first | rfl | (subst hc; rfl)), by (simp; first | done | omega), by (simp; first | done | omega)⟩ ?_; conv => whnf)
            | (refine SAnd.mk (by first | exact rfl | kernel_rfl | omega | decide | exact hcw) ?_; conv => whnf)
            | fail)
          · exact ⟨PLe.of_eq (by rw [hb])⟩
          · exact ⟨PLe.of_eq (by rw [hb])⟩
          · exact ⟨PLe.of_eq (by rw [hb])⟩
          · rename_i h1 h2
            have h2 : ¬ (57 : Int) < (cw.1 : Int) := h2
            exact absurd (by omega) h2
      · have hc' : ¬ k < (⟨l.toArray⟩ : ByteArray).size := hc
        have : k = l.length := by rw [hbs] at hc'; omega
        subst this
        rw [List.take_length] at hd hbd
        clear hcp hc hc'
        rcases l with _ | ⟨c, l⟩
        · skip
          conv => whnf
          repeat' (first
            | (refine codeK_sound good (mu := []) ?_; conv => whnf)
            | ((first | rw [wl0] | rw [wl1] | rw [wl2] | rw [wl3] | rw [wl4] | rw [wl5]); conv => whnf)
            | (refine SBool.mk (fun _ => ?_) (fun h => absurd (of_decide_eq_true rfl) h); conv => whnf)
            | (refine SBool.mk (fun h => absurd h (of_decide_eq_false rfl)) (fun _ => ?_); conv => whnf)
            | (refine SBool.mk (fun h => ?_) (fun h => ?_) <;> conv => whnf)
            | (refine SEx.mk _ (by first | exact eql_string _ _ _) ?_; conv => whnf)
            | (refine SEx.mk _ (by first | exact rfl | exact ⟨of_decide_eq_true rfl, rfl⟩) ?_; conv => whnf)
            | (refine SAll.mk (fun _ => ?_); conv => whnf)
            | (refine SAnd.mk ⟨by intro c hc; simp at hc; first | (subst hc; rfl) | ((repeat' (rcases hc with rfl | hc)) <;> first | rfl | (subst hc; rfl)), by (simp; first | done | omega), by (simp; first | done | omega)⟩ ?_; conv => whnf)
            | (refine SAnd.mk (by first | exact rfl | kernel_rfl | omega | decide | exact eql_string _ _ _) ?_; conv => whnf)
            | fail)
          exact ⟨PLe.of_eq (by simp [intV])⟩
        · have hne : decide ((⟨(c :: l).toArray⟩ : ByteArray) = ⟨#[]⟩) = false := decide_eq_false (fun e => by injection e with e; simp at e)
          have heq : ∀ w, (binOp .eql 9 (.string ⟨(c :: l).toArray⟩) (.string ⟨#[]⟩)).run (C m).P w = .ok (.bool false) w := fun w => by
            have := eql_string 9 ⟨(c :: l).toArray⟩ ⟨#[]⟩ w
            rw [hne] at this
            exact this
          have hs0 : (0 : Int) ≤ 0 ∧ (0 : Int) < ((⟨(c :: l).toArray⟩ : ByteArray).size : Int) := ⟨by omega, by rw [hbs]; simp only [List.length_cons]; omega⟩
          have hlen : (((⟨(c :: l).toArray⟩ : ByteArray).size : Nat) : Int) = (l.length : Int) + 1 := by rw [hbs]; simp
          have hby : byteAt ⟨(c :: l).toArray⟩ (Int.toNat 0) = (c.toNat : Int) := rfl
          have hl9 := h9 (by simp)
          have hp : 10 ^ (c :: l).length ≤ 10 ^ 9 := Nat.pow_le_pow_right (by decide) hl9
          have hwn : wrapK IntKind.i64 (0 - digV (c :: l)) = 0 - digV (c :: l) := w64 (by omega)
          have hc48 : (c.toNat : Int) = 48 ↔ c = 48 := by
            constructor
            · intro h
              exact UInt8.toNat_inj.1 (by have : c.toNat = 48 := by omega
                                          rw [this]; rfl)
            · rintro rfl; rfl
          have hval : intV (c :: l) neg = if c = 48 ∧ (0 < l.length ∨ neg = true) then (0, false) else (if neg then 0 - digV (c :: l) else digV (c :: l), true) := by
            unfold intV
            by_cases hh : c = 48 ∧ (0 < l.length ∨ neg = true)
            · rw [if_pos hh, if_neg (fun ⟨_, _, _, h4⟩ => h4 ⟨by simp [hh.1], by simpa using hh.2⟩)]
            · rw [if_neg hh, if_pos ⟨hd, hl9, by simp, fun ⟨h5, h6⟩ => hh ⟨by simpa using h5, by simpa using h6⟩⟩]
          have hsz : (⟨(c :: l).toArray⟩ : ByteArray).size = l.length + 1 := by rw [hbs]; rfl
          have htk : (c :: l).take (c :: l).length = c :: l := List.take_length
          cases neg
          · skip
            conv => whnf
            repeat' (first
              | (refine codeK_sound good (mu := []) ?_; conv => whnf)
              | ((first | rw [wl0] | rw [wl1] | rw [wl2] | rw [wl3] | rw [wl4] | rw [wl5]); conv => whnf)
              | (refine SBool.mk (fun _ => ?_) (fun h => absurd (of_decide_eq_true rfl) h); conv => whnf)
              | (refine SBool.mk (fun h => absurd h (of_decide_eq_false rfl)) (fun _ => ?_); conv => whnf)
              | (refine SBool.mk (fun h => ?_) (fun h => ?_) <;> conv => whnf)
              | (refine SEx.mk _ (by first | exact heq | exact hs0) ?_; conv => whnf)
              | (refine SEx.mk _ (by first | exact rfl | exact ⟨of_decide_eq_true rfl, rfl⟩) ?_; conv => whnf)
              | (refine SAll.mk (fun _ => ?_); conv => whnf)
              | (refine SAnd.mk (by first | exact heq | exact hs0) ?_; conv => whnf)
              | (refine SAnd.mk ⟨by intro c hc; simp at hc; first | (subst hc; rfl) | ((repeat' (rcases hc with rfl | hc)) <;> first | rfl | (subst hc; rfl)), by (simp; first | done | omega), by (simp; first | done | omega)⟩ ?_; conv => whnf)
              | (refine SAnd.mk (by first | exact rfl | kernel_rfl | omega | decide | exact heq | exact hs0) ?_; conv => whnf)
              | fail)
            · rename_i h0
              have h0 : (c.toNat : Int) = 48 := h0
              rw [hsz] at h
              exact ⟨PLe.of_eq (by rw [hval, if_pos ⟨hc48.1 h0, .inl (by omega)⟩])⟩
            · rename_i h0
              rw [hsz] at h
              exact ⟨PLe.of_eq (by rw [hval, if_neg (fun ⟨_, hh⟩ => by rcases hh with hh | hh; omega; cases hh)]; simp only [htk]; rfl)⟩
            · have h0 : ¬ (c.toNat : Int) = 48 := h
              exact ⟨PLe.of_eq (by rw [hval, if_neg (fun ⟨hh, _⟩ => h0 (hc48.2 hh))]; simp only [htk]; rfl)⟩
          · have hwn' : wrapK IntKind.i64 (0 - digV ((c :: l).take (c :: l).length)) = 0 - digV (c :: l) := by rw [htk]; exact hwn
            conv => whnf
            repeat' (first
              | (refine codeK_sound good (mu := []) ?_; conv => whnf)
              | ((first | rw [wl0] | rw [wl1] | rw [wl2] | rw [wl3] | rw [wl4] | rw [wl5]); conv => whnf)
              | (refine SBool.mk (fun _ => ?_) (fun h => absurd (of_decide_eq_true rfl) h); conv => whnf)
              | (refine SBool.mk (fun h => absurd h (of_decide_eq_false rfl)) (fun _ => ?_); conv => whnf)
              | (refine SBool.mk (fun h => ?_) (fun h => ?_) <;> conv => whnf)
              | (refine SEx.mk _ (by first | exact heq | exact hs0) ?_; conv => whnf)
              | (refine SEx.mk _ (by first | exact rfl | exact ⟨of_decide_eq_true rfl, rfl⟩) ?_; conv => whnf)
              | (refine SAll.mk (fun _ => ?_); conv => whnf)
              | (refine SAnd.mk (by first | exact heq | exact hs0) ?_; conv => whnf)
              | (refine SAnd.mk ⟨by intro c hc; simp at hc; first | (subst hc; rfl) | ((repeat' (rcases hc with rfl | hc)) <;> first | rfl | (subst hc; rfl)), by (simp; first | done | omega), by (simp; first | done | omega)⟩ ?_; conv => whnf)
              | (refine SAnd.mk (by first | exact rfl | kernel_rfl | omega | decide | exact heq | exact hs0) ?_; conv => whnf)
              | fail)
            · rename_i h0
              have h0 : (c.toNat : Int) = 48 := h0
              exact ⟨PLe.of_eq (by rw [hval, if_pos ⟨hc48.1 h0, .inr rfl⟩])⟩
            · rename_i h0
              have h0 : (c.toNat : Int) = 48 := h0
              exact ⟨PLe.of_eq (by rw [hval, if_pos ⟨hc48.1 h0, .inr rfl⟩])⟩
            · have h0 : ¬ (c.toNat : Int) = 48 := h
              exact ⟨PLe.of_eq (by rw [hval, if_neg (fun ⟨hh, _⟩ => h0 (hc48.2 hh)), hwn']; rfl)⟩
end Go.Proofs.Ab.Tone2
end
section
/- The taker's numbers. -/
set_option maxRecDepth 100000
set_option linter.unusedVariables false
set_option linter.unusedSimpArgs false
namespace Go.Proofs.Ab.Tone2
open Go Go.RowKit Go.Proofs.Ab Go.Proofs.Ab.Tone
/-- A word as an integer; the taker's next. -/
def intB (a : ByteArray) : Int × Bool := intV (Lib.trimPrefix a.data.toList [45]) (Lib.hasPrefix a.data.toList [45])
abbrev Tk := List ByteArray × Bool
def tkV (st : Tk) : Int × Tk := match st.1 with
  | [] => (0, ([], true))
  | a :: ws => ((intB a).1, (ws, st.2 || !(intB a).2))
def tkS (st : Tk) : Nat → Tk
  | 0 => st
  | k + 1 => (tkV (tkS st k)).2
def tkN (st : Tk) (k : Nat) : Int := (tkV (tkS st k)).1
/-- The numbers read so far. -/
def nums6 (st : Tk) : Nat → List PV
  | 0 => [I 0, I 0, I 0, I 0, I 0, I 0]
  | 1 => [I (tkN st 0), I (tkN st 1), I 0, I 0, I 0, I 0]
  | 2 => [I (tkN st 0), I (tkN st 1), I (tkN st 2), I (tkN st 3), I 0, I 0]
  | _ => [I (tkN st 0), I (tkN st 1), I (tkN st 2), I (tkN st 3), I (tkN st 4), I (tkN st 5)]
def wordsV (body : List UInt8) : List ByteArray := Lib.splitB ⟨#[32]⟩ 0 (Lib.countB ⟨body.toArray⟩ ⟨#[32]⟩) ⟨body.toArray⟩
/-- The context, within a round. -/
noncomputable abbrev CQ (m : Int) : Cx := { P := (C m).P, tab := (C m).tab, glob := (C m).glob, inR := true, tabs := (C m).tabs }
theorem goodQ {m : Int} : (CQ m).Good := ⟨(good (m := m)).tab, (good (m := m)).mixed⟩
theorem upQ {m : Int} {f : FuncId} {xs : List PV} {v : PV} (h : APure (C m) f xs v) : APure (CQ m) f xs v := h

/-- A piece of a function's code. -/
def codeAt : List Nat → Code → Code
  | 0 :: r, .seq c _ => codeAt r c
  | 1 :: r, .seq _ c => codeAt r c
  | 0 :: r, .block _ c => codeAt r c
  | 0 :: r, .loop c => codeAt r c
  | 0 :: r, .scope c => codeAt r c
  | 0 :: r, .rangeFunc _ _ _ c => codeAt r c
  | 0 :: r, .cond _ c _ => codeAt r c
  | 1 :: r, .cond _ _ c => codeAt r c
  | _, c => c
noncomputable def c64 : Code := Tryz.f64.body.getD .skip
theorem hInt {m : Int} {a : ByteArray} {va : Int} {ba : Bool} (h : intB a = (va, ba)) : APure (CQ m) 179 [St a] (.tup [I va, Bo ba]) := by
  have := integer_pure (m := m) a
  have e : intV (Lib.trimPrefix a.data.toList [45]) (Lib.hasPrefix a.data.toList [45]) = (va, ba) := h
  rw [e] at this
  exact this
theorem hOne (a : ByteArray) (ws : List ByteArray) : (0 : Int) ≤ 1 ∧ (1 : Int) ≤ ((cellsS (a :: ws)).length : Int) := ⟨by omega, by simp; omega⟩
theorem hIn0 (a : ByteArray) (ws : List ByteArray) : 0 ≤ (0 : Int) ∧ (cellsS (a :: ws))[(0 : Int).toNat]? = some [St a] := ⟨by omega, rfl⟩
theorem c3 (ws : List ByteArray) : ws = [] ∨ ∃ a ws' va ba, ws = a :: ws' ∧ intB a = (va, ba) := by
  rcases ws with _ | ⟨a, ws⟩
  · exact .inl rfl
  · exact .inr ⟨a, ws, _, _, rfl, rfl⟩

set_option maxHeartbeats 4000000 in
theorem num0 {m : Int} {gd gl g5 : Nat} {L : LpC} {W T R : PV} {O : List (List PV)} {ended : Bool} (ws : List ByteArray) (wr : Bool) (x0 x1 x2 x3 x4 x5 : Int) :
    AWp (CQ m) Tryz.f64.ntmps (codeAt [1,1,1,0,1,0,0,0,1,1,1,1,1,0,1,0,0,1,1,0,0,1,0] c64) (fun e s' => match e with | .normal => SLe (CQ m) Tryz.f64.ntmps s' ⟨[(13, .p (I 0)), (34, .p (I 0)), (12, .box 9 0), (11, .bnd 142 [.box 8 0]), (10, .box 8 0), (9, .p W), (8, .p (Bo ended)), (5, .box 3 0), (4, .box 2 0), (3, .box 1 0), (2, .box 0 0)], [(9, (203, [I (tkV (ws, wr)).1, I x1, I x2, I x3, I x4, I x5])), (8, (202, [.seq 1 (cellsS (tkV (ws, wr)).2.1), Bo (tkV (ws, wr)).2.2])), (4, (9, [R])), (2, (29, [I 0])), (1, (3, [I 0])), (0, (70, [nilS]))], [(5, (32, 6, O))], 10, [(0, .p (.v (.func (.yield gl) #[] #[]))), (1, .box 4 0), (3, .p T), (Tryz.f175.ntmps + 19, .clo 175 [.box 4 0]), (Tryz.f175.ntmps + 5, .box 3 0), (Tryz.f175.ntmps + 4, .box 2 0), (Tryz.f175.ntmps + 3, .box 1 0), (Tryz.f175.ntmps + 2, .box 0 0)], [(7, .loop gl .busy Tryz.f64.ntmps [(19, .clo 175 [.box 4 0]), (5, .box 3 0), (4, .box 2 0), (3, .box 1 0), (2, .box 0 0)] L), (6, .dfr gd), (3, .hold g5 70 (.own 5))], []⟩ | _ => False) ⟨[(13, .p (I 0)), (34, .p (I 0)), (12, .box 9 0), (11, .bnd 142 [.box 8 0]), (10, .box 8 0), (9, .p W), (8, .p (Bo ended)), (5, .box 3 0), (4, .box 2 0), (3, .box 1 0), (2, .box 0 0)], [(9, (203, [I x0, I x1, I x2, I x3, I x4, I x5])), (8, (202, [.seq 1 (cellsS ws), Bo wr])), (4, (9, [R])), (2, (29, [I 0])), (1, (3, [I 0])), (0, (70, [nilS]))], [(5, (32, 6, O))], 10, [(0, .p (.v (.func (.yield gl) #[] #[]))), (1, .box 4 0), (3, .p T), (Tryz.f175.ntmps + 19, .clo 175 [.box 4 0]), (Tryz.f175.ntmps + 5, .box 3 0), (Tryz.f175.ntmps + 4, .box 2 0), (Tryz.f175.ntmps + 3, .box 1 0), (Tryz.f175.ntmps + 2, .box 0 0)], [(7, .loop gl .busy Tryz.f64.ntmps [(19, .clo 175 [.box 4 0]), (5, .box 3 0), (4, .box 2 0), (3, .box 1 0), (2, .box 0 0)] L), (6, .dfr gd), (3, .hold g5 70 (.own 5))], []⟩ := by
  rcases c3 ws with rfl | ⟨a, ws, va, (_ | _), rfl, hia⟩
  all_goals cases wr
  all_goals
    refine codeK_sound goodQ (mu := []) ?_
    conv => whnf
    repeat' (first
      | (refine codeK_sound good (mu := []) ?_; conv => whnf)
      | ((first | rw [wl0] | rw [wl1] | rw [wl2] | rw [wl3] | rw [wl4] | rw [wl5]); conv => whnf)
      | (refine SBool.mk (fun _ => ?_) (fun h => absurd (of_decide_eq_true rfl) h); conv => whnf)
      | (refine SBool.mk (fun h => absurd h (of_decide_eq_false rfl)) (fun _ => ?_); conv => whnf)
      | (refine SBool.mk (fun h => ?_) (fun h => ?_) <;> conv => whnf)
      | (refine SEx.mk _ (by first | exact rfl | exact ⟨of_decide_eq_true rfl, rfl⟩) ?_; conv => whnf)
      | (refine SAll.mk (fun _ => ?_); conv => whnf)
      | (refine SAnd.mk ⟨by intro c hc; simp at hc; first | (subst hc; rfl) | ((repeat' (rcases hc with rfl | hc)) <;> first | rfl | (subst hc; rfl)), by (simp; first | done | omega), by (simp; first | done | omega)⟩ ?_; conv => whnf)
      | (refine SAnd.mk (by first | exact rfl | kernel_rfl | omega | decide) ?_; conv => whnf)
      | fail)
    refine ACall.inline goodQ [] (fn := Tryz.f142) (by kernel_rfl) (by kernel_rfl) rfl rfl (by kernel_rfl) rfl (by kernel_rfl) ?_
    conv => whnf
    repeat' (first
      | (refine codeK_sound good (mu := []) ?_; conv => whnf)
      | ((first | rw [wl0] | rw [wl1] | rw [wl2] | rw [wl3] | rw [wl4] | rw [wl5]); conv => whnf)
      | (refine SBool.mk (fun _ => ?_) (fun h => absurd (of_decide_eq_true rfl) h); conv => whnf)
      | (refine SBool.mk (fun h => absurd h (of_decide_eq_false rfl)) (fun _ => ?_); conv => whnf)
      | (refine SBool.mk (fun h => ?_) (fun h => ?_) <;> conv => whnf)
      | (refine SEx.mk _ (by first | exact hInt hia | exact hOne _ _ | exact hIn0 _ _) ?_; conv => whnf)
      | (refine SEx.mk _ (by first | exact rfl | exact ⟨of_decide_eq_true rfl, rfl⟩) ?_; conv => whnf)
      | (refine SAll.mk (fun _ => ?_); conv => whnf)
      | (refine SAnd.mk ⟨by intro c hc; simp at hc; first | (subst hc; rfl) | ((repeat' (rcases hc with rfl | hc)) <;> first | rfl | (subst hc; rfl)), by (simp; first | done | omega), by (simp; first | done | omega)⟩ ?_; conv => whnf)
      | (refine SAnd.mk (by first | exact rfl | kernel_rfl | omega | decide | exact hInt hia | exact hOne _ _ | exact hIn0 _ _) ?_; conv => whnf)
      | fail)
    skip
    · refine SLe.ofO [(9, 9), (8, 8), (4, 4), (2, 2), (1, 1), (0, 0), (3, 3)] [(5, 5)] [(7, 7), (6, 6), (3, 3)] rfl rfl rfl ?_
      conv => whnf
      repeat' (first
      | exact True.intro
      | (refine SAnd.mk (by first | exact PLeL.refl _ | (simp only [tkV, hia]; exact PLeL.refl _)) ?_; conv => whnf)
      | (refine SAnd.mk (PLe.of_eq (by simp only [wrapK]; rw [wrap_id (by first | omega | (simp only; done) | (simp only; omega) | simp) (by first | omega | (simp only; done) | (simp only; omega) | simp)]; simp)) ?_; conv => whnf)
      | (refine SAnd.mk (PLe.refl _) ?_; conv => whnf)
      | (refine SAnd.mk (PLeL.refl _) ?_; conv => whnf)
      | (refine SAnd.mk (PLe.of_eq (by simp)) ?_; conv => whnf)
      | (refine SAnd.mk rfl ?_; conv => whnf)
      | (refine SAnd.mk ⟨rfl, rfl⟩ ?_; conv => whnf)
      | (refine SAnd.mk ⟨rfl, rfl, rfl⟩ ?_; conv => whnf))

set_option maxHeartbeats 4000000 in
theorem num1 {m : Int} {gd gl g5 : Nat} {L : LpC} {W T R : PV} {O : List (List PV)} {ended : Bool} (ws : List ByteArray) (wr : Bool) (x0 x1 x2 x3 x4 x5 : Int) :
    AWp (CQ m) Tryz.f64.ntmps (codeAt [1,1,1,0,1,0,0,0,1,1,1,1,1,0,1,0,0,1,1,0,0,1,1] c64) (fun e s' => match e with | .normal => SLe (CQ m) Tryz.f64.ntmps s' ⟨[(13, .p (I 0)), (34, .p (I 0)), (12, .box 9 0), (11, .bnd 142 [.box 8 0]), (10, .box 8 0), (9, .p W), (8, .p (Bo ended)), (5, .box 3 0), (4, .box 2 0), (3, .box 1 0), (2, .box 0 0)], [(9, (203, [I x0, I (tkV (ws, wr)).1, I x2, I x3, I x4, I x5])), (8, (202, [.seq 1 (cellsS (tkV (ws, wr)).2.1), Bo (tkV (ws, wr)).2.2])), (4, (9, [R])), (2, (29, [I 0])), (1, (3, [I 0])), (0, (70, [nilS]))], [(5, (32, 6, O))], 10, [(0, .p (.v (.func (.yield gl) #[] #[]))), (1, .box 4 0), (3, .p T), (Tryz.f175.ntmps + 19, .clo 175 [.box 4 0]), (Tryz.f175.ntmps + 5, .box 3 0), (Tryz.f175.ntmps + 4, .box 2 0), (Tryz.f175.ntmps + 3, .box 1 0), (Tryz.f175.ntmps + 2, .box 0 0)], [(7, .loop gl .busy Tryz.f64.ntmps [(19, .clo 175 [.box 4 0]), (5, .box 3 0), (4, .box 2 0), (3, .box 1 0), (2, .box 0 0)] L), (6, .dfr gd), (3, .hold g5 70 (.own 5))], []⟩ | _ => False) ⟨[(13, .p (I 0)), (34, .p (I 0)), (12, .box 9 0), (11, .bnd 142 [.box 8 0]), (10, .box 8 0), (9, .p W), (8, .p (Bo ended)), (5, .box 3 0), (4, .box 2 0), (3, .box 1 0), (2, .box 0 0)], [(9, (203, [I x0, I x1, I x2, I x3, I x4, I x5])), (8, (202, [.seq 1 (cellsS ws), Bo wr])), (4, (9, [R])), (2, (29, [I 0])), (1, (3, [I 0])), (0, (70, [nilS]))], [(5, (32, 6, O))], 10, [(0, .p (.v (.func (.yield gl) #[] #[]))), (1, .box 4 0), (3, .p T), (Tryz.f175.ntmps + 19, .clo 175 [.box 4 0]), (Tryz.f175.ntmps + 5, .box 3 0), (Tryz.f175.ntmps + 4, .box 2 0), (Tryz.f175.ntmps + 3, .box 1 0), (Tryz.f175.ntmps + 2, .box 0 0)], [(7, .loop gl .busy Tryz.f64.ntmps [(19, .clo 175 [.box 4 0]), (5, .box 3 0), (4, .box 2 0), (3, .box 1 0), (2, .box 0 0)] L), (6, .dfr gd), (3, .hold g5 70 (.own 5))], []⟩ := by
  rcases c3 ws with rfl | ⟨a, ws, va, (_ | _), rfl, hia⟩
  all_goals cases wr
  all_goals
    refine codeK_sound goodQ (mu := []) ?_
    conv => whnf
    repeat' (first
      | (refine codeK_sound good (mu := []) ?_; conv => whnf)
      | ((first | rw [wl0] | rw [wl1] | rw [wl2] | rw [wl3] | rw [wl4] | rw [wl5]); conv => whnf)
      | (refine SBool.mk (fun _ => ?_) (fun h => absurd (of_decide_eq_true rfl) h); conv => whnf)
      | (refine SBool.mk (fun h => absurd h (of_decide_eq_false rfl)) (fun _ => ?_); conv => whnf)
      | (refine SBool.mk (fun h => ?_) (fun h => ?_) <;> conv => whnf)
      | (refine SEx.mk _ (by first | exact rfl | exact ⟨of_decide_eq_true rfl, rfl⟩) ?_; conv => whnf)
      | (refine SAll.mk (fun _ => ?_); conv => whnf)
      | (refine SAnd.mk ⟨by intro c hc; simp at hc; first | (subst hc; rfl) | ((repeat' (rcases hc with rfl | hc)) <;> first | rfl | (subst hc; rfl)), by (simp; first | done | omega), by (simp; first | done | omega)⟩ ?_; conv => whnf)
      | (refine SAnd.mk (by first | exact rfl | kernel_rfl | omega | decide) ?_; conv => whnf)
      | fail)
    refine ACall.inline goodQ [] (fn := Tryz.f142) (by kernel_rfl) (by kernel_rfl) rfl rfl (by kernel_rfl) rfl (by kernel_rfl) ?_
    conv => whnf
    repeat' (first
      | (refine codeK_sound good (mu := []) ?_; conv => whnf)
      | ((first | rw [wl0] | rw [wl1] | rw [wl2] | rw [wl3] | rw [wl4] | rw [wl5]); conv => whnf)
      | (refine SBool.mk (fun _ => ?_) (fun h => absurd (of_decide_eq_true rfl) h); conv => whnf)
      | (refine SBool.mk (fun h => absurd h (of_decide_eq_false rfl)) (fun _ => ?_); conv => whnf)
      | (refine SBool.mk (fun h => ?_) (fun h => ?_) <;> conv => whnf)
      | (refine SEx.mk _ (by first | exact hInt hia | exact hOne _ _ | exact hIn0 _ _) ?_; conv => whnf)
      | (refine SEx.mk _ (by first | exact rfl | exact ⟨of_decide_eq_true rfl, rfl⟩) ?_; conv => whnf)
      | (refine SAll.mk (fun _ => ?_); conv => whnf)
      | (refine SAnd.mk ⟨by intro c hc; simp at hc; first | (subst hc; rfl) | ((repeat' (rcases hc with rfl | hc)) <;> first | rfl | (subst hc; rfl)), by (simp; first | done | omega), by (simp; first | done | omega)⟩ ?_; conv => whnf)
      | (refine SAnd.mk (by first | exact rfl | kernel_rfl | omega | decide | exact hInt hia | exact hOne _ _ | exact hIn0 _ _) ?_; conv => whnf)
      | fail)
    skip
    · refine SLe.ofO [(9, 9), (8, 8), (4, 4), (2, 2), (1, 1), (0, 0), (3, 3)] [(5, 5)] [(7, 7), (6, 6), (3, 3)] rfl rfl rfl ?_
      conv => whnf
      repeat' (first
      | exact True.intro
      | (refine SAnd.mk (by first | exact PLeL.refl _ | (simp only [tkV, hia]; exact PLeL.refl _)) ?_; conv => whnf)
      | (refine SAnd.mk (PLe.of_eq (by simp only [wrapK]; rw [wrap_id (by first | omega | (simp only; done) | (simp only; omega) | simp) (by first | omega | (simp only; done) | (simp only; omega) | simp)]; simp)) ?_; conv => whnf)
      | (refine SAnd.mk (PLe.refl _) ?_; conv => whnf)
      | (refine SAnd.mk (PLeL.refl _) ?_; conv => whnf)
      | (refine SAnd.mk (PLe.of_eq (by simp)) ?_; conv => whnf)
      | (refine SAnd.mk rfl ?_; conv => whnf)
      | (refine SAnd.mk ⟨rfl, rfl⟩ ?_; conv => whnf)
      | (refine SAnd.mk ⟨rfl, rfl, rfl⟩ ?_; conv => whnf))

set_option maxHeartbeats 4000000 in
theorem num2 {m : Int} {gd gl g5 : Nat} {L : LpC} {W T R : PV} {O : List (List PV)} {ended : Bool} (ws : List ByteArray) (wr : Bool) (x0 x1 x2 x3 x4 x5 : Int) :
    AWp (CQ m) Tryz.f64.ntmps (codeAt [1,1,1,0,1,0,0,0,1,1,1,1,1,0,1,0,0,1,1,0,0,1,0] c64) (fun e s' => match e with | .normal => SLe (CQ m) Tryz.f64.ntmps s' ⟨[(13, .p (I 1)), (34, .p (I 1)), (12, .box 9 0), (11, .bnd 142 [.box 8 0]), (10, .box 8 0), (9, .p W), (8, .p (Bo ended)), (5, .box 3 0), (4, .box 2 0), (3, .box 1 0), (2, .box 0 0)], [(9, (203, [I x0, I x1, I (tkV (ws, wr)).1, I x3, I x4, I x5])), (8, (202, [.seq 1 (cellsS (tkV (ws, wr)).2.1), Bo (tkV (ws, wr)).2.2])), (4, (9, [R])), (2, (29, [I 0])), (1, (3, [I 0])), (0, (70, [nilS]))], [(5, (32, 6, O))], 10, [(0, .p (.v (.func (.yield gl) #[] #[]))), (1, .box 4 0), (3, .p T), (Tryz.f175.ntmps + 19, .clo 175 [.box 4 0]), (Tryz.f175.ntmps + 5, .box 3 0), (Tryz.f175.ntmps + 4, .box 2 0), (Tryz.f175.ntmps + 3, .box 1 0), (Tryz.f175.ntmps + 2, .box 0 0)], [(7, .loop gl .busy Tryz.f64.ntmps [(19, .clo 175 [.box 4 0]), (5, .box 3 0), (4, .box 2 0), (3, .box 1 0), (2, .box 0 0)] L), (6, .dfr gd), (3, .hold g5 70 (.own 5))], []⟩ | _ => False) ⟨[(13, .p (I 1)), (34, .p (I 1)), (12, .box 9 0), (11, .bnd 142 [.box 8 0]), (10, .box 8 0), (9, .p W), (8, .p (Bo ended)), (5, .box 3 0), (4, .box 2 0), (3, .box 1 0), (2, .box 0 0)], [(9, (203, [I x0, I x1, I x2, I x3, I x4, I x5])), (8, (202, [.seq 1 (cellsS ws), Bo wr])), (4, (9, [R])), (2, (29, [I 0])), (1, (3, [I 0])), (0, (70, [nilS]))], [(5, (32, 6, O))], 10, [(0, .p (.v (.func (.yield gl) #[] #[]))), (1, .box 4 0), (3, .p T), (Tryz.f175.ntmps + 19, .clo 175 [.box 4 0]), (Tryz.f175.ntmps + 5, .box 3 0), (Tryz.f175.ntmps + 4, .box 2 0), (Tryz.f175.ntmps + 3, .box 1 0), (Tryz.f175.ntmps + 2, .box 0 0)], [(7, .loop gl .busy Tryz.f64.ntmps [(19, .clo 175 [.box 4 0]), (5, .box 3 0), (4, .box 2 0), (3, .box 1 0), (2, .box 0 0)] L), (6, .dfr gd), (3, .hold g5 70 (.own 5))], []⟩ := by
  rcases c3 ws with rfl | ⟨a, ws, va, (_ | _), rfl, hia⟩
  all_goals cases wr
  all_goals
    refine codeK_sound goodQ (mu := []) ?_
    conv => whnf
    repeat' (first
      | (refine codeK_sound good (mu := []) ?_; conv => whnf)
      | ((first | rw [wl0] | rw [wl1] | rw [wl2] | rw [wl3] | rw [wl4] | rw [wl5]); conv => whnf)
      | (refine SBool.mk (fun _ => ?_) (fun h => absurd (of_decide_eq_true rfl) h); conv => whnf)
      | (refine SBool.mk (fun h => absurd h (of_decide_eq_false rfl)) (fun _ => ?_); conv => whnf)
      | (refine SBool.mk (fun h => ?_) (fun h => ?_) <;> conv => whnf)
      | (refine SEx.mk _ (by first | exact rfl | exact ⟨of_decide_eq_true rfl, rfl⟩) ?_; conv => whnf)
      | (refine SAll.mk (fun _ => ?_); conv => whnf)
      | (refine SAnd.mk ⟨by intro c hc; simp at hc; first | (subst hc; rfl) | ((repeat' (rcases hc with rfl | hc)) <;> first | rfl | (subst hc; rfl)), by (simp; first | done | omega), by (simp; first | done | omega)⟩ ?_; conv => whnf)
      | (refine SAnd.mk (by first | exact rfl | kernel_rfl | omega | decide) ?_; conv => whnf)
      | fail)
    refine ACall.inline goodQ [] (fn := Tryz.f142) (by kernel_rfl) (by kernel_rfl) rfl rfl (by kernel_rfl) rfl (by kernel_rfl) ?_
    conv => whnf
    repeat' (first
      | (refine codeK_sound good (mu := []) ?_; conv => whnf)
      | ((first | rw [wl0] | rw [wl1] | rw [wl2] | rw [wl3] | rw [wl4] | rw [wl5]); conv => whnf)
      | (refine SBool.mk (fun _ => ?_) (fun h => absurd (of_decide_eq_true rfl) h); conv => whnf)
      | (refine SBool.mk (fun h => absurd h (of_decide_eq_false rfl)) (fun _ => ?_); conv => whnf)
      | (refine SBool.mk (fun h => ?_) (fun h => ?_) <;> conv => whnf)
      | (refine SEx.mk _ (by first | exact hInt hia | exact hOne _ _ | exact hIn0 _ _) ?_; conv => whnf)
      | (refine SEx.mk _ (by first | exact rfl | exact ⟨of_decide_eq_true rfl, rfl⟩) ?_; conv => whnf)
      | (refine SAll.mk (fun _ => ?_); conv => whnf)
      | (refine SAnd.mk ⟨by intro c hc; simp at hc; first | (subst hc; rfl) | ((repeat' (rcases hc with rfl | hc)) <;> first | rfl | (subst hc; rfl)), by (simp; first | done | omega), by (simp; first | done | omega)⟩ ?_; conv => whnf)
      | (refine SAnd.mk (by first | exact rfl | kernel_rfl | omega | decide | exact hInt hia | exact hOne _ _ | exact hIn0 _ _) ?_; conv => whnf)
      | fail)
    skip
    · refine SLe.ofO [(9, 9), (8, 8), (4, 4), (2, 2), (1, 1), (0, 0), (3, 3)] [(5, 5)] [(7, 7), (6, 6), (3, 3)] rfl rfl rfl ?_
      conv => whnf
      repeat' (first
      | exact True.intro
      | (refine SAnd.mk (by first | exact PLeL.refl _ | (simp only [tkV, hia]; exact PLeL.refl _)) ?_; conv => whnf)
      | (refine SAnd.mk (PLe.of_eq (by simp only [wrapK]; rw [wrap_id (by first | omega | (simp only; done) | (simp only; omega) | simp) (by first | omega | (simp only; done) | (simp only; omega) | simp)]; simp)) ?_; conv => whnf)
      | (refine SAnd.mk (PLe.refl _) ?_; conv => whnf)
      | (refine SAnd.mk (PLeL.refl _) ?_; conv => whnf)
      | (refine SAnd.mk (PLe.of_eq (by simp)) ?_; conv => whnf)
      | (refine SAnd.mk rfl ?_; conv => whnf)
      | (refine SAnd.mk ⟨rfl, rfl⟩ ?_; conv => whnf)
      | (refine SAnd.mk ⟨rfl, rfl, rfl⟩ ?_; conv => whnf))

set_option maxHeartbeats 4000000 in
theorem num3 {m : Int} {gd gl g5 : Nat} {L : LpC} {W T R : PV} {O : List (List PV)} {ended : Bool} (ws : List ByteArray) (wr : Bool) (x0 x1 x2 x3 x4 x5 : Int) :
    AWp (CQ m) Tryz.f64.ntmps (codeAt [1,1,1,0,1,0,0,0,1,1,1,1,1,0,1,0,0,1,1,0,0,1,1] c64) (fun e s' => match e with | .normal => SLe (CQ m) Tryz.f64.ntmps s' ⟨[(13, .p (I 1)), (34, .p (I 1)), (12, .box 9 0), (11, .bnd 142 [.box 8 0]), (10, .box 8 0), (9, .p W), (8, .p (Bo ended)), (5, .box 3 0), (4, .box 2 0), (3, .box 1 0), (2, .box 0 0)], [(9, (203, [I x0, I x1, I x2, I (tkV (ws, wr)).1, I x4, I x5])), (8, (202, [.seq 1 (cellsS (tkV (ws, wr)).2.1), Bo (tkV (ws, wr)).2.2])), (4, (9, [R])), (2, (29, [I 0])), (1, (3, [I 0])), (0, (70, [nilS]))], [(5, (32, 6, O))], 10, [(0, .p (.v (.func (.yield gl) #[] #[]))), (1, .box 4 0), (3, .p T), (Tryz.f175.ntmps + 19, .clo 175 [.box 4 0]), (Tryz.f175.ntmps + 5, .box 3 0), (Tryz.f175.ntmps + 4, .box 2 0), (Tryz.f175.ntmps + 3, .box 1 0), (Tryz.f175.ntmps + 2, .box 0 0)], [(7, .loop gl .busy Tryz.f64.ntmps [(19, .clo 175 [.box 4 0]), (5, .box 3 0), (4, .box 2 0), (3, .box 1 0), (2, .box 0 0)] L), (6, .dfr gd), (3, .hold g5 70 (.own 5))], []⟩ | _ => False) ⟨[(13, .p (I 1)), (34, .p (I 1)), (12, .box 9 0), (11, .bnd 142 [.box 8 0]), (10, .box 8 0), (9, .p W), (8, .p (Bo ended)), (5, .box 3 0), (4, .box 2 0), (3, .box 1 0), (2, .box 0 0)], [(9, (203, [I x0, I x1, I x2, I x3, I x4, I x5])), (8, (202, [.seq 1 (cellsS ws), Bo wr])), (4, (9, [R])), (2, (29, [I 0])), (1, (3, [I 0])), (0, (70, [nilS]))], [(5, (32, 6, O))], 10, [(0, .p (.v (.func (.yield gl) #[] #[]))), (1, .box 4 0), (3, .p T), (Tryz.f175.ntmps + 19, .clo 175 [.box 4 0]), (Tryz.f175.ntmps + 5, .box 3 0), (Tryz.f175.ntmps + 4, .box 2 0), (Tryz.f175.ntmps + 3, .box 1 0), (Tryz.f175.ntmps + 2, .box 0 0)], [(7, .loop gl .busy Tryz.f64.ntmps [(19, .clo 175 [.box 4 0]), (5, .box 3 0), (4, .box 2 0), (3, .box 1 0), (2, .box 0 0)] L), (6, .dfr gd), (3, .hold g5 70 (.own 5))], []⟩ := by
  rcases c3 ws with rfl | ⟨a, ws, va, (_ | _), rfl, hia⟩
  all_goals cases wr
  all_goals
    refine codeK_sound goodQ (mu := []) ?_
    conv => whnf
    repeat' (first
      | (refine codeK_sound good (mu := []) ?_; conv => whnf)
      | ((first | rw [wl0] | rw [wl1] | rw [wl2] | rw [wl3] | rw [wl4] | rw [wl5]); conv => whnf)
      | (refine SBool.mk (fun _ => ?_) (fun h => absurd (of_decide_eq_true rfl) h); conv => whnf)
      | (refine SBool.mk (fun h => absurd h (of_decide_eq_false rfl)) (fun _ => ?_); conv => whnf)
      | (refine SBool.mk (fun h => ?_) (fun h => ?_) <;> conv => whnf)
      | (refine SEx.mk _ (by first | exact rfl | exact ⟨of_decide_eq_true rfl, rfl⟩) ?_; conv => whnf)
      | (refine SAll.mk (fun _ => ?_); conv => whnf)
      | (refine SAnd.mk ⟨by intro c hc; simp at hc; first | (subst hc; rfl) | ((repeat' (rcases hc with rfl | hc)) <;> first | rfl | (subst hc; rfl)), by (simp; first | done | omega), by (simp; first | done | omega)⟩ ?_; conv => whnf)
      | (refine SAnd.mk (by first | exact rfl | kernel_rfl | omega | decide) ?_; conv => whnf)
      | fail)
    refine ACall.inline goodQ [] (fn := Tryz.f142) (by kernel_rfl) (by kernel_rfl) rfl rfl (by kernel_rfl) rfl (by kernel_rfl) ?_
    conv => whnf
    repeat' (first
      | (refine codeK_sound good (mu := []) ?_; conv => whnf)
      | ((first | rw [wl0] | rw [wl1] | rw [wl2] | rw [wl3] | rw [wl4] | rw [wl5]); conv => whnf)
      | (refine SBool.mk (fun _ => ?_) (fun h => absurd (of_decide_eq_true rfl) h); conv => whnf)
      | (refine SBool.mk (fun h => absurd h (of_decide_eq_false rfl)) (fun _ => ?_); conv => whnf)
      | (refine SBool.mk (fun h => ?_) (fun h => ?_) <;> conv => whnf)
      | (refine SEx.mk _ (by first | exact hInt hia | exact hOne _ _ | exact hIn0 _ _) ?_; conv => whnf)
      | (refine SEx.mk _ (by first | exact rfl | exact ⟨of_decide_eq_true rfl, rfl⟩) ?_; conv => whnf)
      | (refine SAll.mk (fun _ => ?_); conv => whnf)
      | (refine SAnd.mk ⟨by intro c hc; simp at hc; first | (subst hc; rfl) | ((repeat' (rcases hc with rfl | hc)) <;> first | rfl | (subst hc; rfl)), by (simp; first | done | omega), by (simp; first | done | omega)⟩ ?_; conv => whnf)
      | (refine SAnd.mk (by first | exact rfl | kernel_rfl | omega | decide | exact hInt hia | exact hOne _ _ | exact hIn0 _ _) ?_; conv => whnf)
      | fail)
    skip
    · refine SLe.ofO [(9, 9), (8, 8), (4, 4), (2, 2), (1, 1), (0, 0), (3, 3)] [(5, 5)] [(7, 7), (6, 6), (3, 3)] rfl rfl rfl ?_
      conv => whnf
      repeat' (first
      | exact True.intro
      | (refine SAnd.mk (by first | exact PLeL.refl _ | (simp only [tkV, hia]; exact PLeL.refl _)) ?_; conv => whnf)
      | (refine SAnd.mk (PLe.of_eq (by simp only [wrapK]; rw [wrap_id (by first | omega | (simp only; done) | (simp only; omega) | simp) (by first | omega | (simp only; done) | (simp only; omega) | simp)]; simp)) ?_; conv => whnf)
      | (refine SAnd.mk (PLe.refl _) ?_; conv => whnf)
      | (refine SAnd.mk (PLeL.refl _) ?_; conv => whnf)
      | (refine SAnd.mk (PLe.of_eq (by simp)) ?_; conv => whnf)
      | (refine SAnd.mk rfl ?_; conv => whnf)
      | (refine SAnd.mk ⟨rfl, rfl⟩ ?_; conv => whnf)
      | (refine SAnd.mk ⟨rfl, rfl, rfl⟩ ?_; conv => whnf))

set_option maxHeartbeats 4000000 in
theorem num4 {m : Int} {gd gl g5 : Nat} {L : LpC} {W T R : PV} {O : List (List PV)} {ended : Bool} (ws : List ByteArray) (wr : Bool) (x0 x1 x2 x3 x4 x5 : Int) :
    AWp (CQ m) Tryz.f64.ntmps (codeAt [1,1,1,0,1,0,0,0,1,1,1,1,1,0,1,0,0,1,1,0,0,1,0] c64) (fun e s' => match e with | .normal => SLe (CQ m) Tryz.f64.ntmps s' ⟨[(13, .p (I 2)), (34, .p (I 2)), (12, .box 9 0), (11, .bnd 142 [.box 8 0]), (10, .box 8 0), (9, .p W), (8, .p (Bo ended)), (5, .box 3 0), (4, .box 2 0), (3, .box 1 0), (2, .box 0 0)], [(9, (203, [I x0, I x1, I x2, I x3, I (tkV (ws, wr)).1, I x5])), (8, (202, [.seq 1 (cellsS (tkV (ws, wr)).2.1), Bo (tkV (ws, wr)).2.2])), (4, (9, [R])), (2, (29, [I 0])), (1, (3, [I 0])), (0, (70, [nilS]))], [(5, (32, 6, O))], 10, [(0, .p (.v (.func (.yield gl) #[] #[]))), (1, .box 4 0), (3, .p T), (Tryz.f175.ntmps + 19, .clo 175 [.box 4 0]), (Tryz.f175.ntmps + 5, .box 3 0), (Tryz.f175.ntmps + 4, .box 2 0), (Tryz.f175.ntmps + 3, .box 1 0), (Tryz.f175.ntmps + 2, .box 0 0)], [(7, .loop gl .busy Tryz.f64.ntmps [(19, .clo 175 [.box 4 0]), (5, .box 3 0), (4, .box 2 0), (3, .box 1 0), (2, .box 0 0)] L), (6, .dfr gd), (3, .hold g5 70 (.own 5))], []⟩ | _ => False) ⟨[(13, .p (I 2)), (34, .p (I 2)), (12, .box 9 0), (11, .bnd 142 [.box 8 0]), (10, .box 8 0), (9, .p W), (8, .p (Bo ended)), (5, .box 3 0), (4, .box 2 0), (3, .box 1 0), (2, .box 0 0)], [(9, (203, [I x0, I x1, I x2, I x3, I x4, I x5])), (8, (202, [.seq 1 (cellsS ws), Bo wr])), (4, (9, [R])), (2, (29, [I 0])), (1, (3, [I 0])), (0, (70, [nilS]))], [(5, (32, 6, O))], 10, [(0, .p (.v (.func (.yield gl) #[] #[]))), (1, .box 4 0), (3, .p T), (Tryz.f175.ntmps + 19, .clo 175 [.box 4 0]), (Tryz.f175.ntmps + 5, .box 3 0), (Tryz.f175.ntmps + 4, .box 2 0), (Tryz.f175.ntmps + 3, .box 1 0), (Tryz.f175.ntmps + 2, .box 0 0)], [(7, .loop gl .busy Tryz.f64.ntmps [(19, .clo 175 [.box 4 0]), (5, .box 3 0), (4, .box 2 0), (3, .box 1 0), (2, .box 0 0)] L), (6, .dfr gd), (3, .hold g5 70 (.own 5))], []⟩ := by
  rcases c3 ws with rfl | ⟨a, ws, va, (_ | _), rfl, hia⟩
  all_goals cases wr
  all_goals
    refine codeK_sound goodQ (mu := []) ?_
    conv => whnf
    repeat' (first
      | (refine codeK_sound good (mu := []) ?_; conv => whnf)
      | ((first | rw [wl0] | rw [wl1] | rw [wl2] | rw [wl3] | rw [wl4] | rw [wl5]); conv => whnf)
      | (refine SBool.mk (fun _ => ?_) (fun h => absurd (of_decide_eq_true rfl) h); conv => whnf)
      | (refine SBool.mk (fun h => absurd h (of_decide_eq_false rfl)) (fun _ => ?_); conv => whnf)
      | (refine SBool.mk (fun h => ?_) (fun h => ?_) <;> conv => whnf)
      | (refine SEx.mk _ (by first | exact rfl | exact ⟨of_decide_eq_true rfl, rfl⟩) ?_; conv => whnf)
      | (refine SAll.mk (fun _ => ?_); conv => whnf)
      | (refine SAnd.mk ⟨by intro c hc; simp at hc; first | (subst hc; rfl) | ((repeat' (rcases hc with rfl | hc)) <;> first | rfl | (subst hc; rfl)), by (simp; first | done | omega), by (simp; first | done | omega)⟩ ?_; conv => whnf)
      | (refine SAnd.mk (by first | exact rfl | kernel_rfl | omega | decide) ?_; conv => whnf)
      | fail)
    refine ACall.inline goodQ [] (fn := Tryz.f142) (by kernel_rfl) (by kernel_rfl) rfl rfl (by kernel_rfl) rfl (by kernel_rfl) ?_
    conv => whnf
    repeat' (first
      | (refine codeK_sound good (mu := []) ?_; conv => whnf)
      | ((first | rw [wl0] | rw [wl1] | rw [wl2] | rw [wl3] | rw [wl4] | rw [wl5]); conv => whnf)
      | (refine SBool.mk (fun _ => ?_) (fun h => absurd (of_decide_eq_true rfl) h); conv => whnf)
      | (refine SBool.mk (fun h => absurd h (of_decide_eq_false rfl)) (fun _ => ?_); conv => whnf)
      | (refine SBool.mk (fun h => ?_) (fun h => ?_) <;> conv => whnf)
      | (refine SEx.mk _ (by first | exact hInt hia | exact hOne _ _ | exact hIn0 _ _) ?_; conv => whnf)
      | (refine SEx.mk _ (by first | exact rfl | exact ⟨of_decide_eq_true rfl, rfl⟩) ?_; conv => whnf)
      | (refine SAll.mk (fun _ => ?_); conv => whnf)
      | (refine SAnd.mk ⟨by intro c hc; simp at hc; first | (subst hc; rfl) | ((repeat' (rcases hc with rfl | hc)) <;> first | rfl | (subst hc; rfl)), by (simp; first | done | omega), by (simp; first | done | omega)⟩ ?_; conv => whnf)
      | (refine SAnd.mk (by first | exact rfl | kernel_rfl | omega | decide | exact hInt hia | exact hOne _ _ | exact hIn0 _ _) ?_; conv => whnf)
      | fail)
    skip
    · refine SLe.ofO [(9, 9), (8, 8), (4, 4), (2, 2), (1, 1), (0, 0), (3, 3)] [(5, 5)] [(7, 7), (6, 6), (3, 3)] rfl rfl rfl ?_
      conv => whnf
      repeat' (first
      | exact True.intro
      | (refine SAnd.mk (by first | exact PLeL.refl _ | (simp only [tkV, hia]; exact PLeL.refl _)) ?_; conv => whnf)
      | (refine SAnd.mk (PLe.of_eq (by simp only [wrapK]; rw [wrap_id (by first | omega | (simp only; done) | (simp only; omega) | simp) (by first | omega | (simp only; done) | (simp only; omega) | simp)]; simp)) ?_; conv => whnf)
      | (refine SAnd.mk (PLe.refl _) ?_; conv => whnf)
      | (refine SAnd.mk (PLeL.refl _) ?_; conv => whnf)
      | (refine SAnd.mk (PLe.of_eq (by simp)) ?_; conv => whnf)
      | (refine SAnd.mk rfl ?_; conv => whnf)
      | (refine SAnd.mk ⟨rfl, rfl⟩ ?_; conv => whnf)
      | (refine SAnd.mk ⟨rfl, rfl, rfl⟩ ?_; conv => whnf))

set_option maxHeartbeats 4000000 in
theorem num5 {m : Int} {gd gl g5 : Nat} {L : LpC} {W T R : PV} {O : List (List PV)} {ended : Bool} (ws : List ByteArray) (wr : Bool) (x0 x1 x2 x3 x4 x5 : Int) :
    AWp (CQ m) Tryz.f64.ntmps (codeAt [1,1,1,0,1,0,0,0,1,1,1,1,1,0,1,0,0,1,1,0,0,1,1] c64) (fun e s' => match e with | .normal => SLe (CQ m) Tryz.f64.ntmps s' ⟨[(13, .p (I 2)), (34, .p (I 2)), (12, .box 9 0), (11, .bnd 142 [.box 8 0]), (10, .box 8 0), (9, .p W), (8, .p (Bo ended)), (5, .box 3 0), (4, .box 2 0), (3, .box 1 0), (2, .box 0 0)], [(9, (203, [I x0, I x1, I x2, I x3, I x4, I (tkV (ws, wr)).1])), (8, (202, [.seq 1 (cellsS (tkV (ws, wr)).2.1), Bo (tkV (ws, wr)).2.2])), (4, (9, [R])), (2, (29, [I 0])), (1, (3, [I 0])), (0, (70, [nilS]))], [(5, (32, 6, O))], 10, [(0, .p (.v (.func (.yield gl) #[] #[]))), (1, .box 4 0), (3, .p T), (Tryz.f175.ntmps + 19, .clo 175 [.box 4 0]), (Tryz.f175.ntmps + 5, .box 3 0), (Tryz.f175.ntmps + 4, .box 2 0), (Tryz.f175.ntmps + 3, .box 1 0), (Tryz.f175.ntmps + 2, .box 0 0)], [(7, .loop gl .busy Tryz.f64.ntmps [(19, .clo 175 [.box 4 0]), (5, .box 3 0), (4, .box 2 0), (3, .box 1 0), (2, .box 0 0)] L), (6, .dfr gd), (3, .hold g5 70 (.own 5))], []⟩ | _ => False) ⟨[(13, .p (I 2)), (34, .p (I 2)), (12, .box 9 0), (11, .bnd 142 [.box 8 0]), (10, .box 8 0), (9, .p W), (8, .p (Bo ended)), (5, .box 3 0), (4, .box 2 0), (3, .box 1 0), (2, .box 0 0)], [(9, (203, [I x0, I x1, I x2, I x3, I x4, I x5])), (8, (202, [.seq 1 (cellsS ws), Bo wr])), (4, (9, [R])), (2, (29, [I 0])), (1, (3, [I 0])), (0, (70, [nilS]))], [(5, (32, 6, O))], 10, [(0, .p (.v (.func (.yield gl) #[] #[]))), (1, .box 4 0), (3, .p T), (Tryz.f175.ntmps + 19, .clo 175 [.box 4 0]), (Tryz.f175.ntmps + 5, .box 3 0), (Tryz.f175.ntmps + 4, .box 2 0), (Tryz.f175.ntmps + 3, .box 1 0), (Tryz.f175.ntmps + 2, .box 0 0)], [(7, .loop gl .busy Tryz.f64.ntmps [(19, .clo 175 [.box 4 0]), (5, .box 3 0), (4, .box 2 0), (3, .box 1 0), (2, .box 0 0)] L), (6, .dfr gd), (3, .hold g5 70 (.own 5))], []⟩ := by
  rcases c3 ws with rfl | ⟨a, ws, va, (_ | _), rfl, hia⟩
  all_goals cases wr
  all_goals
    refine codeK_sound goodQ (mu := []) ?_
    conv => whnf
    repeat' (first
      | (refine codeK_sound good (mu := []) ?_; conv => whnf)
      | ((first | rw [wl0] | rw [wl1] | rw [wl2] | rw [wl3] | rw [wl4] | rw [wl5]); conv => whnf)
      | (refine SBool.mk (fun _ => ?_) (fun h => absurd (of_decide_eq_true rfl) h); conv => whnf)
      | (refine SBool.mk (fun h => absurd h (of_decide_eq_false rfl)) (fun _ => ?_); conv => whnf)
      | (refine SBool.mk (fun h => ?_) (fun h => ?_) <;> conv => whnf)
      | (refine SEx.mk _ (by first | exact rfl | exact ⟨of_decide_eq_true rfl, rfl⟩) ?_; conv => whnf)
      | (refine SAll.mk (fun _ => ?_); conv => whnf)
      | (refine SAnd.mk ⟨by intro c hc; simp at hc; first | (subst hc; rfl) | ((repeat' (rcases hc with rfl | hc)) <;> first | rfl | (subst hc; rfl)), by (simp; first | done | omega), by (simp; first | done | omega)⟩ ?_; conv => whnf)
      | (refine SAnd.mk (by first | exact rfl | kernel_rfl | omega | decide) ?_; conv => whnf)
      | fail)
    refine ACall.inline goodQ [] (fn := Tryz.f142) (by kernel_rfl) (by kernel_rfl) rfl rfl (by kernel_rfl) rfl (by kernel_rfl) ?_
    conv => whnf
    repeat' (first
      | (refine codeK_sound good (mu := []) ?_; conv => whnf)
      | ((first | rw [wl0] | rw [wl1] | rw [wl2] | rw [wl3] | rw [wl4] | rw [wl5]); conv => whnf)
      | (refine SBool.mk (fun _ => ?_) (fun h => absurd (of_decide_eq_true rfl) h); conv => whnf)
      | (refine SBool.mk (fun h => absurd h (of_decide_eq_false rfl)) (fun _ => ?_); conv => whnf)
      | (refine SBool.mk (fun h => ?_) (fun h => ?_) <;> conv => whnf)
      | (refine SEx.mk _ (by first | exact hInt hia | exact hOne _ _ | exact hIn0 _ _) ?_; conv => whnf)
      | (refine SEx.mk _ (by first | exact rfl | exact ⟨of_decide_eq_true rfl, rfl⟩) ?_; conv => whnf)
      | (refine SAll.mk (fun _ => ?_); conv => whnf)
      | (refine SAnd.mk ⟨by intro c hc; simp at hc; first | (subst hc; rfl) | ((repeat' (rcases hc with rfl | hc)) <;> first | rfl | (subst hc; rfl)), by (simp; first | done | omega), by (simp; first | done | omega)⟩ ?_; conv => whnf)
      | (refine SAnd.mk (by first | exact rfl | kernel_rfl | omega | decide | exact hInt hia | exact hOne _ _ | exact hIn0 _ _) ?_; conv => whnf)
      | fail)
    skip
    · refine SLe.ofO [(9, 9), (8, 8), (4, 4), (2, 2), (1, 1), (0, 0), (3, 3)] [(5, 5)] [(7, 7), (6, 6), (3, 3)] rfl rfl rfl ?_
      conv => whnf
      repeat' (first
      | exact True.intro
      | (refine SAnd.mk (by first | exact PLeL.refl _ | (simp only [tkV, hia]; exact PLeL.refl _)) ?_; conv => whnf)
      | (refine SAnd.mk (PLe.of_eq (by simp only [wrapK]; rw [wrap_id (by first | omega | (simp only; done) | (simp only; omega) | simp) (by first | omega | (simp only; done) | (simp only; omega) | simp)]; simp)) ?_; conv => whnf)
      | (refine SAnd.mk (PLe.refl _) ?_; conv => whnf)
      | (refine SAnd.mk (PLeL.refl _) ?_; conv => whnf)
      | (refine SAnd.mk (PLe.of_eq (by simp)) ?_; conv => whnf)
      | (refine SAnd.mk rfl ?_; conv => whnf)
      | (refine SAnd.mk ⟨rfl, rfl⟩ ?_; conv => whnf)
      | (refine SAnd.mk ⟨rfl, rfl, rfl⟩ ?_; conv => whnf))

set_option maxHeartbeats 4000000 in
theorem takes {m : Int} {gd gl g5 : Nat} {L : LpC} {W T R : PV} {O : List (List PV)} {ended : Bool} (st0 : Tk) :
    AWp (CQ m) Tryz.f64.ntmps (codeAt [1,1,1,0,1,0,0,0,1,1,1,1,1,0,1,0] c64) (fun e s' => match e with | .exit 2 => SLe (CQ m) Tryz.f64.ntmps s' ⟨[(34, .p (I 3)), (12, .box 9 0), (11, .bnd 142 [.box 8 0]), (10, .box 8 0), (9, .p W), (8, .p (Bo ended)), (5, .box 3 0), (4, .box 2 0), (3, .box 1 0), (2, .box 0 0)], [(9, (203, [I (tkN st0 0), I (tkN st0 1), I (tkN st0 2), I (tkN st0 3), I (tkN st0 4), I (tkN st0 5)])), (8, (202, [.seq 1 (cellsS (tkS st0 6).1), Bo (tkS st0 6).2])), (4, (9, [R])), (2, (29, [I 0])), (1, (3, [I 0])), (0, (70, [nilS]))], [(5, (32, 6, O))], 10, [(0, .p (.v (.func (.yield gl) #[] #[]))), (1, .box 4 0), (3, .p T), (Tryz.f175.ntmps + 19, .clo 175 [.box 4 0]), (Tryz.f175.ntmps + 5, .box 3 0), (Tryz.f175.ntmps + 4, .box 2 0), (Tryz.f175.ntmps + 3, .box 1 0), (Tryz.f175.ntmps + 2, .box 0 0)], [(7, .loop gl .busy Tryz.f64.ntmps [(19, .clo 175 [.box 4 0]), (5, .box 3 0), (4, .box 2 0), (3, .box 1 0), (2, .box 0 0)] L), (6, .dfr gd), (3, .hold g5 70 (.own 5))], []⟩ | _ => False) ⟨[(34, .p (I 0)), (12, .box 9 0), (11, .bnd 142 [.box 8 0]), (10, .box 8 0), (9, .p W), (8, .p (Bo ended)), (5, .box 3 0), (4, .box 2 0), (3, .box 1 0), (2, .box 0 0)], [(9, (203, [I 0, I 0, I 0, I 0, I 0, I 0])), (8, (202, [.seq 1 (cellsS st0.1), Bo st0.2])), (4, (9, [R])), (2, (29, [I 0])), (1, (3, [I 0])), (0, (70, [nilS]))], [(5, (32, 6, O))], 10, [(0, .p (.v (.func (.yield gl) #[] #[]))), (1, .box 4 0), (3, .p T), (Tryz.f175.ntmps + 19, .clo 175 [.box 4 0]), (Tryz.f175.ntmps + 5, .box 3 0), (Tryz.f175.ntmps + 4, .box 2 0), (Tryz.f175.ntmps + 3, .box 1 0), (Tryz.f175.ntmps + 2, .box 0 0)], [(7, .loop gl .busy Tryz.f64.ntmps [(19, .clo 175 [.box 4 0]), (5, .box 3 0), (4, .box 2 0), (3, .box 1 0), (2, .box 0 0)] L), (6, .dfr gd), (3, .hold g5 70 (.own 5))], []⟩ := by
  refine AWp.loop (ι := { p : Nat // p ≤ 3 }) (fun p => ⟨[(34, .p (I p.1)), (12, .box 9 0), (11, .bnd 142 [.box 8 0]), (10, .box 8 0), (9, .p W), (8, .p (Bo ended)), (5, .box 3 0), (4, .box 2 0), (3, .box 1 0), (2, .box 0 0)], [(9, (203, nums6 st0 p.1)), (8, (202, [.seq 1 (cellsS (tkS st0 (2 * p.1)).1), Bo (tkS st0 (2 * p.1)).2])), (4, (9, [R])), (2, (29, [I 0])), (1, (3, [I 0])), (0, (70, [nilS]))], [(5, (32, 6, O))], 10, [(0, .p (.v (.func (.yield gl) #[] #[]))), (1, .box 4 0), (3, .p T), (Tryz.f175.ntmps + 19, .clo 175 [.box 4 0]), (Tryz.f175.ntmps + 5, .box 3 0), (Tryz.f175.ntmps + 4, .box 2 0), (Tryz.f175.ntmps + 3, .box 1 0), (Tryz.f175.ntmps + 2, .box 0 0)], [(7, .loop gl .busy Tryz.f64.ntmps [(19, .clo 175 [.box 4 0]), (5, .box 3 0), (4, .box 2 0), (3, .box 1 0), (2, .box 0 0)] L), (6, .dfr gd), (3, .hold g5 70 (.own 5))], []⟩) (fun p => 3 - p.1) ⟨0, by simp⟩ ?_ ?_
  · skip
    · refine SLe.ofO [(9, 9), (8, 8), (4, 4), (2, 2), (1, 1), (0, 0), (3, 3)] [(5, 5)] [(7, 7), (6, 6), (3, 3)] rfl rfl rfl ?_
      conv => whnf
      repeat' (first
      | exact True.intro
      | (refine SAnd.mk (PLe.of_eq (by simp only [wrapK]; rw [wrap_id (by first | omega | (simp only; done) | (simp only; omega) | simp) (by first | omega | (simp only; done) | (simp only; omega) | simp)]; simp)) ?_; conv => whnf)
      | (refine SAnd.mk (PLe.refl _) ?_; conv => whnf)
      | (refine SAnd.mk (PLeL.refl _) ?_; conv => whnf)
      | (refine SAnd.mk (PLe.of_eq (by simp)) ?_; conv => whnf)
      | (refine SAnd.mk rfl ?_; conv => whnf)
      | (refine SAnd.mk ⟨rfl, rfl⟩ ?_; conv => whnf)
      | (refine SAnd.mk ⟨rfl, rfl, rfl⟩ ?_; conv => whnf))
  · rintro ⟨i, hi⟩
    · rcases (by omega : i = 0 ∨ i = 1 ∨ i = 2 ∨ i = 3) with rfl | rfl | rfl | rfl
      · refine .seq (codeK_sound goodQ (mu := []) ?_)
        conv => whnf
        refine SBool.mk (fun _ => ?_) (fun h => absurd (show ((0 : Nat) : Int) < 3 by decide) h)
        conv => whnf
        refine .seq (codeK_sound goodQ (mu := []) ?_)
        conv => whnf
        refine AWp.mid ⟨[(13, .p (I 0)), (34, .p (I 0)), (12, .box 9 0), (11, .bnd 142 [.box 8 0]), (10, .box 8 0), (9, .p W), (8, .p (Bo ended)), (5, .box 3 0), (4, .box 2 0), (3, .box 1 0), (2, .box 0 0)], [(9, (203, [I (tkN st0 0), I (tkN st0 1), I 0, I 0, I 0, I 0])), (8, (202, [.seq 1 (cellsS (tkS st0 2).1), Bo (tkS st0 2).2])), (4, (9, [R])), (2, (29, [I 0])), (1, (3, [I 0])), (0, (70, [nilS]))], [(5, (32, 6, O))], 10, [(0, .p (.v (.func (.yield gl) #[] #[]))), (1, .box 4 0), (3, .p T), (Tryz.f175.ntmps + 19, .clo 175 [.box 4 0]), (Tryz.f175.ntmps + 5, .box 3 0), (Tryz.f175.ntmps + 4, .box 2 0), (Tryz.f175.ntmps + 3, .box 1 0), (Tryz.f175.ntmps + 2, .box 0 0)], [(7, .loop gl .busy Tryz.f64.ntmps [(19, .clo 175 [.box 4 0]), (5, .box 3 0), (4, .box 2 0), (3, .box 1 0), (2, .box 0 0)] L), (6, .dfr gd), (3, .hold g5 70 (.own 5))], []⟩ ?_ ?_
        · refine codeK_sound goodQ (mu := []) ?_
          conv => whnf
          repeat' (first
            | (refine codeK_sound good (mu := []) ?_; conv => whnf)
            | ((first | rw [wl0] | rw [wl1] | rw [wl2] | rw [wl3] | rw [wl4] | rw [wl5]); conv => whnf)
            | (refine SBool.mk (fun _ => ?_) (fun h => absurd (of_decide_eq_true rfl) h); conv => whnf)
            | (refine SBool.mk (fun h => absurd h (of_decide_eq_false rfl)) (fun _ => ?_); conv => whnf)
            | (refine SBool.mk (fun h => ?_) (fun h => ?_) <;> conv => whnf)
            | (refine SEx.mk _ (by first | exact rfl | exact ⟨of_decide_eq_true rfl, rfl⟩) ?_; conv => whnf)
            | (refine SAll.mk (fun _ => ?_); conv => whnf)
            | (refine SAnd.mk ⟨by intro c hc; simp at hc; first | (subst hc; rfl) | ((repeat' (rcases hc with rfl | hc)) <;> first | rfl | (subst hc; rfl)), by (simp; first | done | omega), by (simp; first | done | omega)⟩ ?_; conv => whnf)
            | (refine SAnd.mk (by first | exact rfl | kernel_rfl | omega | decide) ?_; conv => whnf)
            | fail)
          refine ⟨⟨1, by omega⟩, by simp only; omega, ?_⟩
          skip
          · refine SLe.ofO [(9, 9), (8, 8), (4, 4), (2, 2), (1, 1), (0, 0), (3, 3)] [(5, 5)] [(7, 7), (6, 6), (3, 3)] rfl rfl rfl ?_
            conv => whnf
            repeat' (first
            | exact True.intro
            | (refine SAnd.mk (PLe.of_eq (by simp only [wrapK]; rw [wrap_id (by first | omega | (simp only; done) | (simp only; omega) | simp) (by first | omega | (simp only; done) | (simp only; omega) | simp)]; simp)) ?_; conv => whnf)
            | (refine SAnd.mk (PLe.refl _) ?_; conv => whnf)
            | (refine SAnd.mk (PLeL.refl _) ?_; conv => whnf)
            | (refine SAnd.mk (PLe.of_eq (by simp)) ?_; conv => whnf)
            | (refine SAnd.mk rfl ?_; conv => whnf)
            | (refine SAnd.mk ⟨rfl, rfl⟩ ?_; conv => whnf)
            | (refine SAnd.mk ⟨rfl, rfl, rfl⟩ ?_; conv => whnf))
        · refine .block (.seq (codeK_sound goodQ (mu := []) ?_))
          conv => whnf
          refine AWp.mid ⟨[(13, .p (I 0)), (34, .p (I 0)), (12, .box 9 0), (11, .bnd 142 [.box 8 0]), (10, .box 8 0), (9, .p W), (8, .p (Bo ended)), (5, .box 3 0), (4, .box 2 0), (3, .box 1 0), (2, .box 0 0)], [(9, (203, [I (tkN st0 0), I 0, I 0, I 0, I 0, I 0])), (8, (202, [.seq 1 (cellsS (tkS st0 1).1), Bo (tkS st0 1).2])), (4, (9, [R])), (2, (29, [I 0])), (1, (3, [I 0])), (0, (70, [nilS]))], [(5, (32, 6, O))], 10, [(0, .p (.v (.func (.yield gl) #[] #[]))), (1, .box 4 0), (3, .p T), (Tryz.f175.ntmps + 19, .clo 175 [.box 4 0]), (Tryz.f175.ntmps + 5, .box 3 0), (Tryz.f175.ntmps + 4, .box 2 0), (Tryz.f175.ntmps + 3, .box 1 0), (Tryz.f175.ntmps + 2, .box 0 0)], [(7, .loop gl .busy Tryz.f64.ntmps [(19, .clo 175 [.box 4 0]), (5, .box 3 0), (4, .box 2 0), (3, .box 1 0), (2, .box 0 0)] L), (6, .dfr gd), (3, .hold g5 70 (.own 5))], []⟩ ?_ ?_
          · refine (num1 (m := m) (gd := gd) (gl := gl) (g5 := g5) (L := L) (W := W) (T := T) (R := R) (O := O) (ended := ended) (tkS st0 1).1 (tkS st0 1).2 (tkN st0 0) 0 0 0 0 0).mono (fun e s' h => ?_)
            cases e with
            | normal => exact h
            | ret => exact h.elim
            | exit _ => exact h.elim
          · refine AWp.le ?_ ((num0 (m := m) (gd := gd) (gl := gl) (g5 := g5) (L := L) (W := W) (T := T) (R := R) (O := O) (ended := ended) (tkS st0 0).1 (tkS st0 0).2 0 0 0 0 0 0).mono (fun e s' h => ?_))
            · skip
              · refine SLe.ofO [(9, 9), (8, 8), (4, 4), (2, 2), (1, 1), (0, 0), (3, 3)] [(5, 5)] [(7, 7), (6, 6), (3, 3)] rfl rfl rfl ?_
                conv => whnf
                repeat' (first
                | exact True.intro
                | (refine SAnd.mk (PLe.of_eq (by simp only [wrapK]; rw [wrap_id (by first | omega | (simp only; done) | (simp only; omega) | simp) (by first | omega | (simp only; done) | (simp only; omega) | simp)]; simp)) ?_; conv => whnf)
                | (refine SAnd.mk (PLe.refl _) ?_; conv => whnf)
                | (refine SAnd.mk (PLeL.refl _) ?_; conv => whnf)
                | (refine SAnd.mk (PLe.of_eq (by simp)) ?_; conv => whnf)
                | (refine SAnd.mk rfl ?_; conv => whnf)
                | (refine SAnd.mk ⟨rfl, rfl⟩ ?_; conv => whnf)
                | (refine SAnd.mk ⟨rfl, rfl, rfl⟩ ?_; conv => whnf))
            · cases e with
              | normal => exact h
              | ret => exact h.elim
              | exit _ => exact h.elim
      · refine .seq (codeK_sound goodQ (mu := []) ?_)
        conv => whnf
        refine SBool.mk (fun _ => ?_) (fun h => absurd (show ((1 : Nat) : Int) < 3 by decide) h)
        conv => whnf
        refine .seq (codeK_sound goodQ (mu := []) ?_)
        conv => whnf
        refine AWp.mid ⟨[(13, .p (I 1)), (34, .p (I 1)), (12, .box 9 0), (11, .bnd 142 [.box 8 0]), (10, .box 8 0), (9, .p W), (8, .p (Bo ended)), (5, .box 3 0), (4, .box 2 0), (3, .box 1 0), (2, .box 0 0)], [(9, (203, [I (tkN st0 0), I (tkN st0 1), I (tkN st0 2), I (tkN st0 3), I 0, I 0])), (8, (202, [.seq 1 (cellsS (tkS st0 4).1), Bo (tkS st0 4).2])), (4, (9, [R])), (2, (29, [I 0])), (1, (3, [I 0])), (0, (70, [nilS]))], [(5, (32, 6, O))], 10, [(0, .p (.v (.func (.yield gl) #[] #[]))), (1, .box 4 0), (3, .p T), (Tryz.f175.ntmps + 19, .clo 175 [.box 4 0]), (Tryz.f175.ntmps + 5, .box 3 0), (Tryz.f175.ntmps + 4, .box 2 0), (Tryz.f175.ntmps + 3, .box 1 0), (Tryz.f175.ntmps + 2, .box 0 0)], [(7, .loop gl .busy Tryz.f64.ntmps [(19, .clo 175 [.box 4 0]), (5, .box 3 0), (4, .box 2 0), (3, .box 1 0), (2, .box 0 0)] L), (6, .dfr gd), (3, .hold g5 70 (.own 5))], []⟩ ?_ ?_
        · refine codeK_sound goodQ (mu := []) ?_
          conv => whnf
          repeat' (first
            | (refine codeK_sound good (mu := []) ?_; conv => whnf)
            | ((first | rw [wl0] | rw [wl1] | rw [wl2] | rw [wl3] | rw [wl4] | rw [wl5]); conv => whnf)
            | (refine SBool.mk (fun _ => ?_) (fun h => absurd (of_decide_eq_true rfl) h); conv => whnf)
            | (refine SBool.mk (fun h => absurd h (of_decide_eq_false rfl)) (fun _ => ?_); conv => whnf)
            | (refine SBool.mk (fun h => ?_) (fun h => ?_) <;> conv => whnf)
            | (refine SEx.mk _ (by first | exact rfl | exact ⟨of_decide_eq_true rfl, rfl⟩) ?_; conv => whnf)
            | (refine SAll.mk (fun _ => ?_); conv => whnf)
            | (refine SAnd.mk ⟨by intro c hc; simp at hc; first | (subst hc; rfl) | ((repeat' (rcases hc with rfl | hc)) <;> first | rfl | (subst hc; rfl)), by (simp; first | done | omega), by (simp; first | done | omega)⟩ ?_; conv => whnf)
            | (refine SAnd.mk (by first | exact rfl | kernel_rfl | omega | decide) ?_; conv => whnf)
            | fail)
          refine ⟨⟨2, by omega⟩, by simp only; omega, ?_⟩
          skip
          · refine SLe.ofO [(9, 9), (8, 8), (4, 4), (2, 2), (1, 1), (0, 0), (3, 3)] [(5, 5)] [(7, 7), (6, 6), (3, 3)] rfl rfl rfl ?_
            conv => whnf
            repeat' (first
            | exact True.intro
            | (refine SAnd.mk (PLe.of_eq (by simp only [wrapK]; rw [wrap_id (by first | omega | (simp only; done) | (simp only; omega) | simp) (by first | omega | (simp only; done) | (simp only; omega) | simp)]; simp)) ?_; conv => whnf)
            | (refine SAnd.mk (PLe.refl _) ?_; conv => whnf)
            | (refine SAnd.mk (PLeL.refl _) ?_; conv => whnf)
            | (refine SAnd.mk (PLe.of_eq (by simp)) ?_; conv => whnf)
            | (refine SAnd.mk rfl ?_; conv => whnf)
            | (refine SAnd.mk ⟨rfl, rfl⟩ ?_; conv => whnf)
            | (refine SAnd.mk ⟨rfl, rfl, rfl⟩ ?_; conv => whnf))
        · refine .block (.seq (codeK_sound goodQ (mu := []) ?_))
          conv => whnf
          refine AWp.mid ⟨[(13, .p (I 1)), (34, .p (I 1)), (12, .box 9 0), (11, .bnd 142 [.box 8 0]), (10, .box 8 0), (9, .p W), (8, .p (Bo ended)), (5, .box 3 0), (4, .box 2 0), (3, .box 1 0), (2, .box 0 0)], [(9, (203, [I (tkN st0 0), I (tkN st0 1), I (tkN st0 2), I 0, I 0, I 0])), (8, (202, [.seq 1 (cellsS (tkS st0 3).1), Bo (tkS st0 3).2])), (4, (9, [R])), (2, (29, [I 0])), (1, (3, [I 0])), (0, (70, [nilS]))], [(5, (32, 6, O))], 10, [(0, .p (.v (.func (.yield gl) #[] #[]))), (1, .box 4 0), (3, .p T), (Tryz.f175.ntmps + 19, .clo 175 [.box 4 0]), (Tryz.f175.ntmps + 5, .box 3 0), (Tryz.f175.ntmps + 4, .box 2 0), (Tryz.f175.ntmps + 3, .box 1 0), (Tryz.f175.ntmps + 2, .box 0 0)], [(7, .loop gl .busy Tryz.f64.ntmps [(19, .clo 175 [.box 4 0]), (5, .box 3 0), (4, .box 2 0), (3, .box 1 0), (2, .box 0 0)] L), (6, .dfr gd), (3, .hold g5 70 (.own 5))], []⟩ ?_ ?_
          · refine (num3 (m := m) (gd := gd) (gl := gl) (g5 := g5) (L := L) (W := W) (T := T) (R := R) (O := O) (ended := ended) (tkS st0 3).1 (tkS st0 3).2 (tkN st0 0) (tkN st0 1) (tkN st0 2) 0 0 0).mono (fun e s' h => ?_)
            cases e with
            | normal => exact h
            | ret => exact h.elim
            | exit _ => exact h.elim
          · refine AWp.le ?_ ((num2 (m := m) (gd := gd) (gl := gl) (g5 := g5) (L := L) (W := W) (T := T) (R := R) (O := O) (ended := ended) (tkS st0 2).1 (tkS st0 2).2 (tkN st0 0) (tkN st0 1) 0 0 0 0).mono (fun e s' h => ?_))
            · skip
              · refine SLe.ofO [(9, 9), (8, 8), (4, 4), (2, 2), (1, 1), (0, 0), (3, 3)] [(5, 5)] [(7, 7), (6, 6), (3, 3)] rfl rfl rfl ?_
                conv => whnf
                repeat' (first
                | exact True.intro
                | (refine SAnd.mk (PLe.of_eq (by simp only [wrapK]; rw [wrap_id (by first | omega | (simp only; done) | (simp only; omega) | simp) (by first | omega | (simp only; done) | (simp only; omega) | simp)]; simp)) ?_; conv => whnf)
                | (refine SAnd.mk (PLe.refl _) ?_; conv => whnf)
                | (refine SAnd.mk (PLeL.refl _) ?_; conv => whnf)
                | (refine SAnd.mk (PLe.of_eq (by simp)) ?_; conv => whnf)
                | (refine SAnd.mk rfl ?_; conv => whnf)
                | (refine SAnd.mk ⟨rfl, rfl⟩ ?_; conv => whnf)
                | (refine SAnd.mk ⟨rfl, rfl, rfl⟩ ?_; conv => whnf))
            · cases e with
              | normal => exact h
              | ret => exact h.elim
              | exit _ => exact h.elim
      · refine .seq (codeK_sound goodQ (mu := []) ?_)
        conv => whnf
        refine SBool.mk (fun _ => ?_) (fun h => absurd (show ((2 : Nat) : Int) < 3 by decide) h)
        conv => whnf
        refine .seq (codeK_sound goodQ (mu := []) ?_)
        conv => whnf
        refine AWp.mid ⟨[(13, .p (I 2)), (34, .p (I 2)), (12, .box 9 0), (11, .bnd 142 [.box 8 0]), (10, .box 8 0), (9, .p W), (8, .p (Bo ended)), (5, .box 3 0), (4, .box 2 0), (3, .box 1 0), (2, .box 0 0)], [(9, (203, [I (tkN st0 0), I (tkN st0 1), I (tkN st0 2), I (tkN st0 3), I (tkN st0 4), I (tkN st0 5)])), (8, (202, [.seq 1 (cellsS (tkS st0 6).1), Bo (tkS st0 6).2])), (4, (9, [R])), (2, (29, [I 0])), (1, (3, [I 0])), (0, (70, [nilS]))], [(5, (32, 6, O))], 10, [(0, .p (.v (.func (.yield gl) #[] #[]))), (1, .box 4 0), (3, .p T), (Tryz.f175.ntmps + 19, .clo 175 [.box 4 0]), (Tryz.f175.ntmps + 5, .box 3 0), (Tryz.f175.ntmps + 4, .box 2 0), (Tryz.f175.ntmps + 3, .box 1 0), (Tryz.f175.ntmps + 2, .box 0 0)], [(7, .loop gl .busy Tryz.f64.ntmps [(19, .clo 175 [.box 4 0]), (5, .box 3 0), (4, .box 2 0), (3, .box 1 0), (2, .box 0 0)] L), (6, .dfr gd), (3, .hold g5 70 (.own 5))], []⟩ ?_ ?_
        · refine codeK_sound goodQ (mu := []) ?_
          conv => whnf
          repeat' (first
            | (refine codeK_sound good (mu := []) ?_; conv => whnf)
            | ((first | rw [wl0] | rw [wl1] | rw [wl2] | rw [wl3] | rw [wl4] | rw [wl5]); conv => whnf)
            | (refine SBool.mk (fun _ => ?_) (fun h => absurd (of_decide_eq_true rfl) h); conv => whnf)
            | (refine SBool.mk (fun h => absurd h (of_decide_eq_false rfl)) (fun _ => ?_); conv => whnf)
            | (refine SBool.mk (fun h => ?_) (fun h => ?_) <;> conv => whnf)
            | (refine SEx.mk _ (by first | exact rfl | exact ⟨of_decide_eq_true rfl, rfl⟩) ?_; conv => whnf)
            | (refine SAll.mk (fun _ => ?_); conv => whnf)
            | (refine SAnd.mk ⟨by intro c hc; simp at hc; first | (subst hc; rfl) | ((repeat' (rcases hc with rfl | hc)) <;> first | rfl | (subst hc; rfl)), by (simp; first | done | omega), by (simp; first | done | omega)⟩ ?_; conv => whnf)
            | (refine SAnd.mk (by first | exact rfl | kernel_rfl | omega | decide) ?_; conv => whnf)
            | fail)
          refine ⟨⟨3, by omega⟩, by simp only; omega, ?_⟩
          skip
          · refine SLe.ofO [(9, 9), (8, 8), (4, 4), (2, 2), (1, 1), (0, 0), (3, 3)] [(5, 5)] [(7, 7), (6, 6), (3, 3)] rfl rfl rfl ?_
            conv => whnf
            repeat' (first
            | exact True.intro
            | (refine SAnd.mk (PLe.of_eq (by simp only [wrapK]; rw [wrap_id (by first | omega | (simp only; done) | (simp only; omega) | simp) (by first | omega | (simp only; done) | (simp only; omega) | simp)]; simp)) ?_; conv => whnf)
            | (refine SAnd.mk (PLe.refl _) ?_; conv => whnf)
            | (refine SAnd.mk (PLeL.refl _) ?_; conv => whnf)
            | (refine SAnd.mk (PLe.of_eq (by simp)) ?_; conv => whnf)
            | (refine SAnd.mk rfl ?_; conv => whnf)
            | (refine SAnd.mk ⟨rfl, rfl⟩ ?_; conv => whnf)
            | (refine SAnd.mk ⟨rfl, rfl, rfl⟩ ?_; conv => whnf))
        · refine .block (.seq (codeK_sound goodQ (mu := []) ?_))
          conv => whnf
          refine AWp.mid ⟨[(13, .p (I 2)), (34, .p (I 2)), (12, .box 9 0), (11, .bnd 142 [.box 8 0]), (10, .box 8 0), (9, .p W), (8, .p (Bo ended)), (5, .box 3 0), (4, .box 2 0), (3, .box 1 0), (2, .box 0 0)], [(9, (203, [I (tkN st0 0), I (tkN st0 1), I (tkN st0 2), I (tkN st0 3), I (tkN st0 4), I 0])), (8, (202, [.seq 1 (cellsS (tkS st0 5).1), Bo (tkS st0 5).2])), (4, (9, [R])), (2, (29, [I 0])), (1, (3, [I 0])), (0, (70, [nilS]))], [(5, (32, 6, O))], 10, [(0, .p (.v (.func (.yield gl) #[] #[]))), (1, .box 4 0), (3, .p T), (Tryz.f175.ntmps + 19, .clo 175 [.box 4 0]), (Tryz.f175.ntmps + 5, .box 3 0), (Tryz.f175.ntmps + 4, .box 2 0), (Tryz.f175.ntmps + 3, .box 1 0), (Tryz.f175.ntmps + 2, .box 0 0)], [(7, .loop gl .busy Tryz.f64.ntmps [(19, .clo 175 [.box 4 0]), (5, .box 3 0), (4, .box 2 0), (3, .box 1 0), (2, .box 0 0)] L), (6, .dfr gd), (3, .hold g5 70 (.own 5))], []⟩ ?_ ?_
          · refine (num5 (m := m) (gd := gd) (gl := gl) (g5 := g5) (L := L) (W := W) (T := T) (R := R) (O := O) (ended := ended) (tkS st0 5).1 (tkS st0 5).2 (tkN st0 0) (tkN st0 1) (tkN st0 2) (tkN st0 3) (tkN st0 4) 0).mono (fun e s' h => ?_)
            cases e with
            | normal => exact h
            | ret => exact h.elim
            | exit _ => exact h.elim
          · refine AWp.le ?_ ((num4 (m := m) (gd := gd) (gl := gl) (g5 := g5) (L := L) (W := W) (T := T) (R := R) (O := O) (ended := ended) (tkS st0 4).1 (tkS st0 4).2 (tkN st0 0) (tkN st0 1) (tkN st0 2) (tkN st0 3) 0 0).mono (fun e s' h => ?_))
            · skip
              · refine SLe.ofO [(9, 9), (8, 8), (4, 4), (2, 2), (1, 1), (0, 0), (3, 3)] [(5, 5)] [(7, 7), (6, 6), (3, 3)] rfl rfl rfl ?_
                conv => whnf
                repeat' (first
                | exact True.intro
                | (refine SAnd.mk (PLe.of_eq (by simp only [wrapK]; rw [wrap_id (by first | omega | (simp only; done) | (simp only; omega) | simp) (by first | omega | (simp only; done) | (simp only; omega) | simp)]; simp)) ?_; conv => whnf)
                | (refine SAnd.mk (PLe.refl _) ?_; conv => whnf)
                | (refine SAnd.mk (PLeL.refl _) ?_; conv => whnf)
                | (refine SAnd.mk (PLe.of_eq (by simp)) ?_; conv => whnf)
                | (refine SAnd.mk rfl ?_; conv => whnf)
                | (refine SAnd.mk ⟨rfl, rfl⟩ ?_; conv => whnf)
                | (refine SAnd.mk ⟨rfl, rfl, rfl⟩ ?_; conv => whnf))
            · cases e with
              | normal => exact h
              | ret => exact h.elim
              | exit _ => exact h.elim
      · refine .seq (codeK_sound goodQ (mu := []) ?_)
        conv => whnf
        refine SBool.mk (fun h => absurd h (show ¬ ((3 : Nat) : Int) < 3 by decide)) (fun _ => ?_)
        conv => whnf
        refine codeK_sound goodQ (mu := []) ?_
        conv => whnf
        skip
        · refine SLe.ofO [(9, 9), (8, 8), (4, 4), (2, 2), (1, 1), (0, 0), (3, 3)] [(5, 5)] [(7, 7), (6, 6), (3, 3)] rfl rfl rfl ?_
          conv => whnf
          repeat' (first
          | exact True.intro
          | (refine SAnd.mk (PLe.of_eq (by simp only [wrapK]; rw [wrap_id (by first | omega | (simp only; done) | (simp only; omega) | simp) (by first | omega | (simp only; done) | (simp only; omega) | simp)]; simp)) ?_; conv => whnf)
          | (refine SAnd.mk (PLe.refl _) ?_; conv => whnf)
          | (refine SAnd.mk (PLeL.refl _) ?_; conv => whnf)
          | (refine SAnd.mk (PLe.of_eq (by simp)) ?_; conv => whnf)
          | (refine SAnd.mk rfl ?_; conv => whnf)
          | (refine SAnd.mk ⟨rfl, rfl⟩ ?_; conv => whnf)
          | (refine SAnd.mk ⟨rfl, rfl, rfl⟩ ?_; conv => whnf))
end Go.Proofs.Ab.Tone2
end
