/- The proof of ToneHeard (see the last theorem): for every input that can be read the law returns true; the listed package-level variables are as the program's text lays them. -/
import Derived.Test.YtkphoimochkndaaGreatDoorK6
import Derived.Laws.ComplexArith
section
/- A body that is cut into pieces. -/
set_option linter.unusedVariables false
set_option linter.unusedSimpArgs false
namespace Go.Proofs.Ab
open Go Go.RowKit

/-- Where the evaluation is cut. -/
structure SCut (p : Prop) : Prop where
  h : p
end Go.Proofs.Ab
end
section
/- The reference's digits and signed numbers. -/
set_option maxRecDepth 100000
set_option linter.unusedVariables false
set_option linter.unusedSimpArgs false
namespace Go.Proofs.Ab.Tone2
open Go Go.RowKit Go.Proofs.Ab Go.Proofs.Ab.Tone
theorem byte_at {l : List UInt8} {k : Nat} (h : k < l.length) : byteAt ⟨l.toArray⟩ ((k : Int)).toNat = (l[k].toNat : Int) := by
  show byteAt ⟨l.toArray⟩ k = _
  have hs : k < (⟨l.toArray⟩ : ByteArray).size := by simpa [ByteArray.size] using h
  unfold byteAt
  rw [getElem?_pos (⟨l.toArray⟩ : ByteArray) k hs]
  rfl
theorem trim45 (l : List UInt8) : Lib.trimPrefix (45 :: l) [45] = l ∧ Lib.hasPrefix (45 :: l) [45] = true := ⟨by simp [Lib.trimPrefix, Lib.hasPrefix], by simp [Lib.hasPrefix]⟩
theorem trim45' {c : UInt8} (l : List UInt8) (h : ¬ c = 45) : Lib.trimPrefix (c :: l) [45] = c :: l ∧ Lib.hasPrefix (c :: l) [45] = false := by
  have e : Lib.hasPrefix (c :: l) [45] = false := by
    show ((45 == c) && List.isPrefixOf [] l) = false
    rw [show ((45 : UInt8) == c) = false from beq_false_of_ne (Ne.symm h)]
    rfl
  refine ⟨?_, e⟩
  unfold Lib.trimPrefix
  rw [e]
  rfl
end Go.Proofs.Ab.Tone2
end
section
/- The reference's Split. -/
set_option maxRecDepth 100000
set_option linter.unusedVariables false
set_option linter.unusedSimpArgs false
namespace Go.Proofs.Ab.Tone2
open Go Go.RowKit Go.Proofs.Ab Go.Proofs.Ab.Tone
/-- The parts between separators. -/
def splitG (b : UInt8) : List UInt8 → List (List UInt8)
  | [] => [[]]
  | c :: l => if c = b then [] :: splitG b l else match splitG b l with
    | w :: ws => (c :: w) :: ws
    | [] => [[c]]
theorem splitG_sep {b : UInt8} : ∀ (p r : List UInt8), (∀ c ∈ p, ¬ c = b) → splitG b (p ++ b :: r) = p :: splitG b r
  | [], r, _ => by simp [splitG]
  | c :: p, r, h => by
    have ih := splitG_sep p r fun x hx => h x (List.mem_cons_of_mem _ hx)
    simp only [List.cons_append, splitG, if_neg (h c List.mem_cons_self), ih]
theorem splitG_end {b : UInt8} : ∀ (p : List UInt8), (∀ c ∈ p, ¬ c = b) → splitG b p = [p]
  | [], _ => rfl
  | c :: p, h => by
    have ih := splitG_end p fun x hx => h x (List.mem_cons_of_mem _ hx)
    simp only [splitG, if_neg (h c List.mem_cons_self), ih]
abbrev bytesL (ws : List (List UInt8)) : List ByteArray := ws.map fun w => ⟨w.toArray⟩
theorem ext_mid (r : List UInt8) {i j : Nat} (h : i ≤ j) : (⟨r.toArray⟩ : ByteArray).extract i j = ⟨((r.drop i).take (j - i)).toArray⟩ := by
  apply ByteArray.ext
  simp [List.take_drop, Nat.add_sub_cancel' h]
structure SpI (b : UInt8) (l : List UInt8) (k fr : Nat) (outs : List (List UInt8)) : Prop where
  h1 : fr ≤ k
  h2 : k ≤ l.length
  h3 : splitG b l = outs ++ splitG b (l.drop fr)
  h4 : ∀ c ∈ (l.drop fr).take (k - fr), ¬ c = b
  h5 : outs.length ≤ fr
theorem SpI.sep {b : UInt8} {l : List UInt8} {k fr : Nat} {outs : List (List UInt8)} (h : SpI b l k fr outs) (hk : k < l.length) (hb : l[k] = b) : SpI b l (k + 1) (k + 1) (outs ++ [(l.drop fr).take (k - fr)]) := by
  have h1 := h.h1
  refine ⟨Nat.le_refl _, hk, ?_, fun c hc => by simp at hc, by have := h.h5; simp; omega⟩
  have e : l.drop fr = (l.drop fr).take (k - fr) ++ b :: l.drop (k + 1) := by
    have e1 : (l.drop fr).drop (k - fr) = b :: l.drop (k + 1) := by
      rw [List.drop_drop, show fr + (k - fr) = k by omega, List.drop_eq_getElem_cons hk, hb]
    rw [← e1, List.take_append_drop]
  rw [h.h3, List.append_assoc]
  congr 1
  conv => lhs; rw [e]
  exact splitG_sep _ _ h.h4
theorem SpI.next {b : UInt8} {l : List UInt8} {k fr : Nat} {outs : List (List UInt8)} (h : SpI b l k fr outs) (hk : k < l.length) (hb : ¬ l[k] = b) : SpI b l (k + 1) fr outs := by
  have h1 := h.h1
  refine ⟨by omega, hk, h.h3, fun c hc => ?_, h.h5⟩
  rw [show k + 1 - fr = (k - fr) + 1 by omega, List.take_add_one, List.mem_append] at hc
  rcases hc with hc | hc
  · exact h.h4 c hc
  · rw [List.getElem?_drop, show fr + (k - fr) = k by omega, List.getElem?_eq_getElem hk] at hc
    simp at hc
    rw [hc]
    exact hb
theorem SpI.fin {b : UInt8} {l : List UInt8} {fr : Nat} {outs : List (List UInt8)} (h : SpI b l l.length fr outs) : splitG b l = outs ++ [l.drop fr] := by
  have h1 := h.h1
  rw [h.h3, splitG_end]
  intro c hc
  refine h.h4 c ?_
  rw [List.take_of_length_le (by simp)]
  exact hc
theorem app_one (outs : List (List UInt8)) (s : ByteArray) (h : outs.length ≤ 1000000) : (∀ c ∈ ([[St s]] : List (List PV)).flatten, c.one = true) ∧ ((cellsS (bytesL outs)).length + 1) * 16 ≤ 140737488355328 ∧ (cellsS (bytesL outs)).length + 1 ≤ 9223372036854775807 := by
  refine ⟨fun c hc => ?_, by simp only [List.length_map]; omega, by simp only [List.length_map]; omega⟩
  simp at hc
  rw [hc]
  rfl
theorem Split_pure {m : Int} (l : List UInt8) (b : UInt8) (hl : l.length ≤ 1000000) : APure (C m) 78 [St ⟨l.toArray⟩, .v (.int .u8 b.toNat)] (.seq 1 (cellsS (bytesL (splitG b l)))) := by
  have hbs : (⟨l.toArray⟩ : ByteArray).size = l.length := by simp [ByteArray.size]
  refine APure.of_body good [] (fn := Tryz.f78) (by kernel_rfl) (by kernel_rfl) rfl rfl (by kernel_rfl) rfl (by kernel_rfl) ?_
  conv => whnf
  repeat' (first
    | (refine codeK_sound good (mu := []) ?_; conv => whnf)
    | ((first | rw [wl0] | rw [wl1] | rw [wl2] | rw [wl3] | rw [wl4] | rw [wl5]); conv => whnf)
    | (refine SBool.mk (fun _ => ?_) (fun h => absurd (of_decide_eq_true rfl) h); conv => whnf)
    | (refine SBool.mk (fun h => absurd h (of_decide_eq_false rfl)) (fun _ => ?_); conv => whnf)
    | (refine SBool.mk (fun h => ?_) (fun h => ?_) <;> conv => whnf)
    | (refine SEx.mk _ (by first | exact rfl | exact ⟨of_decide_eq_true rfl, rfl⟩) ?_; conv => whnf)
    | (refine SAll.mk (fun _ => ?_); conv => whnf)
    | (refine SAnd.mk ⟨by intro c hc; simp at hc; first | (subst hc; rfl) | ((repeat' (rcases hc with rfl | hc)) <;> first | rfl | (subst hc; rfl)), by (simp; first | done | omega), by (simp; first | done | omega)⟩ ?_; conv => whnf)
    | (refine SAnd.mk (by first | exact rfl | kernel_rfl | omega | decide) ?_; conv => whnf)
    | fail)
  refine ⟨AWp.loop (ι := { p : Nat × Nat × List (List UInt8) // SpI b l p.1 p.2.1 p.2.2 }) (fun p => ⟨[(7, .p (I p.1.1)), (0, .p (St ⟨l.toArray⟩)), (1, .p (.v (.int .u8 b.toNat))), (6, .p (I p.1.2.1)), (5, .own 0)], [], [(0, (9, 1, cellsS (bytesL p.1.2.2)))], 1, [], [], []⟩) (fun p => l.length - p.1.1) ⟨(0, 0, []), ⟨Nat.le_refl _, Nat.zero_le _, by simp, fun c hc => by simp at hc, Nat.le_refl _⟩⟩ ?_ ?_⟩
  · refine SLe.row 5 9 1 ?_
    conv => whnf
    skip
    · refine SLe.of [] [(0, 0)] rfl rfl ?_
      conv => whnf
      repeat' (first
      | exact True.intro
      | (refine SAnd.mk (PLe.of_eq (by simp only [wrapK]; rw [wrap_id (by first | omega | (simp only; done) | (simp only; omega) | simp) (by first | omega | (simp only; done) | (simp only; omega) | simp)]; simp)) ?_; conv => whnf)
      | (refine SAnd.mk (PLe.refl _) ?_; conv => whnf)
      | (refine SAnd.mk (PLeL.refl _) ?_; conv => whnf)
      | (refine SAnd.mk (PLe.of_eq (by simp)) ?_; conv => whnf)
      | (refine SAnd.mk rfl ?_; conv => whnf)
      | (refine SAnd.mk ⟨rfl, rfl⟩ ?_; conv => whnf)
      | (refine SAnd.mk ⟨rfl, rfl, rfl⟩ ?_; conv => whnf))
  · rintro ⟨⟨k, fr, outs⟩, hI⟩
    have hI : SpI b l k fr outs := hI
    have hfk := hI.h1
    have hk := hI.h2
    have h5 := hI.h5
    refine codeK_sound good (mu := []) ?_
    conv => whnf
    refine SBool.mk (fun hc => ?_) (fun hc => ?_)
    · have hc' : (k : Int) < (((⟨l.toArray⟩ : ByteArray).size : Nat) : Int) := hc
      rw [hbs] at hc'
      have hkl : k < l.length := by omega
      have hs0 : (0 : Int) ≤ (k : Int) ∧ (k : Int) < ((⟨l.toArray⟩ : ByteArray).size : Int) := ⟨by omega, by rw [hbs]; omega⟩
      have hs1 : (0 : Int) ≤ (fr : Int) ∧ (fr : Int) ≤ (k : Int) ∧ (k : Int) ≤ ((⟨l.toArray⟩ : ByteArray).size : Int) := ⟨by omega, by omega, by rw [hbs]; omega⟩
      have wk : wrapK IntKind.i64 ((k : Int) + 1) = k + 1 := w64 (by omega)
      have m2 : l.length - (k + 1) < l.length - k := by omega
      have hby := byte_at hkl
      have hx : (⟨l.toArray⟩ : ByteArray).extract ((fr : Int)).toNat ((k : Int)).toNat = ⟨((l.drop fr).take (k - fr)).toArray⟩ := ext_mid l hfk
      have hap : (∀ c ∈ ([[St ⟨((l.drop fr).take (k - fr)).toArray⟩]] : List (List PV)).flatten, c.one = true) ∧ ((cellsS (bytesL outs)).length + 1) * 16 ≤ 140737488355328 ∧ (cellsS (bytesL outs)).length + 1 ≤ 9223372036854775807 := app_one outs _ (by omega)
      have ec : cellsS (bytesL outs) ++ [[St ⟨((l.drop fr).take (k - fr)).toArray⟩]] = cellsS (bytesL (outs ++ [(l.drop fr).take (k - fr)])) := by simp
      conv => whnf
      conv => whnf
      repeat' (first
        | (refine codeK_sound good (mu := []) ?_; conv => whnf)
        | ((first | rw [wl0] | rw [wl1] | rw [wl2] | rw [wl3] | rw [wl4] | rw [wl5]); conv => whnf)
        | (rw [hx]; conv => whnf)
        | (rw [wk]; conv => whnf)
        | (rw [hby]; conv => whnf)
        | (refine SBool.mk (fun _ => ?_) (fun h => absurd (of_decide_eq_true rfl) h); conv => whnf)
        | (refine SBool.mk (fun h => absurd h (of_decide_eq_false rfl)) (fun _ => ?_); conv => whnf)
        | (refine SBool.mk (fun h => ?_) (fun h => ?_) <;> conv => whnf)
        | (refine SEx.mk _ (by first | exact hs0 | exact hs1 | exact hap) ?_; conv => whnf)
        | (refine SEx.mk _ (by first | exact rfl | exact ⟨of_decide_eq_true rfl, rfl⟩) ?_; conv => whnf)
        | (refine SAll.mk (fun _ => ?_); conv => whnf)
        | (refine SAnd.mk (by first | exact hs0 | exact hs1 | exact hap) ?_; conv => whnf)
        | (refine SAnd.mk ⟨by intro c hc; simp at hc; first | (subst hc; rfl) | ((repeat' (rcases hc with rfl | hc)) <;> first | rfl | (subst hc; rfl)), by (simp; first | done | omega), by (simp; first | done | omega)⟩ ?_; conv => whnf)
        | (refine SAnd.mk (by first | exact rfl | kernel_rfl | omega | decide | exact hs0 | exact hs1 | exact hap) ?_; conv => whnf)
        | fail)
      · have hb : l[k] = b := UInt8.toNat_inj.1 (by have h : (l[k].toNat : Int) = b.toNat := h; clear hby hx; omega)
        refine ⟨⟨(k + 1, k + 1, outs ++ [(l.drop fr).take (k - fr)]), hI.sep hkl hb⟩, m2, ?_⟩
        skip
        · refine SLe.of [] [(0, 1)] rfl rfl ?_
          conv => whnf
          repeat' (first
          | exact True.intro
          | (refine SAnd.mk (show _ = (_ : List (List PV)) from ec) ?_; conv => whnf)
          | (refine SAnd.mk (PLe.of_eq (by simp only [wrapK]; rw [wrap_id (by first | omega | (simp only; done) | (simp only; omega) | simp) (by first | omega | (simp only; done) | (simp only; omega) | simp)]; simp)) ?_; conv => whnf)
          | (refine SAnd.mk (PLe.refl _) ?_; conv => whnf)
          | (refine SAnd.mk (PLeL.refl _) ?_; conv => whnf)
          | (refine SAnd.mk (PLe.of_eq (by simp)) ?_; conv => whnf)
          | (refine SAnd.mk rfl ?_; conv => whnf)
          | (refine SAnd.mk ⟨rfl, rfl⟩ ?_; conv => whnf)
          | (refine SAnd.mk ⟨rfl, rfl, rfl⟩ ?_; conv => whnf))
      · have hb : ¬ l[k] = b := fun e => by
          have h : ¬ (l[k].toNat : Int) = b.toNat := h
          exact h (by rw [e])
        refine ⟨⟨(k + 1, fr, outs), hI.next hkl hb⟩, m2, ?_⟩
        skip
        · refine SLe.of [] [(0, 0)] rfl rfl ?_
          conv => whnf
          repeat' (first
          | exact True.intro
          | (refine SAnd.mk (PLe.of_eq (by simp only [wrapK]; rw [wrap_id (by first | omega | (simp only; done) | (simp only; omega) | simp) (by first | omega | (simp only; done) | (simp only; omega) | simp)]; simp)) ?_; conv => whnf)
          | (refine SAnd.mk (PLe.refl _) ?_; conv => whnf)
          | (refine SAnd.mk (PLeL.refl _) ?_; conv => whnf)
          | (refine SAnd.mk (PLe.of_eq (by simp)) ?_; conv => whnf)
          | (refine SAnd.mk rfl ?_; conv => whnf)
          | (refine SAnd.mk ⟨rfl, rfl⟩ ?_; conv => whnf)
          | (refine SAnd.mk ⟨rfl, rfl, rfl⟩ ?_; conv => whnf))
    · have hc' : ¬ (k : Int) < (((⟨l.toArray⟩ : ByteArray).size : Nat) : Int) := hc
      rw [hbs] at hc'
      have hkl : k = l.length := by omega
      subst hkl
      have hx : (⟨l.toArray⟩ : ByteArray).extract ((fr : Int)).toNat (⟨l.toArray⟩ : ByteArray).size = ⟨(l.drop fr).toArray⟩ := ext_drop l fr
      have hs1 : (0 : Int) ≤ (fr : Int) ∧ (fr : Int) ≤ ((⟨l.toArray⟩ : ByteArray).size : Int) := ⟨by omega, by rw [hbs]; omega⟩
      have hap : (∀ c ∈ ([[St ⟨(l.drop fr).toArray⟩]] : List (List PV)).flatten, c.one = true) ∧ ((cellsS (bytesL outs)).length + 1) * 16 ≤ 140737488355328 ∧ (cellsS (bytesL outs)).length + 1 ≤ 9223372036854775807 := app_one outs _ (by omega)
      have ec : cellsS (bytesL outs) ++ [[St ⟨(l.drop fr).toArray⟩]] = cellsS (bytesL (splitG b l)) := by rw [hI.fin]; simp
      conv => whnf
      conv => whnf
      repeat' (first
        | (refine codeK_sound good (mu := []) ?_; conv => whnf)
        | ((first | rw [wl0] | rw [wl1] | rw [wl2] | rw [wl3] | rw [wl4] | rw [wl5]); conv => whnf)
        | (rw [hx]; conv => whnf)
        | (refine SBool.mk (fun _ => ?_) (fun h => absurd (of_decide_eq_true rfl) h); conv => whnf)
        | (refine SBool.mk (fun h => absurd h (of_decide_eq_false rfl)) (fun _ => ?_); conv => whnf)
        | (refine SBool.mk (fun h => ?_) (fun h => ?_) <;> conv => whnf)
        | (refine SEx.mk _ (by first | exact hs1 | exact hap) ?_; conv => whnf)
        | (refine SEx.mk _ (by first | exact rfl | exact ⟨of_decide_eq_true rfl, rfl⟩) ?_; conv => whnf)
        | (refine SAll.mk (fun _ => ?_); conv => whnf)
        | (refine SAnd.mk (by first | exact hs1 | exact hap) ?_; conv => whnf)
        | (refine SAnd.mk ⟨by intro c hc; simp at hc; first | (subst hc; rfl) | ((repeat' (rcases hc with rfl | hc)) <;> first | rfl | (subst hc; rfl)), by (simp; first | done | omega), by (simp; first | done | omega)⟩ ?_; conv => whnf)
        | (refine SAnd.mk (by first | exact rfl | kernel_rfl | omega | decide | exact hs1 | exact hap) ?_; conv => whnf)
        | fail)
      exact ⟨PLe.of_eq (congrArg (PV.seq 1) ec)⟩
end Go.Proofs.Ab.Tone2
end
section
/- The reference's parseSignal. -/
set_option maxRecDepth 100000
set_option linter.unusedVariables false
set_option linter.unusedSimpArgs false
namespace Go.Proofs.Ab.Tone2
open Go Go.RowKit Go.Proofs.Ab Go.Proofs.Ab.Tone
abbrev sigL : List UInt8 := [115, 105, 103, 110, 97, 108]
abbrev inB (w : List UInt8) : Int × Bool := intB ⟨w.toArray⟩
/-- The signal of a line's words. -/
def refSgW : List (List UInt8) → Sg × Bool
  | [w0, w1, w2, w3, w4, w5, w6] => if w0 = sigL ∧ (inB w1).2 = true ∧ (inB w2).2 = true ∧ (inB w3).2 = true ∧ (inB w4).2 = true ∧ (inB w5).2 = true ∧ (inB w6).2 = true then (⟨⟨(inB w1).1, (inB w2).1⟩, ⟨(inB w3).1, (inB w4).1⟩, ⟨(inB w5).1, (inB w6).1⟩⟩, true) else (S0, false)
  | _ => (S0, false)
def refSg (l : List UInt8) : Sg × Bool := refSgW (splitG 32 l)
end Go.Proofs.Ab.Tone2
end
section
/- The reference's signals and its follower; the law's lists. -/
set_option maxRecDepth 100000
set_option linter.unusedVariables false
set_option linter.unusedSimpArgs false
namespace Go.Proofs.Ab.Tone2
open Go Go.RowKit Go.Proofs.Ab Go.Proofs.Ab.Tone
theorem refCheckSignal_pure' (s : Sg) : APure Tone.C 18 [.agg (sc s)] (I (checkE s)) := refCheckE_eq s ▸ refCheckSignal_pure s
/-- The law's list of signals as the program's. -/
theorem signals_pure {m : Int} (xs : List Sg) (hl : xs.length ≤ 1000000) : APure (C m) 42 [.seq 6 (xs.map sc)] (.seq 6 (xs.map sc)) := by
  refine APure.of_body good [] (fn := Tryz.f42) (by kernel_rfl) (by kernel_rfl) rfl rfl (by kernel_rfl) rfl (by kernel_rfl) ?_
  conv => whnf
  repeat' (first
    | (refine codeK_sound good (mu := []) ?_; conv => whnf)
    | ((first | rw [wl0] | rw [wl1] | rw [wl2] | rw [wl3] | rw [wl4] | rw [wl5]); conv => whnf)
    | (refine SBool.mk (fun _ => ?_) (fun h => absurd (of_decide_eq_true rfl) h); conv => whnf)
    | (refine SBool.mk (fun h => absurd h (of_decide_eq_false rfl)) (fun _ => ?_); conv => whnf)
    | (refine SBool.mk (fun h => ?_) (fun h => ?_) <;> conv => whnf)
    | (refine SEx.mk _ (by first | exact rfl | exact ⟨of_decide_eq_true rfl, rfl⟩) ?_; conv => whnf)
    | (refine SAll.mk (fun _ => ?_); conv => whnf)
    | (refine SAnd.mk ⟨by intro c hc; simp at hc; first | (subst hc; rfl) | ((repeat' (rcases hc with rfl | hc)) <;> first | rfl | (subst hc; rfl)), by (simp; first | done | omega), by (simp; first | done | omega)⟩ ?_; conv => whnf)
    | (refine SAnd.mk (by first | exact rfl | kernel_rfl | omega | decide) ?_; conv => whnf)
    | fail)
  refine ⟨AWp.loop (ι := { k : Nat // k ≤ xs.length }) (fun k => ⟨[(8, .p (I k.1)), (7, .p (I xs.length)), (6, .p (.seq 6 (xs.map sc))), (3, .own 0)], [], [(0, (32, 6, (xs.take k.1).map sc))], 1, [], [], []⟩) (fun k => xs.length - k.1) ⟨0, by simp⟩ ?_ ?_⟩
  · refine SLe.row 3 32 6 ?_
    conv => whnf
    skip
    · refine SLe.of [] [(0, 0)] rfl rfl ?_
      conv => whnf
      repeat' (first
      | exact True.intro
      | (refine SAnd.mk (PLe.of_eq (by simp only [wrapK]; rw [wrap_id (by first | omega | (simp only; done) | (simp only; omega) | simp) (by first | omega | (simp only; done) | (simp only; omega) | simp)]; simp)) ?_; conv => whnf)
      | (refine SAnd.mk (PLe.refl _) ?_; conv => whnf)
      | (refine SAnd.mk (PLeL.refl _) ?_; conv => whnf)
      | (refine SAnd.mk (PLe.of_eq (by simp)) ?_; conv => whnf)
      | (refine SAnd.mk rfl ?_; conv => whnf)
      | (refine SAnd.mk ⟨rfl, rfl⟩ ?_; conv => whnf)
      | (refine SAnd.mk ⟨rfl, rfl, rfl⟩ ?_; conv => whnf))
  · rintro ⟨k, hk⟩
    refine codeK_sound good (mu := []) ?_
    conv => whnf
    refine SBool.mk (fun hc => ?_) (fun hc => ?_)
    · conv => whnf
      have hkl : k < xs.length := by simpa using hc
      have hsome : 0 ≤ (k : Int) ∧ (xs.map sc)[((k : Int)).toNat]? = some (sc xs[k]) := ⟨by omega, by show (xs.map sc)[k]? = _; simp [hkl]⟩
      conv => whnf
      repeat' (first
        | (refine codeK_sound good (mu := []) ?_; conv => whnf)
        | ((first | rw [wl0] | rw [wl1] | rw [wl2] | rw [wl3] | rw [wl4] | rw [wl5]); conv => whnf)
        | (refine SBool.mk (fun _ => ?_) (fun h => absurd (of_decide_eq_true rfl) h); conv => whnf)
        | (refine SBool.mk (fun h => absurd h (of_decide_eq_false rfl)) (fun _ => ?_); conv => whnf)
        | (refine SBool.mk (fun h => ?_) (fun h => ?_) <;> conv => whnf)
        | (refine SEx.mk _ (by first | exact hsome) ?_; conv => whnf)
        | (refine SEx.mk _ (by first | exact rfl | exact ⟨of_decide_eq_true rfl, rfl⟩) ?_; conv => whnf)
        | (refine SAll.mk (fun _ => ?_); conv => whnf)
        | (refine SAnd.mk (by first | exact hsome) ?_; conv => whnf)
        | (refine SAnd.mk ⟨by intro c hc; simp at hc; first | (subst hc; rfl) | ((repeat' (rcases hc with rfl | hc)) <;> first | rfl | (subst hc; rfl)), by (simp; first | done | omega), by (simp; first | done | omega)⟩ ?_; conv => whnf)
        | (refine SAnd.mk (by first | exact rfl | kernel_rfl | omega | decide | exact hsome) ?_; conv => whnf)
        | fail)
      refine ⟨⟨k + 1, by omega⟩, by simp only; omega, ?_⟩
      skip
      · refine SLe.of [] [(0, 2)] rfl rfl ?_
        conv => whnf
        repeat' (first
        | exact True.intro
        | (refine SAnd.mk ((take_map_succ hkl _).symm) ?_; conv => whnf)
        | (refine SAnd.mk (PLe.of_eq (by simp only [wrapK]; rw [wrap_id (by first | omega | (simp only; done) | (simp only; omega) | simp) (by first | omega | (simp only; done) | (simp only; omega) | simp)]; simp)) ?_; conv => whnf)
        | (refine SAnd.mk (PLe.refl _) ?_; conv => whnf)
        | (refine SAnd.mk (PLeL.refl _) ?_; conv => whnf)
        | (refine SAnd.mk (PLe.of_eq (by simp)) ?_; conv => whnf)
        | (refine SAnd.mk rfl ?_; conv => whnf)
        | (refine SAnd.mk ⟨rfl, rfl⟩ ?_; conv => whnf)
        | (refine SAnd.mk ⟨rfl, rfl, rfl⟩ ?_; conv => whnf))
    · conv => whnf
      have : k = xs.length := by simp at hc; omega
      subst this
      exact ⟨PLe.of_eq (by simp)⟩
end Go.Proofs.Ab.Tone2
end
section
/- The reference's Parse, and what compares lists. -/
set_option maxRecDepth 100000
set_option linter.unusedVariables false
set_option linter.unusedSimpArgs false
namespace Go.Proofs.Ab.Tone2
open Go Go.RowKit Go.Proofs.Ab Go.Proofs.Ab.Tone
/-- What the lines come to. -/
def refGo : List (List UInt8) → List Sg → List Sg × Int × Int
  | [], _ => ([], 0, 0)
  | [w], out => if w = [] then (if checkL out = 0 then (out, 0, 0) else ([], out.length, checkL out)) else ([], out.length, 25)
  | w :: w' :: ws, out => if (refSg w).2 = true then refGo (w' :: ws) (out ++ [(refSg w).1]) else ([], out.length, 25)
def refP (l : List UInt8) : List Sg × Int × Int := if 4096 < l.length then ([], 0, 26) else refGo (splitG 10 l) []
theorem splitG_len (b : UInt8) : ∀ l : List UInt8, 1 ≤ (splitG b l).length ∧ (splitG b l).length ≤ l.length + 1
  | [] => ⟨by simp [splitG], by simp [splitG]⟩
  | c :: l => by
    have ih := splitG_len b l
    unfold splitG
    split
    · simp only [List.length_cons]; omega
    · cases h : splitG b l with
      | nil => rw [h] at ih; simp at ih
      | cons w ws => rw [h] at ih; simp only [List.length_cons] at *; omega
structure PaI (ls : List (List UInt8)) (k : Nat) (out : List Sg) : Prop where
  h1 : k + 1 ≤ ls.length
  h2 : out.length = k
  h3 : refGo ls [] = refGo (ls.drop k) out
theorem PaI.bad {ls : List (List UInt8)} {k : Nat} {out : List Sg} (h : PaI ls k out) (hk : k + 1 < ls.length) (hb : (refSg (ls[k]'(by omega))).2 = false) : refGo ls [] = ([], (k : Int), 25) := by
  rw [h.h3, List.drop_eq_getElem_cons (by omega : k < ls.length), List.drop_eq_getElem_cons hk]
  unfold refGo
  rw [if_neg (by rw [hb]; simp), h.h2]
theorem PaI.good {ls : List (List UInt8)} {k : Nat} {out : List Sg} (h : PaI ls k out) (hk : k + 1 < ls.length) (hb : (refSg (ls[k]'(by omega))).2 = true) : PaI ls (k + 1) (out ++ [(refSg (ls[k]'(by omega))).1]) := by
  refine ⟨hk, by simp [h.h2], ?_⟩
  rw [h.h3, List.drop_eq_getElem_cons (by omega : k < ls.length), List.drop_eq_getElem_cons hk]
  conv => lhs; unfold refGo
  rw [if_pos hb]
theorem PaI.fin {ls : List (List UInt8)} {k : Nat} {out : List Sg} (h : PaI ls k out) (hk : k + 1 = ls.length) : refGo ls [] = if ls[k]'(by omega) = [] then (if checkL out = 0 then (out, 0, 0) else ([], (k : Int), checkL out)) else ([], (k : Int), 25) := by
  rw [h.h3, List.drop_eq_getElem_cons (by omega : k < ls.length), List.drop_of_length_le (by omega)]
  unfold refGo
  rw [h.h2]
end Go.Proofs.Ab.Tone2
end
section
/- The reference's Parse is the program's: the plain law. -/
set_option maxRecDepth 100000
set_option linter.unusedVariables false
set_option linter.unusedSimpArgs false
namespace Go.Proofs.Ab.Tone2
open Go Go.RowKit Go.Proofs.Ab Go.Proofs.Ab.Tone
theorem first_sep (b : UInt8) : ∀ l : List UInt8, (∀ c ∈ l, ¬ c = b) ∨ ∃ p r, l = p ++ b :: r ∧ ∀ c ∈ p, ¬ c = b
  | [] => .inl fun c h => by simp at h
  | c :: l => by
    by_cases h : c = b
    · exact .inr ⟨[], l, by simp [h], fun c h => by simp at h⟩
    · rcases first_sep b l with h1 | ⟨p, r, rfl, h1⟩
      · exact .inl fun x hx => by
          rcases List.mem_cons.1 hx with rfl | hx
          · exact h
          · exact h1 x hx
      · exact .inr ⟨c :: p, r, rfl, fun x hx => by
          rcases List.mem_cons.1 hx with rfl | hx
          · exact h
          · exact h1 x hx⟩
theorem isPre_one (c d : UInt8) (l : List UInt8) : [c].isPrefixOf (d :: l) = (c == d) := by
  show ((c == d) && List.isPrefixOf [] l) = _
  simp [List.isPrefixOf]
theorem index_sep {b : UInt8} : ∀ (p r : List UInt8), (∀ c ∈ p, ¬ c = b) → Lib.index (p ++ b :: r) [b] = p.length
  | [], r, _ => by
    show (if [b].isPrefixOf (b :: r) then (0 : Int) else _) = _
    rw [isPre_one]; simp
  | c :: p, r, h => by
    have ih := index_sep p r fun x hx => h x (List.mem_cons_of_mem _ hx)
    show (if [b].isPrefixOf (c :: (p ++ b :: r)) then (0 : Int) else if Lib.index (p ++ b :: r) [b] == -1 then -1 else Lib.index (p ++ b :: r) [b] + 1) = _
    rw [isPre_one, ih, if_neg (by simpa using Ne.symm (h c List.mem_cons_self)), if_neg (by simp)]
    simp
theorem words_eq (body : List UInt8) : wordsV body = bytesL (splitG 32 body) := by
  suffices H : ∀ n (l : List UInt8), l.length ≤ n → wordsV l = bytesL (splitG 32 l) from H _ body (Nat.le_refl _)
  intro n
  induction n with
  | zero =>
    intro l h
    have : l = [] := List.length_eq_zero_iff.1 (by omega)
    subst this
    rfl
  | succ n ih =>
    intro l h
    rcases first_sep 32 l with h1 | ⟨p, r, rfl, h1⟩
    · rw [splitG_end l h1]
      have hc : Lib.countB ⟨l.toArray⟩ ⟨#[32]⟩ = 0 := by
        show Lib.count l [32] = 0
        rw [Lib.count_one]
        exact List.count_eq_zero.2 fun hm => h1 32 hm rfl
      unfold wordsV
      rw [hc]
      rfl
    · rw [splitG_sep p r h1]
      have hc : Lib.countB ⟨(p ++ 32 :: r).toArray⟩ ⟨#[32]⟩ = Lib.countB ⟨r.toArray⟩ ⟨#[32]⟩ + 1 := by
        show Lib.count (p ++ 32 :: r) [32] = Lib.count r [32] + 1
        rw [Lib.count_one, Lib.count_one, List.count_append, List.count_cons_self, List.count_eq_zero.2 fun hm => h1 32 hm rfl]
        omega
      have hi : Lib.indexB ⟨(p ++ 32 :: r).toArray⟩ ⟨#[32]⟩ = (p.length : Int) := index_sep p r h1
      have e1 : (⟨(p ++ 32 :: r).toArray⟩ : ByteArray).extract 0 (p.length + 0) = ⟨p.toArray⟩ := by
        rw [ext_take]; simp
      have e2 : (⟨(p ++ 32 :: r).toArray⟩ : ByteArray).extract (p.length + (⟨#[32]⟩ : ByteArray).size) (⟨(p ++ 32 :: r).toArray⟩ : ByteArray).size = ⟨r.toArray⟩ := by
        rw [ext_drop]
        congr 2
        show (p ++ 32 :: r).drop (p.length + 1) = r
        rw [List.drop_append]
        simp
      have := ih r (by simp at h; omega)
      unfold wordsV at this ⊢
      rw [hc, Lib.splitB_hit _ _ _ _ _ hi, e1, e2, this]
      rfl
/-- Six numbers, one after the other. -/
theorem tk6 (ws : List ByteArray) : tkS (ws, false) 6 = ([], false) ↔ ∃ a1 a2 a3 a4 a5 a6, ws = [a1, a2, a3, a4, a5, a6] ∧ (intB a1).2 = true ∧ (intB a2).2 = true ∧ (intB a3).2 = true ∧ (intB a4).2 = true ∧ (intB a5).2 = true ∧ (intB a6).2 = true := by
  match ws with
  | [] => simp [tkS, tkV]
  | [a1] => simp [tkS, tkV]
  | [a1, a2] => simp [tkS, tkV]
  | [a1, a2, a3] => simp [tkS, tkV]
  | [a1, a2, a3, a4] => simp [tkS, tkV]
  | [a1, a2, a3, a4, a5] => simp [tkS, tkV]
  | [a1, a2, a3, a4, a5, a6] =>
    simp [tkS, tkV, and_assoc]
  | a1 :: a2 :: a3 :: a4 :: a5 :: a6 :: a7 :: w => simp [tkS, tkV]
theorem refSgW_true (ws : List (List UInt8)) : (refSgW ws).2 = true ↔ ∃ w1 w2 w3 w4 w5 w6, ws = [sigL, w1, w2, w3, w4, w5, w6] ∧ (inB w1).2 = true ∧ (inB w2).2 = true ∧ (inB w3).2 = true ∧ (inB w4).2 = true ∧ (inB w5).2 = true ∧ (inB w6).2 = true := by
  unfold refSgW
  split
  · rename_i w0 w1 w2 w3 w4 w5 w6
    split
    · rename_i h
      constructor
      · intro _
        exact ⟨w1, w2, w3, w4, w5, w6, by rw [h.1], h.2⟩
      · intro _
        rfl
    · rename_i h
      constructor
      · intro e
        cases e
      · rintro ⟨v1, v2, v3, v4, v5, v6, e, h'⟩
        injection e with e0 e
        injection e with e1 e
        injection e with e2 e
        injection e with e3 e
        injection e with e4 e
        injection e with e5 e
        injection e with e6 e
        subst e0 e1 e2 e3 e4 e5 e6
        exact absurd ⟨rfl, h'⟩ h
  · rename_i hn
    constructor
    · intro e
      cases e
    · rintro ⟨v1, v2, v3, v4, v5, v6, e, h'⟩
      exact absurd e (hn _ _ _ _ _ _ _)
theorem bytes_inj {a b : List UInt8} (h : (⟨a.toArray⟩ : ByteArray) = ⟨b.toArray⟩) : a = b := by
  injection h with h
  simpa using congrArg Array.toList h
theorem line_eq (p : List UInt8) : lineOk (p ++ [10]) = (refSg p).2 ∧ ((refSg p).2 = true → lineSg (p ++ [10]) = (refSg p).1) := by
  have e1 : Lib.hasSuffix (p ++ [10]) [10] = true := by simp [Lib.hasSuffix]
  have e2 : Lib.trimSuffix (p ++ [10]) [10] = p := by simp [Lib.trimSuffix, Lib.hasSuffix]
  have hb : bSignal = ⟨sigL.toArray⟩ := rfl
  unfold lineOk lineSg refSg
  rw [e1, e2, words_eq]
  generalize splitG 32 p = ws
  have key : (decide ((bytesL ws).head? = some bSignal) && decide (tkS ((bytesL ws).tail, false) 6 = ([], false))) = true ↔ (refSgW ws).2 = true := by
    rw [refSgW_true, Bool.and_eq_true, decide_eq_true_eq, decide_eq_true_eq, tk6, hb]
    constructor
    · rintro ⟨h1, a1, a2, a3, a4, a5, a6, h2, h3⟩
      match ws, h1, h2 with
      | w0 :: ws, h1, h2 =>
        have h0 : w0 = sigL := bytes_inj (by simpa using h1)
        match ws, h2 with
        | [w1, w2, w3, w4, w5, w6], h2 =>
          simp only [bytesL, List.map_cons, List.map_nil, List.tail_cons, List.cons.injEq, and_true] at h2
          obtain ⟨rfl, rfl, rfl, rfl, rfl, rfl⟩ := h2
          exact ⟨w1, w2, w3, w4, w5, w6, by rw [h0], h3⟩
    · rintro ⟨w1, w2, w3, w4, w5, w6, rfl, h⟩
      exact ⟨rfl, _, _, _, _, _, _, rfl, h⟩
  refine ⟨?_, fun h => ?_⟩
  · rw [Bool.true_and]
    exact Bool.eq_iff_iff.2 key
  · obtain ⟨w1, w2, w3, w4, w5, w6, rfl, i1, i2, i3, i4, i5, i6⟩ := (refSgW_true ws).1 h
    have e : refSgW [sigL, w1, w2, w3, w4, w5, w6] = (⟨⟨(inB w1).1, (inB w2).1⟩, ⟨(inB w3).1, (inB w4).1⟩, ⟨(inB w5).1, (inB w6).1⟩⟩, true) := if_pos ⟨rfl, i1, i2, i3, i4, i5, i6⟩
    rw [e]
    rfl
theorem cut_sep {p r : List UInt8} (h : ∀ c ∈ p, ¬ c = 10) : cutLine (p ++ 10 :: r) = p.length + 1 := by
  have e : Lib.indexByte (p ++ 10 :: r) 10 = p.length := by
    induction p with
    | nil => simp [Lib.indexByte]
    | cons c p ih =>
      have ih := ih fun x hx => h x (List.mem_cons_of_mem _ hx)
      have hc : ((c : UInt8) == 10) = false := by simpa using h c List.mem_cons_self
      simp only [List.cons_append, Lib.indexByte, hc, ih, Bool.false_eq_true, if_false]
      rw [if_neg (by simp)]
      simp
  unfold cutLine
  rw [e, if_neg (by omega)]
  simp
theorem cut_end {p : List UInt8} (h : ∀ c ∈ p, ¬ c = 10) : cutLine p = p.length := by
  have e : Lib.indexByte p 10 = -1 := by
    induction p with
    | nil => rfl
    | cons c p ih =>
      have ih := ih fun x hx => h x (List.mem_cons_of_mem _ hx)
      have hc : ((c : UInt8) == 10) = false := by simpa using h c List.mem_cons_self
      simp only [Lib.indexByte, hc, ih, Bool.false_eq_true, if_false]
      rfl
  unfold cutLine
  rw [e]
  rfl
theorem refGo_eq : ∀ (n : Nat) (r : List UInt8) (out : List Sg), r.length < n → parseF n r out = refGo (splitG 10 r) out := by
  intro n
  induction n with
  | zero => exact fun _ _ h => absurd h (by omega)
  | succ n ih =>
  intro r out h
  match r, h with
  | [], _ =>
    show (if checkL out = 0 then (out, 0, 0) else ([], (out.length : Int), checkL out)) = refGo [[]] out
    unfold refGo
    rw [if_pos rfl]
  | c :: r, h =>
    have hd : parseF (n + 1) (c :: r) out = if lineOk ((c :: r).take (cutLine (c :: r))) then parseF n ((c :: r).drop (cutLine (c :: r))) (out ++ [lineSg ((c :: r).take (cutLine (c :: r)))]) else ([], (out.length : Int), 25) := rfl
    rw [hd]
    rcases first_sep 10 (c :: r) with h1 | ⟨p, q, e, h1⟩
    · rw [cut_end h1, splitG_end _ h1, List.take_length]
      have hno : Lib.hasSuffix (c :: r) [10] = false := by
        cases hs : Lib.hasSuffix (c :: r) [10] with
        | false => rfl
        | true =>
          have hs' : [10] <:+ (c :: r) := by simpa [Lib.hasSuffix] using hs
          obtain ⟨t, ht⟩ := hs'
          exact absurd rfl (h1 10 (by rw [← ht]; simp))
      have hl : lineOk (c :: r) = false := by unfold lineOk; rw [hno]; rfl
      rw [hl]
      unfold refGo
      rw [if_neg (by simp)]
      rfl
    · rw [e, cut_sep h1, splitG_sep p q h1]
      have hpl : (p ++ [10]).length = p.length + 1 := List.length_append
      have e1 : (p ++ 10 :: q).take (p.length + 1) = p ++ [10] := by
        rw [show p ++ 10 :: q = (p ++ [10]) ++ q from (List.append_assoc p [10] q).symm, List.take_left' hpl]
      have e2 : (p ++ 10 :: q).drop (p.length + 1) = q := by
        rw [show p ++ 10 :: q = (p ++ [10]) ++ q from (List.append_assoc p [10] q).symm, List.drop_left' hpl]
      obtain ⟨l1, l2⟩ := line_eq p
      have hq := (splitG_len 10 q).1
      have hlen : q.length < n := by
        have := congrArg List.length e
        rw [List.length_append, List.length_cons, List.length_cons] at this
        rw [List.length_cons] at h
        omega
      rw [e1, e2, l1]
      match hs : splitG 10 q, hq with
      | w :: ws, _ =>
        conv => rhs; unfold refGo
        by_cases hp : (refSg p).2 = true
        · rw [if_pos hp, if_pos hp, l2 hp, ih q _ hlen, hs]
        · rw [if_neg hp, if_neg hp]
theorem refP_eq (s : ByteArray) : refP s.data.toList = parseV s := by
  have hs : s.size = s.data.toList.length := Lib.size_eq s
  unfold refP parseV
  rw [hs]
  split
  · rfl
  · exact (refGo_eq _ _ _ (by omega)).symm
end Go.Proofs.Ab.Tone2
end
section
/- The reference's Print, given its Text. -/
set_option maxRecDepth 100000
set_option linter.unusedVariables false
set_option linter.unusedSimpArgs false
namespace Go.Proofs.Ab.Tone2
open Go Go.RowKit Go.Proofs.Ab Go.Proofs.Ab.Tone
theorem join_nil (ws : List (List UInt8)) : Lib.join ws [] = ws.flatten := by
  unfold Lib.join
  induction ws with
  | nil => rfl
  | cons a l ih =>
    cases l with
    | nil => simp [List.intercalate]
    | cons b l => simpa [List.intercalate] using ih
theorem printB_data (xs : List Sg) : (printB xs).data.toList = ((xs.map lineB).map (·.data.toList)).flatten := by
  show (Lib.join ((xs.map lineB).map (·.data.toList)) (#[] : Array UInt8).toList).toArray.toList = _
  rw [show (#[] : Array UInt8).toList = [] from rfl, join_nil]
theorem printB_size : ∀ (xs : List Sg), (∀ x ∈ xs, x.Fit 1000000) → (printB xs).size ≤ 201 * xs.length := by
  intro xs
  induction xs with
  | nil => intro _; exact Nat.le_refl _
  | cons x xs ih =>
    intro h
    have h1 := ih fun y hy => h y (List.mem_cons_of_mem _ hy)
    have h2 := lineB_len x (h x List.mem_cons_self)
    rw [Lib.size_eq, printB_data] at *
    simp only [List.map_cons, List.flatten_cons, List.length_append, List.length_cons] at *
    omega
section
attribute [local irreducible] ByteArray.append APure
end
end Go.Proofs.Ab.Tone2
end
section
/- What is printed is read again: numbers, words, lines. -/
set_option maxRecDepth 100000
set_option linter.unusedVariables false
set_option linter.unusedSimpArgs false
namespace Go.Proofs.Ab.Tone2
open Go Go.RowKit Go.Proofs.Ab Go.Proofs.Ab.Tone
theorem dec_small {u : Nat} (h : u < 10) : Lib.decDigits u = [UInt8.ofNat (48 + u)] := by rw [Lib.decDigits, dif_pos h]
theorem dec_big {u : Nat} (h : ¬ u < 10) : Lib.decDigits u = Lib.decDigits (u / 10) ++ [UInt8.ofNat (48 + u % 10)] := by rw [Lib.decDigits, dif_neg h]
theorem dig_nat {k : Nat} (h : k < 10) : (UInt8.ofNat (48 + k)).toNat = 48 + k := by
  rw [UInt8.toNat_ofNat']
  omega
theorem dec_dig : ∀ (u : Nat), ∀ c ∈ Lib.decDigits u, dig c := by
  intro u
  induction u using Nat.strongRecOn with
  | _ u ih =>
    intro c hc
    by_cases h : u < 10
    · rw [dec_small h] at hc
      simp only [List.mem_singleton] at hc
      have := dig_nat h
      subst hc
      exact ⟨by omega, by omega⟩
    · rw [dec_big h] at hc
      rcases List.mem_append.1 hc with hc | hc
      · exact ih (u / 10) (by omega) c hc
      · simp only [List.mem_singleton] at hc
        have := dig_nat (k := u % 10) (by omega)
        subst hc
        exact ⟨by omega, by omega⟩
theorem digV_snoc (l : List UInt8) (c : UInt8) : digV (l ++ [c]) = 10 * digV l + ((c.toNat : Int) - 48) := by
  unfold digV
  rw [List.foldl_append]
  rfl
theorem dec_val : ∀ (u : Nat), digV (Lib.decDigits u) = u := by
  intro u
  induction u using Nat.strongRecOn with
  | _ u ih =>
    by_cases h : u < 10
    · rw [dec_small h]
      have := dig_nat h
      show 10 * 0 + (((UInt8.ofNat (48 + u)).toNat : Int) - 48) = u
      omega
    · rw [dec_big h, digV_snoc, ih (u / 10) (by omega)]
      have := dig_nat (k := u % 10) (by omega)
      omega
theorem dec_len : ∀ (k u : Nat), 1 ≤ k → u < 10 ^ k → (Lib.decDigits u).length ≤ k := by
  intro k
  induction k with
  | zero => intro u h; omega
  | succ k ih =>
    intro u _ h
    by_cases h10 : u < 10
    · rw [dec_small h10]; simp
    · rw [dec_big h10, List.length_append]
      rw [Nat.pow_succ] at h
      have hk : 1 ≤ k := by
        rcases Nat.eq_zero_or_pos k with rfl | hk
        · omega
        · exact hk
      have := ih (u / 10) hk (by omega)
      simp only [List.length_cons, List.length_nil]
      omega
theorem dec_head : ∀ (u : Nat), u ≠ 0 → ∃ c l, Lib.decDigits u = c :: l ∧ ¬ c = 48 := by
  intro u
  induction u using Nat.strongRecOn with
  | _ u ih =>
    intro h0
    by_cases h : u < 10
    · refine ⟨_, [], dec_small h, fun e => ?_⟩
      have h1 := dig_nat h
      rw [e] at h1
      have : (48 : UInt8).toNat = 48 := rfl
      omega
    · obtain ⟨c, l, e, hc⟩ := ih (u / 10) (by omega) (by omega)
      exact ⟨c, l ++ [_], by rw [dec_big h, e]; rfl, hc⟩
theorem intV_dec {u : Nat} (h : u < 1000000000) (neg : Bool) (hn : neg = true → u ≠ 0) : intV (Lib.decDigits u) neg = (if neg then 0 - (u : Int) else u, true) := by
  have hl := dec_len 9 u (by omega) (by omega)
  unfold intV
  rw [dec_val, if_pos]
  refine ⟨dec_dig u, hl, ?_, ?_⟩
  · intro e
    by_cases h0 : u = 0
    · subst h0
      rw [dec_small (by omega)] at e
      simp at e
    · obtain ⟨c, l, e', _⟩ := dec_head u h0
      rw [e'] at e
      simp at e
  · rintro ⟨h1, h2⟩
    by_cases h0 : u = 0
    · subst h0
      rw [dec_small (by omega)] at h2
      rcases h2 with h2 | h2
      · simp at h2
      · exact hn h2 rfl
    · obtain ⟨c, l, e', hc⟩ := dec_head u h0
      rw [e'] at h1
      exact hc (by simpa using h1)
/-- A number's text is read as the number. -/
theorem inB_itoa {n : Int} (h : n.natAbs < 1000000000) : inB (Lib.itoa n) = (n, true) := by
  show intV (Lib.trimPrefix (Lib.itoa n) [45]) (Lib.hasPrefix (Lib.itoa n) [45]) = _
  unfold Lib.itoa
  by_cases hn : n < 0
  · rw [if_pos hn, (trim45 _).1, (trim45 _).2, intV_dec h true (fun _ => by omega)]
    show (0 - (n.natAbs : Int), true) = _
    rw [show 0 - (n.natAbs : Int) = n by omega]
  · rw [if_neg hn]
    have hh : ∃ c l, Lib.decDigits n.toNat = c :: l ∧ ¬ c = 45 := by
      cases e : Lib.decDigits n.toNat with
      | nil =>
        have h1 := dec_val n.toNat
        by_cases h0 : n.toNat = 0
        · rw [h0, dec_small (by omega)] at e; simp at e
        · obtain ⟨c, l, e', _⟩ := dec_head _ h0
          rw [e'] at e; simp at e
      | cons c l =>
        refine ⟨c, l, rfl, fun e' => ?_⟩
        have := dec_dig n.toNat c (by rw [e]; exact List.mem_cons_self)
        rw [e'] at this
        exact absurd this.1 (by decide)
    obtain ⟨c, l, e, hc⟩ := hh
    rw [e, (trim45' l hc).1, (trim45' l hc).2, ← e, intV_dec (by omega) false (fun h => by cases h)]
    show ((n.toNat : Int), true) = _
    rw [show (n.toNat : Int) = n by omega]
/-- No blank and no line's end in a number's text. -/
theorem itoa_plain (n : Int) {c : UInt8} (hc : c ∈ Lib.itoa n) : ¬ c = 32 ∧ ¬ c = 10 := by
  have hd : dig c → ¬ c = 32 ∧ ¬ c = 10 := fun hd => ⟨fun e => by rw [e] at hd; exact absurd hd.1 (by decide), fun e => by rw [e] at hd; exact absurd hd.1 (by decide)⟩
  unfold Lib.itoa at hc
  split at hc
  · rcases List.mem_cons.1 hc with rfl | hc
    · decide
    · exact hd (dec_dig _ c hc)
  · exact hd (dec_dig _ c hc)
/-- A signal's line, without its end. -/
def lineL (s : Sg) : List UInt8 := sigL ++ 32 :: (Lib.itoa s.c.re ++ 32 :: (Lib.itoa s.c.im ++ 32 :: (Lib.itoa s.l.re ++ 32 :: (Lib.itoa s.l.im ++ 32 :: (Lib.itoa s.h.re ++ 32 :: Lib.itoa s.h.im)))))
theorem lineB_eq (s : Sg) : (lineB s).data.toList = lineL s ++ [10] := by
  simp only [lineB, joinB, wordsB, bSignal, itoaB, ByteArray.data_append, Array.toList_append, List.map_cons, List.map_nil]
  simp [Lib.join, List.intercalate, lineL]
theorem lineL_split (s : Sg) : splitG 32 (lineL s) = [sigL, Lib.itoa s.c.re, Lib.itoa s.c.im, Lib.itoa s.l.re, Lib.itoa s.l.im, Lib.itoa s.h.re, Lib.itoa s.h.im] := by
  unfold lineL
  have p := fun n (c : UInt8) (hc : c ∈ Lib.itoa n) => (itoa_plain n hc).1
  rw [splitG_sep _ _ (by decide), splitG_sep _ _ (p _), splitG_sep _ _ (p _), splitG_sep _ _ (p _), splitG_sep _ _ (p _), splitG_sep _ _ (p _), splitG_end _ (p _)]
theorem lineL_ten (s : Sg) : ∀ c ∈ lineL s, ¬ c = 10 := by
  intro c hc
  unfold lineL at hc
  simp only [List.mem_append, List.mem_cons] at hc
  have p := fun n (hc : c ∈ Lib.itoa n) => (itoa_plain n hc).2
  have q : c = 32 → ¬ c = 10 := fun e => by rw [e]; decide
  rcases hc with hc | hc | hc | hc | hc | hc | hc | hc | hc | hc | hc | hc | hc
  · intro e; subst e; revert hc; decide
  · exact q hc
  · exact p _ hc
  · exact q hc
  · exact p _ hc
  · exact q hc
  · exact p _ hc
  · exact q hc
  · exact p _ hc
  · exact q hc
  · exact p _ hc
  · exact q hc
  · exact p _ hc
theorem refSg_line {s : Sg} (hf : s.Fit 1000000) : refSg (lineL s) = (s, true) := by
  have e := fun n (h : n.natAbs ≤ 1000000) => inB_itoa (n := n) (by omega)
  unfold refSg
  rw [lineL_split]
  show (if sigL = sigL ∧ (inB (Lib.itoa s.c.re)).2 = true ∧ (inB (Lib.itoa s.c.im)).2 = true ∧ (inB (Lib.itoa s.l.re)).2 = true ∧ (inB (Lib.itoa s.l.im)).2 = true ∧ (inB (Lib.itoa s.h.re)).2 = true ∧ (inB (Lib.itoa s.h.im)).2 = true then ((⟨⟨(inB (Lib.itoa s.c.re)).1, (inB (Lib.itoa s.c.im)).1⟩, ⟨(inB (Lib.itoa s.l.re)).1, (inB (Lib.itoa s.l.im)).1⟩, ⟨(inB (Lib.itoa s.h.re)).1, (inB (Lib.itoa s.h.im)).1⟩⟩ : Sg), true) else (S0, false)) = _
  rw [e _ hf.c.re, e _ hf.c.im, e _ hf.l.re, e _ hf.l.im, e _ hf.h.re, e _ hf.h.im]
  rw [if_pos ⟨rfl, rfl, rfl, rfl, rfl, rfl, rfl⟩]
theorem print2 (a b : Sg) : (printB [a, b]).data.toList = lineL a ++ 10 :: (lineL b ++ 10 :: []) := by
  rw [printB_data]
  simp only [List.map_cons, List.map_nil, List.flatten_cons, List.flatten_nil, List.append_nil]
  rw [lineB_eq, lineB_eq]
  simp
theorem print2_split (a b : Sg) : splitG 10 (printB [a, b]).data.toList = [lineL a, lineL b, []] := by
  rw [print2, splitG_sep _ _ (lineL_ten a), splitG_sep _ _ (lineL_ten b)]
  rfl
theorem print2_size {a b : Sg} (ha : a.Fit 1000000) (hb : b.Fit 1000000) : (printB [a, b]).data.toList.length ≤ 402 := by
  have := printB_size [a, b] (fun x hx => by
    rcases List.mem_cons.1 hx with rfl | hx
    · exact ha
    · rcases List.mem_cons.1 hx with rfl | hx
      · exact hb
      · cases hx)
  rw [Lib.size_eq] at this
  simpa using this
/-- What was printed is parsed. -/
theorem parse_print2 {a b : Sg} (ha : a.Fit 1000000) (hb : b.Fit 1000000) (h : checkL [a, b] = 0) : parseV (printB [a, b]) = ([a, b], 0, 0) := by
  have hs := print2_size ha hb
  rw [← refP_eq]
  unfold refP
  rw [if_neg (by omega), print2_split]
  have e1 := refSg_line ha
  have e2 := refSg_line hb
  simp only [refGo, e1, e2, if_true, List.nil_append, List.cons_append]
  rw [if_pos h]
/-- .. and not without its last byte. -/
theorem parse_print2_less {a b : Sg} (ha : a.Fit 1000000) (hb : b.Fit 1000000) : parseV ((printB [a, b]).extract 0 ((printB [a, b]).size - 1)) = ([], 1, 25) := by
  have hs := print2_size ha hb
  have el : ((printB [a, b]).extract 0 ((printB [a, b]).size - 1)).data.toList = lineL a ++ 10 :: lineL b := by
    have e1 : ((printB [a, b]).extract 0 ((printB [a, b]).size - 1)).data.toList = (printB [a, b]).data.toList.take ((printB [a, b]).size - 1) := by
      rw [ByteArray.data_extract, Array.toList_extract]
      simp [List.extract]
    rw [e1, Lib.size_eq, print2]
    rw [show lineL a ++ 10 :: (lineL b ++ [10]) = (lineL a ++ 10 :: lineL b) ++ [10] by simp]
    rw [List.take_left']
    simp
  rw [← refP_eq, el]
  rw [print2] at hs
  have hne : ¬ lineL b = [] := by unfold lineL; simp
  unfold refP
  rw [if_neg (by simp at hs ⊢; omega), splitG_sep _ _ (lineL_ten a), splitG_end _ (lineL_ten b)]
  have e1 := refSg_line ha
  simp only [refGo, e1, if_true, if_neg hne]
  rfl
end Go.Proofs.Ab.Tone2
end
section
/- The reference's Text: a number's text. -/
set_option maxRecDepth 100000
set_option linter.unusedVariables false
set_option linter.unusedSimpArgs false
namespace Go.Proofs.Ab.Tone2
open Go Go.RowKit Go.Proofs.Ab Go.Proofs.Ab.Tone
/-- The digits of a number, none for 0. -/
def dD (u : Nat) : List UInt8 := if u = 0 then [] else Lib.decDigits u
theorem dD_succ {u : Nat} (h : u ≠ 0) : dD u = dD (u / 10) ++ [UInt8.ofNat (48 + u % 10)] := by
  unfold dD
  rw [if_neg h]
  by_cases h10 : u < 10
  · rw [dec_small h10, if_pos (by omega), show u % 10 = u by omega]
    rfl
  · rw [dec_big h10, if_neg (by omega)]
theorem dD_len {u : Nat} (h : u ≤ 1000000) : (dD u).length ≤ 7 := by
  unfold dD
  split
  · simp
  · exact dec_len 7 u (by omega) (by omega)
/-- What is left to write, and what is written. -/
structure TI2 (n k : Int) (l : List UInt8) : Prop where
  h1 : k.natAbs ≤ n.natAbs
  h2 : dD n.natAbs = dD k.natAbs ++ l
theorem TI2.next {n k q : Int} {l : List UInt8} (h : TI2 n k l) {r : Nat} (hr : k.natAbs % 10 = r) (hq : q.natAbs = k.natAbs / 10) (hk : k.natAbs ≠ 0) : TI2 n q (UInt8.ofNat (48 + r) :: l) ∧ q.natAbs < k.natAbs := by
  obtain ⟨h1, h2⟩ := h
  refine ⟨⟨by omega, ?_⟩, by omega⟩
  rw [h2, hq, dD_succ hk, hr]
  simp
theorem TI2.len {n k : Int} {l : List UInt8} (h : TI2 n k l) (hn : n.natAbs ≤ 1000000) : l.length ≤ 7 := by
  have h1 := dD_len hn
  have := congrArg List.length h.h2
  rw [List.length_append] at this
  omega
section
attribute [local irreducible] ByteArray.append
end
end Go.Proofs.Ab.Tone2
end
section
/- The law of the depths. -/
set_option maxRecDepth 100000
set_option linter.unusedVariables false
set_option linter.unusedSimpArgs false
namespace Go.Proofs.Ab.Tone2
open Go Go.RowKit Go.Proofs.Ab Go.Proofs.Ab.Tone
section
attribute [local irreducible] APure
end
end Go.Proofs.Ab.Tone2
end
section
/- The law's looks at a signal and at a ratio; plain laws of ratios. -/
set_option maxRecDepth 100000
set_option linter.unusedVariables false
set_option linter.unusedSimpArgs false
namespace Go.Proofs.Ab.Tone2
open Go Go.RowKit Go.Proofs.Ab Go.Proofs.Ab.Tone
def near1 (a : G) (n : Int) : Prop := (-n ≤ a.re ∧ a.re ≤ n) ∧ (-n ≤ a.im ∧ a.im ≤ n)
def nearP (s : Sg) (n : Int) : Prop := checkE s = 0 ∧ near1 s.c n ∧ near1 s.l n ∧ near1 s.h n
instance (s : Sg) (n : Int) : Decidable (nearP s n) := by unfold nearP near1; infer_instance
theorem near_pure {m : Int} (s : Sg) (n : Int) (h0 : 0 ≤ n) (h1 : n ≤ 1000000) : APure (C m) 69 [.agg (sc s), I n] (Bo (decide (nearP s n))) := by
  have wn : wrapK IntKind.i64 (0 - n) = 0 - n := w64 (by omega)
  have hin : ∀ i : Nat, i < 3 → True := fun _ _ => True.intro
  refine APure.of_body good [] (fn := Tryz.f69) (by kernel_rfl) (by kernel_rfl) rfl rfl (by kernel_rfl) rfl (by kernel_rfl) ?_
  conv => whnf
  repeat' (first
    | (refine codeK_sound good (mu := []) ?_; conv => whnf)
    | ((first | rw [wl0] | rw [wl1] | rw [wl2] | rw [wl3] | rw [wl4] | rw [wl5]); conv => whnf)
    | (rw [wn]; conv => whnf)
    | (refine SBool.mk (fun _ => ?_) (fun h => absurd (of_decide_eq_true rfl) h); conv => whnf)
    | (refine SBool.mk (fun h => absurd h (of_decide_eq_false rfl)) (fun _ => ?_); conv => whnf)
    | (refine SBool.mk (fun h => ?_) (fun h => ?_) <;> conv => whnf)
    | refine SCode.mk (AWp.rounds 4 ?_)
    | (refine SEx.mk _ (by first | exact up (refCheckSignal_pure' s)) ?_; conv => whnf)
    | (refine SEx.mk _ (by first | exact rfl | exact ⟨of_decide_eq_true rfl, rfl⟩) ?_; conv => whnf)
    | (refine SAll.mk (fun _ => ?_); conv => whnf)
    | (refine SAnd.mk ⟨by intro c hc; simp at hc; first | (subst hc; rfl) | ((repeat' (rcases hc with rfl | hc)) <;> first | rfl | (subst hc; rfl)), by (simp; first | done | omega), by (simp; first | done | omega)⟩ ?_; conv => whnf)
    | (refine SAnd.mk (by first | exact rfl | kernel_rfl | omega | decide | exact up (refCheckSignal_pure' s)) ?_; conv => whnf)
    | fail)
  all_goals first
    | exact ⟨PLe.of_eq (by rw [decide_eq_false (by unfold nearP near1; omega)])⟩
    | exact ⟨PLe.of_eq (by rw [decide_eq_true (by unfold nearP near1; omega)])⟩
/-- A ratio in lowest terms, told apart from the quotient it is. -/
structure IsLow (x : R) (n d : Int) : Prop where
  den : 0 < x.den
  le : x.den ≤ d
  num : x.num.natAbs ≤ n.natAbs
  gcd : Int.gcd x.num x.den = 1
  eq : x.num * d = n * x.den
end Go.Proofs.Ab.Tone2
end
section
/- What is heard in samples: the plain law. -/
set_option maxRecDepth 100000
set_option linter.unusedVariables false
set_option linter.unusedSimpArgs false
namespace Go.Proofs.Ab.Tone2
open Go Go.RowKit Go.Proofs.Ab Go.Proofs.Ab.Tone
/-- Four complex integers in which a signal lies, and what is left. -/
structure HrQ (q : Q4) (s : Sg) (m : G) : Prop where
  r0 : q.a0.re = s.c.re + s.l.re + s.h.re + m.re
  i0 : q.a0.im = s.c.im + s.l.im + s.h.im + m.im
  r1 : q.a1.re = s.c.re + s.l.re - s.h.re - m.re
  i1 : q.a1.im = s.c.im + s.l.im - s.h.im - m.im
  r2 : q.a2.re = s.c.re - s.l.re + s.h.re - m.re
  i2 : q.a2.im = s.c.im - s.l.im + s.h.im - m.im
  r3 : q.a3.re = s.c.re - s.l.re - s.h.re + m.re
  i3 : q.a3.im = s.c.im - s.l.im - s.h.im + m.im
theorem divG4 {a b : G} (h1 : a.re = 4 * b.re) (h2 : a.im = 4 * b.im) (hb : b.Fit 1000000) : divG a 4 = b ∧ divB a 4 = true := by
  have f1 := hb.re
  have f2 := hb.im
  unfold divG divB
  rw [h1, h2]
  have e : ∀ x : Int, (4 * x).tdiv 4 = x ∧ (4 * x).tmod 4 = 0 := fun x => ⟨Int.mul_tdiv_cancel_left _ (by decide), Int.mul_tmod_right _ _⟩
  rw [(e _).1, (e _).1, (e _).2, (e _).2, w64 (by omega), w64 (by omega)]
  exact ⟨rfl, rfl⟩
theorem hrQ_dots {q : Q4} {s : Sg} {m : G} (h : HrQ q s m) (hs : s.Fit 10000) (hm : m.Fit 1000) :
    ((divG (D q 0) 4 = s.c ∧ divB (D q 0) 4 = true) ∧ (divG (D q 1) 4 = s.l ∧ divB (D q 1) 4 = true)) ∧ (divG (D q 2) 4 = s.h ∧ divB (D q 2) 4 = true) ∧ (divG (D q 3) 4 = m ∧ divB (D q 3) 4 = true) := by
  obtain ⟨r0, i0, r1, i1, r2, i2, r3, i3⟩ := h
  refine ⟨⟨divG4 ?_ ?_ (hs.c.mono (by decide)), divG4 ?_ ?_ (hs.l.mono (by decide))⟩, divG4 ?_ ?_ (hs.h.mono (by decide)), divG4 ?_ ?_ (hm.mono (by decide))⟩
  all_goals
    simp only [D, dot4, dot3, dot2, dot1, G.add, G.mul]
    omega
theorem hrQ_rec {q : Q4} {s : Sg} {m : G} (h : HrQ q s m) (hs : Ok s) (hm : m.Fit 1000) : recE q = 0 ∧ recV q = s ∧ recL q = m := by
  obtain ⟨⟨⟨d0, b0⟩, d1, b1⟩, ⟨d2, b2⟩, d3, b3⟩ := hrQ_dots h hs.fit hm
  have eS : recS q = s := by
    show (⟨divG (D q 0) 4, divG (D q 1) 4, divG (D q 2) 4⟩ : Sg) = s
    rw [d0, d1, d2]
  have eB : recB q = true := by
    show (divB (D q 0) 4 && divB (D q 1) 4 && divB (D q 2) 4 && divB (D q 3) 4) = true
    rw [b0, b1, b2, b3]; rfl
  have eE : recE q = 0 := by
    unfold recE
    rw [if_pos eB, eS]
    exact madeE_zero.2 hs
  refine ⟨eE, ?_, ?_⟩
  · unfold recV; rw [if_pos eE, eS]
  · unfold recL; rw [if_pos eE]; exact d3
theorem two_small {a b : Int} (ha : a.natAbs ≤ 5000) (hb : b.natAbs ≤ 1000) : (a + b).natAbs ≤ 6000 ∧ (a - b).natAbs ≤ 6000 := by omega
theorem add_fit {a b : G} (ha : a.Fit 5000) (hb : b.Fit 1000) : (a.add b).Fit 6000 ∧ (a.sub b).Fit 6000 :=
  ⟨⟨(two_small ha.re hb.re).1, (two_small ha.im hb.im).1⟩, ⟨(two_small ha.re hb.re).2, (two_small ha.im hb.im).2⟩⟩
theorem four_small {a b c d e : Int} (ha : a.natAbs ≤ 6000) (hb : b.natAbs ≤ 6000) (hc : c.natAbs ≤ 6000) (hd : d.natAbs ≤ 1000) (h : (e = a + b + c + d ∨ e = a + b - c - d) ∨ (e = a - b + c - d ∨ e = a - b - c + d)) : e.natAbs ≤ 19000 := by
  rcases h with (h | h) | (h | h) <;> omega
theorem hrQ_small {q : Q4} {s : Sg} {m : G} (h : HrQ q s m) (hs : s.Fit 6000) (hm : m.Fit 1000) : (q.a0.Fit 19000 ∧ q.a1.Fit 19000) ∧ q.a2.Fit 19000 ∧ q.a3.Fit 19000 := by
  obtain ⟨r0, i0, r1, i1, r2, i2, r3, i3⟩ := h
  have re := fun e h => four_small (e := e) hs.c.re hs.l.re hs.h.re hm.re h
  have im := fun e h => four_small (e := e) hs.c.im hs.l.im hs.h.im hm.im h
  exact ⟨⟨⟨re _ (.inl (.inl r0)), im _ (.inl (.inl i0))⟩, ⟨re _ (.inl (.inr r1)), im _ (.inl (.inr i1))⟩⟩, ⟨re _ (.inr (.inl r2)), im _ (.inr (.inl i2))⟩, ⟨re _ (.inr (.inr r3)), im _ (.inr (.inr i3))⟩⟩
theorem sampE_zero {a : G} (h : a.Fit 19000) : sampE a = 0 := by
  have := h.re; have := h.im
  unfold sampE
  rw [firstOf_zero, firstOf_zero]
  exact ⟨within_zero.2 (by omega), within_zero.2 (by omega), rfl⟩
theorem hr_panel {p : Pn} {s : Sg} {m : G} (h : HrQ p.q s m) (hs : s.Fit 6000) (hm : m.Fit 1000) : panelE p = 0 := by
  obtain ⟨⟨h0, h1⟩, h2, h3⟩ := hrQ_small h hs hm
  unfold panelE
  have z0 : sampE p.a0 = 0 := sampE_zero h0
  have z1 : sampE p.a1 = 0 := sampE_zero h1
  have z2 : sampE p.a2 = 0 := sampE_zero h2
  have z3 : sampE p.a3 = 0 := sampE_zero h3
  rw [z0, z1, z2, z3]
  rfl
theorem hr_rcv {p : Pn} {s : Sg} {m : G} (h : HrQ p.q s m) (ok : Ok s) (hs : s.Fit 6000) (hm : m.Fit 1000) : rcvE p = 0 ∧ rcvV p = s ∧ rcvL p = m := by
  have hp := hr_panel h hs hm
  have hn : ¬ samePn p P0 := by
    rintro ⟨⟨a1, a2⟩, ⟨b1, b2⟩, ⟨c1, c2⟩, d1, d2⟩
    obtain ⟨r0, i0, r1, i1, r2, i2, r3, i3⟩ := h
    have e0 : p.q.a0 = p.a0 := rfl
    have e1 : p.q.a1 = p.a1 := rfl
    have e2 : p.q.a2 = p.a2 := rfl
    have e3 : p.q.a3 = p.a3 := rfl
    have z0 : P0.a0 = ⟨0, 0⟩ := rfl
    have z1 : P0.a1 = ⟨0, 0⟩ := rfl
    have z2 : P0.a2 = ⟨0, 0⟩ := rfl
    have z3 : P0.a3 = ⟨0, 0⟩ := rfl
    rw [e0] at r0 i0
    rw [e1] at r1 i1
    rw [e2] at r2 i2
    rw [e3] at r3 i3
    rw [z0] at a1 a2
    rw [z1] at b1 b2
    rw [z2] at c1 c2
    rw [z3] at d1 d2
    simp only at a1 a2 b1 b2 c1 c2 d1 d2
    refine ok.nz ⟨?_, ?_⟩ <;> omega
  obtain ⟨e1, e2, e3⟩ := hrQ_rec h ok hm
  have eE : rcvE p = 0 := by
    unfold rcvE
    rw [if_pos hp, if_neg hn, e1]
  refine ⟨eE, ?_, ?_⟩
  · unfold rcvV; rw [if_pos eE, e2]
  · unfold rcvL; rw [if_pos eE, e3]
/-- The panel of a signal's samples. -/
def pnS (s : Sg) : Pn := ⟨floatOfInt .f32 (smp s 1 1).re, floatOfInt .f32 (smp s 1 1).im, floatOfInt .f32 (smp s 1 (-1)).re, floatOfInt .f32 (smp s 1 (-1)).im, floatOfInt .f32 (smp s (-1) 1).re, floatOfInt .f32 (smp s (-1) 1).im, floatOfInt .f32 (smp s (-1) (-1)).re, floatOfInt .f32 (smp s (-1) (-1)).im, smp s 1 1, smp s 1 (-1), smp s (-1) 1, smp s (-1) (-1)⟩
theorem pnS_hr (s : Sg) : HrQ (pnS s).q s G0 := by
  constructor
  all_goals
    simp only [pnS, Pn.q, smp, G.add, G.mul, G0]
    omega
theorem fit32 {a : G} (h : a.Fit 1000000) : FG (floatOfInt .f32 a.re) (floatOfInt .f32 a.im) a :=
  ⟨FInt.ofInt32 (Nat.lt_of_le_of_lt h.re (by decide)), FInt.ofInt32 (Nat.lt_of_le_of_lt h.im (by decide))⟩
theorem g0_fit : G0.Fit 1000 := ⟨by decide, by decide⟩
theorem pnS_is {s : Sg} (hs : s.Fit 6000) : (pnS s).Is := by
  obtain ⟨⟨h0, h1⟩, h2, h3⟩ := hrQ_small (pnS_hr s) hs g0_fit
  have f0 : (smp s 1 1).Fit 1000000 := h0.mono (by decide)
  have f1 : (smp s 1 (-1)).Fit 1000000 := h1.mono (by decide)
  have f2 : (smp s (-1) 1).Fit 1000000 := h2.mono (by decide)
  have f3 : (smp s (-1) (-1)).Fit 1000000 := h3.mono (by decide)
  exact ⟨fit32 f0, fit32 f1, fit32 f2, fit32 f3, f0, f1, f2, f3⟩
theorem sampled_pn {s : Sg} (h : checkE s = 0) : sampledV s = pc (pnS s) := by
  unfold sampledV
  rw [if_pos h]
  rfl
/-- Something added, part by part. -/
theorem cadd {P : Program} {x y x' y' : Nat} {a b : G} (ha : FG x y a) (hb : FG x' y' b) (fa : a.Fit 1000000) (fb : b.Fit 1000000) (t : TypeId) :
    ∃ u v, FG u v (a.add b) ∧ ∀ w, (binOp .add t (.complex .f32 x y) (.complex .f32 x' y')).run P w = .ok (.complex .f32 u v) w := by
  have f1 := fa.re; have f2 := fa.im; have f3 := fb.re; have f4 := fb.im
  obtain ⟨u, hu, fu⟩ := ha.re.add32 hb.re (by omega)
  obtain ⟨v, hv, fv⟩ := ha.im.add32 hb.im (by omega)
  exact ⟨u, v, ⟨fu, fv⟩, fun w => run_complex_sum w .add (.inl rfl) t .f32 x y x' y' u v (by simp [cSumBits, hu, hv])⟩
theorem csub {P : Program} {x y x' y' : Nat} {a b : G} (ha : FG x y a) (hb : FG x' y' b) (fa : a.Fit 1000000) (fb : b.Fit 1000000) (t : TypeId) :
    ∃ u v, FG u v (a.sub b) ∧ ∀ w, (binOp .sub t (.complex .f32 x y) (.complex .f32 x' y')).run P w = .ok (.complex .f32 u v) w := by
  have f1 := fa.re; have f2 := fa.im; have f3 := fb.re; have f4 := fb.im
  obtain ⟨u, hu, fu⟩ := ha.re.sub32 hb.re (by omega)
  obtain ⟨v, hv, fv⟩ := ha.im.sub32 hb.im (by omega)
  exact ⟨u, v, ⟨fu, fv⟩, fun w => run_complex_sum w .sub (.inr rfl) t .f32 x y x' y' u v (by simp [cSumBits, hu, hv])⟩
/-- A signal's samples, and something with the signs of both tones. -/
theorem more_pn {P : Program} {s : Sg} {m : G} (hs : s.Fit 6000) (hm : m.Fit 1000) (t : TypeId) : ∃ p : Pn, p.Is ∧ HrQ p.q s m ∧
    ((∀ w, (binOp .add t (.complex .f32 (pnS s).x0 (pnS s).y0) (.complex .f32 (floatOfInt .f32 m.re) (floatOfInt .f32 m.im))).run P w = .ok (.complex .f32 p.x0 p.y0) w) ∧
     (∀ w, (binOp .sub t (.complex .f32 (pnS s).x1 (pnS s).y1) (.complex .f32 (floatOfInt .f32 m.re) (floatOfInt .f32 m.im))).run P w = .ok (.complex .f32 p.x1 p.y1) w)) ∧
     (∀ w, (binOp .sub t (.complex .f32 (pnS s).x2 (pnS s).y2) (.complex .f32 (floatOfInt .f32 m.re) (floatOfInt .f32 m.im))).run P w = .ok (.complex .f32 p.x2 p.y2) w) ∧
     (∀ w, (binOp .add t (.complex .f32 (pnS s).x3 (pnS s).y3) (.complex .f32 (floatOfInt .f32 m.re) (floatOfInt .f32 m.im))).run P w = .ok (.complex .f32 p.x3 p.y3) w) := by
  have is := pnS_is hs
  have fm : m.Fit 1000000 := hm.mono (by decide)
  have gm := fit32 fm
  obtain ⟨u0, v0, g0, r0⟩ := cadd (P := P) is.g0 gm is.f0 fm t
  obtain ⟨u1, v1, g1, r1⟩ := csub (P := P) is.g1 gm is.f1 fm t
  obtain ⟨u2, v2, g2, r2⟩ := csub (P := P) is.g2 gm is.f2 fm t
  obtain ⟨u3, v3, g3, r3⟩ := cadd (P := P) is.g3 gm is.f3 fm t
  have hh : HrQ (⟨(pnS s).a0.add m, (pnS s).a1.sub m, (pnS s).a2.sub m, (pnS s).a3.add m⟩ : Q4) s m := by
    obtain ⟨q0, j0, q1, j1, q2, j2, q3, j3⟩ := pnS_hr s
    have z0 : G0.re = 0 := rfl
    have z1 : G0.im = 0 := rfl
    have e0 : (pnS s).q.a0 = (pnS s).a0 := rfl
    have e1 : (pnS s).q.a1 = (pnS s).a1 := rfl
    have e2 : (pnS s).q.a2 = (pnS s).a2 := rfl
    have e3 : (pnS s).q.a3 = (pnS s).a3 := rfl
    rw [e0] at q0 j0
    rw [e1] at q1 j1
    rw [e2] at q2 j2
    rw [e3] at q3 j3
    rw [z0] at q0 q1 q2 q3
    rw [z1] at j0 j1 j2 j3
    constructor
    all_goals
      simp only [G.add, G.sub]
      omega
  obtain ⟨⟨k0, k1⟩, k2, k3⟩ := hrQ_small hh hs hm
  exact ⟨⟨u0, v0, u1, v1, u2, v2, u3, v3, (pnS s).a0.add m, (pnS s).a1.sub m, (pnS s).a2.sub m, (pnS s).a3.add m⟩, ⟨g0, g1, g2, g3, k0.mono (by decide), k1.mono (by decide), k2.mono (by decide), k3.mono (by decide)⟩, hh, ⟨r0, r1⟩, r2, r3⟩
theorem mean0 {A B E c l h x y z : Int} (hz : z = 0) (ha : A = c + (l + x) + (h + y) + z) (hb : B = c + l + h + z) (he : E = c + (l - x) + (h - y) + z) : 0 + A + B + E = 3 * B := by omega
theorem mean1 {A B E c l h x y z : Int} (hz : z = 0) (ha : A = c + (l + x) - (h + y) - z) (hb : B = c + l - h - z) (he : E = c + (l - x) - (h - y) - z) : 0 + A + B + E = 3 * B := by omega
theorem mean2 {A B E c l h x y z : Int} (hz : z = 0) (ha : A = c - (l + x) + (h + y) - z) (hb : B = c - l + h - z) (he : E = c - (l - x) + (h - y) - z) : 0 + A + B + E = 3 * B := by omega
theorem mean3 {A B E c l h x y z : Int} (hz : z = 0) (ha : A = c - (l + x) - (h + y) + z) (hb : B = c - l - h + z) (he : E = c - (l - x) - (h - y) + z) : 0 + A + B + E = 3 * B := by omega
/-- The mean of three panels, of which two are off by opposite errors. -/
theorem avg3 {s : Sg} {x y : G} (ok : Ok s) (hs : s.Fit 5000) (hx : x.Fit 1000) (hy : y.Fit 1000) :
    avgE [pnS ⟨s.c, s.l.add x, s.h.add y⟩, pnS s, pnS ⟨s.c, s.l.sub x, s.h.sub y⟩] = 0 ∧ avgV [pnS ⟨s.c, s.l.add x, s.h.add y⟩, pnS s, pnS ⟨s.c, s.l.sub x, s.h.sub y⟩] = s ∧ avgL [pnS ⟨s.c, s.l.add x, s.h.add y⟩, pnS s, pnS ⟨s.c, s.l.sub x, s.h.sub y⟩] = G0 := by
  have fo : Sg.Fit ⟨s.c, s.l.add x, s.h.add y⟩ 6000 := ⟨hs.c.mono (by decide), (add_fit hs.l hx).1, (add_fit hs.h hy).1⟩
  have fu : Sg.Fit ⟨s.c, s.l.sub x, s.h.sub y⟩ 6000 := ⟨hs.c.mono (by decide), (add_fit hs.l hx).2, (add_fit hs.h hy).2⟩
  have fs : s.Fit 6000 := hs.mono (by decide)
  have po := hr_panel (pnS_hr ⟨s.c, s.l.add x, s.h.add y⟩) fo g0_fit
  have ps := hr_panel (pnS_hr s) fs g0_fit
  have pu := hr_panel (pnS_hr ⟨s.c, s.l.sub x, s.h.sub y⟩) fu g0_fit
  have ho := pnS_hr ⟨s.c, s.l.add x, s.h.add y⟩
  have hh := pnS_hr s
  have hu := pnS_hr ⟨s.c, s.l.sub x, s.h.sub y⟩
  generalize pnS ⟨s.c, s.l.add x, s.h.add y⟩ = A at *
  generalize pnS s = B at *
  generalize pnS ⟨s.c, s.l.sub x, s.h.sub y⟩ = E at *
  have eP : pansE [A, B, E] = 0 := by
    unfold pansE
    rw [firstOf_zero, firstOf_zero]
    refine ⟨rfl, ?_, rfl⟩
    simp only [List.map_cons, List.map_nil]
    rw [po, ps, pu]
    rfl
  have eS : sumQ [A, B, E] ([A, B, E] : List Pn).length = ((Q0.add A.q).add B.q).add E.q := rfl
  have e3 : (([A, B, E] : List Pn).length : Int) = 3 := rfl
  have dv : ∀ a b : G, a.re = 3 * b.re → a.im = 3 * b.im → b.Fit 1000000 → divG a 3 = b ∧ divB a 3 = true := by
    intro a b g1 g2 hb
    have f1 := hb.re
    have f2 := hb.im
    unfold divG divB
    rw [g1, g2]
    have e : ∀ x : Int, (3 * x).tdiv 3 = x ∧ (3 * x).tmod 3 = 0 := fun x => ⟨Int.mul_tdiv_cancel_left _ (by decide), Int.mul_tmod_right _ _⟩
    rw [(e _).1, (e _).1, (e _).2, (e _).2, w64 (by omega), w64 (by omega)]
    exact ⟨rfl, rfl⟩
  obtain ⟨⟨k0, k1⟩, k2, k3⟩ := hrQ_small hh fs g0_fit
  have hb := hh
  obtain ⟨r0, i0, r1, i1, r2, i2, r3, i3⟩ := hh
  obtain ⟨or0, oi0, or1, oi1, or2, oi2, or3, oi3⟩ := ho
  obtain ⟨ur0, ui0, ur1, ui1, ur2, ui2, ur3, ui3⟩ := hu
  have z0 : G0.re = 0 := rfl
  have z1 : G0.im = 0 := rfl
  simp only [G.add, G.sub] at or0 oi0 or1 oi1 or2 oi2 or3 oi3 ur0 ui0 ur1 ui1 ur2 ui2 ur3 ui3
  have s0 := dv (((Q0.add A.q).add B.q).add E.q).a0 B.q.a0 (mean0 z0 or0 r0 ur0) (mean0 z1 oi0 i0 ui0) (k0.mono (by decide))
  have s1 := dv (((Q0.add A.q).add B.q).add E.q).a1 B.q.a1 (mean1 z0 or1 r1 ur1) (mean1 z1 oi1 i1 ui1) (k1.mono (by decide))
  have s2 := dv (((Q0.add A.q).add B.q).add E.q).a2 B.q.a2 (mean2 z0 or2 r2 ur2) (mean2 z1 oi2 i2 ui2) (k2.mono (by decide))
  have s3 := dv (((Q0.add A.q).add B.q).add E.q).a3 B.q.a3 (mean3 z0 or3 r3 ur3) (mean3 z1 oi3 i3 ui3) (k3.mono (by decide))
  have eB : (sumQ [A, B, E] ([A, B, E] : List Pn).length).divB (([A, B, E] : List Pn).length : Int) = true := by
    rw [eS, e3]
    unfold Q4.divB
    rw [s0.2, s1.2, s2.2, s3.2]
    rfl
  have eQ : avgQ [A, B, E] = B.q := by
    unfold avgQ
    rw [eS, e3]
    unfold Q4.divG
    rw [s0.1, s1.1, s2.1, s3.1]
  obtain ⟨q1, q2, q3⟩ := hrQ_rec hb ok g0_fit
  have eE : avgE [A, B, E] = 0 := by
    unfold avgE
    rw [if_pos eP, if_pos eB, eQ, q1]
  refine ⟨eE, ?_, ?_⟩
  · unfold avgV; rw [if_pos eE, eQ, q2]
  · unfold avgL; rw [if_pos eE, eQ, q3]
end Go.Proofs.Ab.Tone2
end
section
/- The law of the changes. -/
set_option maxRecDepth 100000
set_option linter.unusedVariables false
set_option linter.unusedSimpArgs false
namespace Go.Proofs.Ab.Tone2
open Go Go.RowKit Go.Proofs.Ab Go.Proofs.Ab.Tone
theorem eq_rsig {s t : Sg} (h : s = t) : EqAgg Tone.C 25 (sc s) (sc t) true := by
  subst h
  have h := eq_rsignal s.c.re s.c.im s.l.re s.l.im s.h.re s.h.im s.c.re s.c.im s.l.re s.l.im s.h.re s.h.im
  rw [decide_eq_true (by simp)] at h
  exact h
section
attribute [local irreducible] APure
end
end Go.Proofs.Ab.Tone2
end
section
/- Lists of the program's signals as the reference's, and that a list is itself. -/
set_option maxRecDepth 100000
set_option linter.unusedVariables false
set_option linter.unusedSimpArgs false
namespace Go.Proofs.Ab.Tone2
open Go Go.RowKit Go.Proofs.Ab Go.Proofs.Ab.Tone
theorem told68_pure {m : Int} (xs : List Sg) (hl : xs.length ≤ 1000000) : APure (C m) 68 [.seq 6 (xs.map sc)] (.seq 6 (xs.map sc)) := by
  refine APure.of_body good [] (fn := Tryz.f68) (by kernel_rfl) (by kernel_rfl) rfl rfl (by kernel_rfl) rfl (by kernel_rfl) ?_
  conv => whnf
  repeat' (first
    | (refine codeK_sound good (mu := []) ?_; conv => whnf)
    | ((first | rw [wl0] | rw [wl1] | rw [wl2] | rw [wl3] | rw [wl4] | rw [wl5]); conv => whnf)
    | (refine SBool.mk (fun _ => ?_) (fun h => absurd (of_decide_eq_true rfl) h); conv => whnf)
    | (refine SBool.mk (fun h => absurd h (of_decide_eq_false rfl)) (fun _ => ?_); conv => whnf)
    | (refine SBool.mk (fun h => ?_) (fun h => ?_) <;> conv => whnf)
    | (refine SEx.mk _ (by first | exact rfl | exact ⟨of_decide_eq_true rfl, rfl⟩) ?_; conv => whnf)
    | (refine SAll.mk (fun _ => ?_); conv => whnf)
    | (refine SAnd.mk ⟨by intro c hc; simp at hc; first | (subst hc; rfl) | ((repeat' (rcases hc with rfl | hc)) <;> first | rfl | (subst hc; rfl)), by (simp; first | done | omega), by (simp; first | done | omega)⟩ ?_; conv => whnf)
    | (refine SAnd.mk (by first | exact rfl | kernel_rfl | omega | decide) ?_; conv => whnf)
    | fail)
  refine ⟨AWp.loop (ι := { k : Nat // k ≤ xs.length }) (fun k => ⟨[(8, .p (I k.1)), (7, .p (I xs.length)), (6, .p (.seq 6 (xs.map sc))), (3, .own 0)], [], [(0, (25, 6, (xs.take k.1).map sc))], 1, [], [], []⟩) (fun k => xs.length - k.1) ⟨0, by simp⟩ ?_ ?_⟩
  · refine SLe.row 3 25 6 ?_
    conv => whnf
    skip
    · refine SLe.of [] [(0, 0)] rfl rfl ?_
      conv => whnf
      repeat' (first
      | exact True.intro
      | (refine SAnd.mk (PLe.of_eq (by simp only [wrapK]; rw [wrap_id (by first | omega | (simp only; done) | (simp only; omega) | simp) (by first | omega | (simp only; done) | (simp only; omega) | simp)]; simp)) ?_; conv => whnf)
      | (refine SAnd.mk (PLe.refl _) ?_; conv => whnf)
      | (refine SAnd.mk (PLeL.refl _) ?_; conv => whnf)
      | (refine SAnd.mk (PLe.of_eq (by simp)) ?_; conv => whnf)
      | (refine SAnd.mk rfl ?_; conv => whnf)
      | (refine SAnd.mk ⟨rfl, rfl⟩ ?_; conv => whnf)
      | (refine SAnd.mk ⟨rfl, rfl, rfl⟩ ?_; conv => whnf))
  · rintro ⟨k, hk⟩
    refine codeK_sound good (mu := []) ?_
    conv => whnf
    refine SBool.mk (fun hc => ?_) (fun hc => ?_)
    · conv => whnf
      have hkl : k < xs.length := by simpa using hc
      have hsome : 0 ≤ (k : Int) ∧ (xs.map sc)[((k : Int)).toNat]? = some (sc xs[k]) := ⟨by omega, by show (xs.map sc)[k]? = _; simp [hkl]⟩
      conv => whnf
      repeat' (first
        | (refine codeK_sound good (mu := []) ?_; conv => whnf)
        | ((first | rw [wl0] | rw [wl1] | rw [wl2] | rw [wl3] | rw [wl4] | rw [wl5]); conv => whnf)
        | (refine SBool.mk (fun _ => ?_) (fun h => absurd (of_decide_eq_true rfl) h); conv => whnf)
        | (refine SBool.mk (fun h => absurd h (of_decide_eq_false rfl)) (fun _ => ?_); conv => whnf)
        | (refine SBool.mk (fun h => ?_) (fun h => ?_) <;> conv => whnf)
        | (refine SEx.mk _ (by first | exact hsome) ?_; conv => whnf)
        | (refine SEx.mk _ (by first | exact rfl | exact ⟨of_decide_eq_true rfl, rfl⟩) ?_; conv => whnf)
        | (refine SAll.mk (fun _ => ?_); conv => whnf)
        | (refine SAnd.mk (by first | exact hsome) ?_; conv => whnf)
        | (refine SAnd.mk ⟨by intro c hc; simp at hc; first | (subst hc; rfl) | ((repeat' (rcases hc with rfl | hc)) <;> first | rfl | (subst hc; rfl)), by (simp; first | done | omega), by (simp; first | done | omega)⟩ ?_; conv => whnf)
        | (refine SAnd.mk (by first | exact rfl | kernel_rfl | omega | decide | exact hsome) ?_; conv => whnf)
        | fail)
      refine ⟨⟨k + 1, by omega⟩, by simp only; omega, ?_⟩
      skip
      · refine SLe.of [] [(0, 2)] rfl rfl ?_
        conv => whnf
        repeat' (first
        | exact True.intro
        | (refine SAnd.mk ((take_map_succ hkl _).symm) ?_; conv => whnf)
        | (refine SAnd.mk (PLe.of_eq (by simp only [wrapK]; rw [wrap_id (by first | omega | (simp only; done) | (simp only; omega) | simp) (by first | omega | (simp only; done) | (simp only; omega) | simp)]; simp)) ?_; conv => whnf)
        | (refine SAnd.mk (PLe.refl _) ?_; conv => whnf)
        | (refine SAnd.mk (PLeL.refl _) ?_; conv => whnf)
        | (refine SAnd.mk (PLe.of_eq (by simp)) ?_; conv => whnf)
        | (refine SAnd.mk rfl ?_; conv => whnf)
        | (refine SAnd.mk ⟨rfl, rfl⟩ ?_; conv => whnf)
        | (refine SAnd.mk ⟨rfl, rfl, rfl⟩ ?_; conv => whnf))
    · conv => whnf
      have : k = xs.length := by simp at hc; omega
      subst this
      exact ⟨PLe.of_eq (by simp)⟩
theorem sameSignals_self {m : Int} (xs : List Sg) (hl : xs.length ≤ 1000000) : APure (C m) 67 [.seq 6 (xs.map sc), .seq 6 (xs.map sc)] (Bo true) := by
  refine APure.of_body good [] (fn := Tryz.f67) (by kernel_rfl) (by kernel_rfl) rfl rfl (by kernel_rfl) rfl (by kernel_rfl) ?_
  conv => whnf
  repeat' (first
    | (refine codeK_sound good (mu := []) ?_; conv => whnf)
    | ((first | rw [wl0] | rw [wl1] | rw [wl2] | rw [wl3] | rw [wl4] | rw [wl5]); conv => whnf)
    | (refine SBool.mk (fun _ => ?_) (fun h => absurd (of_decide_eq_true rfl) h); conv => whnf)
    | (refine SBool.mk (fun h => absurd h (of_decide_eq_false rfl)) (fun _ => ?_); conv => whnf)
    | (refine SBool.mk (fun h => ?_) (fun h => ?_) <;> conv => whnf)
    | (refine SEx.mk _ (by first | exact rfl | exact ⟨of_decide_eq_true rfl, rfl⟩) ?_; conv => whnf)
    | (refine SAll.mk (fun _ => ?_); conv => whnf)
    | (refine SAnd.mk ⟨by intro c hc; simp at hc; first | (subst hc; rfl) | ((repeat' (rcases hc with rfl | hc)) <;> first | rfl | (subst hc; rfl)), by (simp; first | done | omega), by (simp; first | done | omega)⟩ ?_; conv => whnf)
    | (refine SAnd.mk (by first | exact rfl | kernel_rfl | omega | decide) ?_; conv => whnf)
    | fail)
  rotate_left
  · exact absurd rfl (by assumption)
  refine ⟨AWp.loop (ι := { k : Nat // k ≤ xs.length }) (fun k => ⟨[(5, .p (I k.1)), (0, .p (.seq 6 (xs.map sc))), (1, .p (.seq 6 (xs.map sc)))], [], [], 0, [], [], []⟩) (fun k => xs.length - k.1) ⟨0, by simp⟩ ?_ ?_⟩
  · skip
    · refine SLe.of [] [] rfl rfl ?_
      conv => whnf
      repeat' (first
      | exact True.intro
      | (refine SAnd.mk (PLe.of_eq (by simp only [wrapK]; rw [wrap_id (by first | omega | (simp only; done) | (simp only; omega) | simp) (by first | omega | (simp only; done) | (simp only; omega) | simp)]; simp)) ?_; conv => whnf)
      | (refine SAnd.mk (PLe.refl _) ?_; conv => whnf)
      | (refine SAnd.mk (PLeL.refl _) ?_; conv => whnf)
      | (refine SAnd.mk (PLe.of_eq (by simp)) ?_; conv => whnf)
      | (refine SAnd.mk rfl ?_; conv => whnf)
      | (refine SAnd.mk ⟨rfl, rfl⟩ ?_; conv => whnf)
      | (refine SAnd.mk ⟨rfl, rfl, rfl⟩ ?_; conv => whnf))
  · rintro ⟨k, hk⟩
    refine codeK_sound good (mu := []) ?_
    conv => whnf
    refine SBool.mk (fun hc => ?_) (fun hc => ?_)
    · have hkl : k < xs.length := by simpa using hc
      have hsome : 0 ≤ (k : Int) ∧ (xs.map sc)[((k : Int)).toNat]? = some (sc xs[k]) := ⟨by omega, by show (xs.map sc)[k]? = _; simp [hkl]⟩
      have wk : wrapK IntKind.i64 ((k : Int) + 1) = k + 1 := w64 (by omega)
      have heq := eq_rsig (s := xs[k]) (t := xs[k]) rfl
      conv => whnf
      conv => whnf
      repeat' (first
        | (refine codeK_sound good (mu := []) ?_; conv => whnf)
        | ((first | rw [wl0] | rw [wl1] | rw [wl2] | rw [wl3] | rw [wl4] | rw [wl5]); conv => whnf)
        | (rw [wk]; conv => whnf)
        | (refine SBool.mk (fun _ => ?_) (fun h => absurd (of_decide_eq_true rfl) h); conv => whnf)
        | (refine SBool.mk (fun h => absurd h (of_decide_eq_false rfl)) (fun _ => ?_); conv => whnf)
        | (refine SBool.mk (fun h => ?_) (fun h => ?_) <;> conv => whnf)
        | (refine SEx.mk _ (by first | exact hsome | exact heq) ?_; conv => whnf)
        | (refine SEx.mk _ (by first | exact rfl | exact ⟨of_decide_eq_true rfl, rfl⟩) ?_; conv => whnf)
        | (refine SAll.mk (fun _ => ?_); conv => whnf)
        | (refine SAnd.mk (by first | exact hsome | exact heq) ?_; conv => whnf)
        | (refine SAnd.mk ⟨by intro c hc; simp at hc; first | (subst hc; rfl) | ((repeat' (rcases hc with rfl | hc)) <;> first | rfl | (subst hc; rfl)), by (simp; first | done | omega), by (simp; first | done | omega)⟩ ?_; conv => whnf)
        | (refine SAnd.mk (by first | exact rfl | kernel_rfl | omega | decide | exact hsome | exact heq) ?_; conv => whnf)
        | fail)
      refine ⟨⟨k + 1, hkl⟩, by simp only; omega, ?_⟩
      skip
      · refine SLe.of [] [] rfl rfl ?_
        conv => whnf
        repeat' (first
        | exact True.intro
        | (refine SAnd.mk (PLe.of_eq (by simp only [wrapK]; rw [wrap_id (by first | omega | (simp only; done) | (simp only; omega) | simp) (by first | omega | (simp only; done) | (simp only; omega) | simp)]; simp)) ?_; conv => whnf)
        | (refine SAnd.mk (PLe.refl _) ?_; conv => whnf)
        | (refine SAnd.mk (PLeL.refl _) ?_; conv => whnf)
        | (refine SAnd.mk (PLe.of_eq (by simp)) ?_; conv => whnf)
        | (refine SAnd.mk rfl ?_; conv => whnf)
        | (refine SAnd.mk ⟨rfl, rfl⟩ ?_; conv => whnf)
        | (refine SAnd.mk ⟨rfl, rfl, rfl⟩ ?_; conv => whnf))
    · conv => whnf
      exact ⟨PLe.refl _⟩
end Go.Proofs.Ab.Tone2
end
section
/- The law of the strings, given the reference's Text. -/
set_option maxRecDepth 100000
set_option linter.unusedVariables false
set_option linter.unusedSimpArgs false
namespace Go.Proofs.Ab.Tone2
open Go Go.RowKit Go.Proofs.Ab Go.Proofs.Ab.Tone
section
attribute [local irreducible] APure ByteArray.append
end
end Go.Proofs.Ab.Tone2
end
section
/- The law of what is heard. -/
set_option maxRecDepth 100000
set_option linter.unusedVariables false
set_option linter.unusedSimpArgs false
namespace Go.Proofs.Ab.Tone2
open Go Go.RowKit Go.Proofs.Ab Go.Proofs.Ab.Tone
theorem eq_sigH {s t : Sg} (h : s = t) : EqAgg Tone.C 32 (sc s) (sc t) true := by
  subst h
  have h := eq_signal s.c.re s.c.im s.l.re s.l.im s.h.re s.h.im s.c.re s.c.im s.l.re s.l.im s.h.re s.h.im
  rw [decide_eq_true (by simp)] at h
  exact h
section
attribute [local irreducible] APure ByteArray.append
set_option maxHeartbeats 8000000 in
theorem ToneHeard_skip {m : Int} (s : Sg) (x y z : G) (b1 b2 b3 : Bool) (hb : ¬ (b1 = true ∧ b2 = true ∧ b3 = true)) (n1 : APure (C m) 69 [.agg (sc s), I 5000] (Bo b1)) (n2 : APure (C m) 69 [.agg (sc ⟨⟨1, 0⟩, x, y⟩), I 1000] (Bo b2)) (n3 : APure (C m) 69 [.agg (sc ⟨⟨1, 0⟩, z, ⟨0, 0⟩⟩), I 1000] (Bo b3)) :
    APure (C m) 11 [.agg (sc s), .agg [I x.re, I x.im, I y.re, I y.im], .agg (gc z)] (Bo true) := by
  cases b1 <;> cases b2 <;> cases b3 <;> first
    | exact absurd ⟨rfl, rfl, rfl⟩ hb
    | skip
  all_goals
    refine APure.of_body good [] (fn := Tryz.f11) (by kernel_rfl) (by kernel_rfl) rfl rfl (by kernel_rfl) rfl (by kernel_rfl) ?_
    conv => whnf
    repeat' (first
      | (refine codeK_sound good (mu := []) ?_; conv => whnf)
      | ((first | rw [wl0] | rw [wl1] | rw [wl2] | rw [wl3] | rw [wl4] | rw [wl5]); conv => whnf)
      | (refine SBool.mk (fun _ => ?_) (fun h => absurd (of_decide_eq_true rfl) h); conv => whnf)
      | (refine SBool.mk (fun h => absurd h (of_decide_eq_false rfl)) (fun _ => ?_); conv => whnf)
      | (refine SBool.mk (fun h => ?_) (fun h => ?_) <;> conv => whnf)
      | (refine SEx.mk _ (by first | exact awake_pure | exact at_pure _ _ | exact n1 | exact n2 | exact n3) ?_; conv => whnf)
      | (refine SEx.mk _ (by first | exact rfl | exact ⟨of_decide_eq_true rfl, rfl⟩) ?_; conv => whnf)
      | (refine SAll.mk (fun _ => ?_); conv => whnf)
      | (refine SAnd.mk ⟨by intro c hc; simp at hc; first | (subst hc; rfl) | ((repeat' (rcases hc with rfl | hc)) <;> first | rfl | (subst hc; rfl)), by (simp; first | done | omega), by (simp; first | done | omega)⟩ ?_; conv => whnf)
      | (refine SAnd.mk (by first | exact rfl | kernel_rfl | omega | decide | exact awake_pure | exact at_pure _ _ | exact n1 | exact n2 | exact n3) ?_; conv => whnf)
      | fail)
    all_goals exact ⟨PLe.refl _⟩
set_option maxHeartbeats 8000000 in
theorem ToneHeard_parts {m : Int} (s o u : Sg) (x y z : G) (p v A B : Pn) (t t' : ByteArray)
    (n1 : APure (C m) 69 [.agg (sc s), I 5000] (Bo true)) (n2 : APure (C m) 69 [.agg (sc ⟨⟨1, 0⟩, x, y⟩), I 1000] (Bo true)) (n3 : APure (C m) 69 [.agg (sc ⟨⟨1, 0⟩, z, ⟨0, 0⟩⟩), I 1000] (Bo true))
    (c73 : APure (C m) 73 [.agg (sc s)] (.tup [.agg (pc p), I 0])) (c74 : APure (C m) 74 [.agg (pc p)] (.tup [.agg (sc s), .agg [I 0, I 0], I 0]))
    (r0 : ∀ w, (binOp .add 119 (.complex .f32 p.x0 p.y0) (.complex .f32 (floatOfInt .f32 z.re) (floatOfInt .f32 z.im))).run (C m).P w = .ok (.complex .f32 v.x0 v.y0) w)
    (r1 : ∀ w, (binOp .sub 119 (.complex .f32 p.x1 p.y1) (.complex .f32 (floatOfInt .f32 z.re) (floatOfInt .f32 z.im))).run (C m).P w = .ok (.complex .f32 v.x1 v.y1) w)
    (r2 : ∀ w, (binOp .sub 119 (.complex .f32 p.x2 p.y2) (.complex .f32 (floatOfInt .f32 z.re) (floatOfInt .f32 z.im))).run (C m).P w = .ok (.complex .f32 v.x2 v.y2) w)
    (r3 : ∀ w, (binOp .add 119 (.complex .f32 p.x3 p.y3) (.complex .f32 (floatOfInt .f32 z.re) (floatOfInt .f32 z.im))).run (C m).P w = .ok (.complex .f32 v.x3 v.y3) w)
    (c74v : APure (C m) 74 [.agg (pc v)] (.tup [.agg (sc s), .agg (gc z), I 0]))
    (p1 : APure (C m) 75 [.agg (gc s.l), .agg (gc x)] (.agg (gc o.l))) (p2 : APure (C m) 75 [.agg (gc s.h), .agg (gc y)] (.agg (gc o.h))) (q1 : APure (C m) 76 [.agg (gc s.l), .agg (gc x)] (.agg (gc u.l))) (q2 : APure (C m) 76 [.agg (gc s.h), .agg (gc y)] (.agg (gc u.h)))
    (c73o : APure (C m) 73 [.agg [I s.c.re, I s.c.im, I o.l.re, I o.l.im, I o.h.re, I o.h.im]] (.tup [.agg (pc A), I 0])) (c73u : APure (C m) 73 [.agg [I s.c.re, I s.c.im, I u.l.re, I u.l.im, I u.h.re, I u.h.im]] (.tup [.agg (pc B), I 0]))
    (c77 : APure (C m) 77 [.seq 4 [pc A, pc p, pc B]] (.tup [.agg (sc s), .agg [I 0, I 0], I 0]))
    (c42 : APure (C m) 42 [.seq 6 [sc s, [I s.c.re, I s.c.im, I o.l.re, I o.l.im, I o.h.re, I o.h.im]]] (.seq 6 [sc s, [I s.c.re, I s.c.im, I o.l.re, I o.l.im, I o.h.re, I o.h.im]]))
    (c63 : APure (C m) 63 [.seq 6 [sc s, [I s.c.re, I s.c.im, I o.l.re, I o.l.im, I o.h.re, I o.h.im]]] (.tup [St t, I 0]))
    (c64 : APure (C m) 64 [St t] (.tup [.seq 6 [sc s, [I s.c.re, I s.c.im, I o.l.re, I o.l.im, I o.h.re, I o.h.im]], I 0, I 0]))
    (c68 : APure (C m) 68 [.seq 6 [sc s, [I s.c.re, I s.c.im, I o.l.re, I o.l.im, I o.h.re, I o.h.im]]] (.seq 6 [sc s, [I s.c.re, I s.c.im, I o.l.re, I o.l.im, I o.h.re, I o.h.im]]))
    (c67 : APure (C m) 67 [.seq 6 [sc s, [I s.c.re, I s.c.im, I o.l.re, I o.l.im, I o.h.re, I o.h.im]], .seq 6 [sc s, [I s.c.re, I s.c.im, I o.l.re, I o.l.im, I o.h.re, I o.h.im]]] (Bo true))
    (l1 l2 l3 : ByteArray) (c78 : APure (C m) 78 [St t, .v (.int .u8 10)] (.seq 1 [[St l1], [St l2], [St l3]]))
    (wt : wrapK IntKind.i64 ((t.size : Int) - 1) = ((t.size - 1 : Nat) : Int)) (hs : (0 : Int) ≤ ((t.size - 1 : Nat) : Int) ∧ ((t.size - 1 : Nat) : Int) ≤ (t.size : Int)) (ht : t.extract 0 (((t.size - 1 : Nat) : Int)).toNat = t') (c64' : APure (C m) 64 [St t'] (.tup [nilS, I 1, I 25])) :
    APure (C m) 11 [.agg (sc s), .agg [I x.re, I x.im, I y.re, I y.im], .agg (gc z)] (Bo true) := by
  refine APure.of_body good [] (fn := Tryz.f11) (by kernel_rfl) (by kernel_rfl) rfl rfl (by kernel_rfl) rfl (by kernel_rfl) ?_
  conv => whnf
  repeat' (first
    | (refine codeK_sound good (mu := []) ?_; conv => whnf)
    | ((first | rw [wl0] | rw [wl1] | rw [wl2] | rw [wl3] | rw [wl4] | rw [wl5]); conv => whnf)
    | (rw [ht]; conv => whnf)
    | (rw [wt]; conv => whnf)
    | (refine SBool.mk (fun _ => ?_) (fun h => absurd (of_decide_eq_true rfl) h); conv => whnf)
    | (refine SBool.mk (fun h => absurd h (of_decide_eq_false rfl)) (fun _ => ?_); conv => whnf)
    | (refine SBool.mk (fun h => ?_) (fun h => ?_) <;> conv => whnf)
    | (refine SEx.mk _ (by first | exact awake_pure | exact at_pure _ _ | exact n1 | exact n2 | exact n3 | exact c73 | exact c74 | exact r0 | exact r1 | exact r2 | exact r3 | exact c74v | exact p1 | exact p2 | exact q1 | exact q2 | exact c73o | exact c73u | exact c77 | exact c42 | exact c63 | exact c64 | exact c68 | exact c67 | exact c78 | exact hs | exact c64' | exact eq_sigH rfl | exact eq_rsig rfl | exact eq_gauss _ _ _ _ | exact (fun w => run_convert_int_float w 3 125 .i64 .f32 z.re (by kernel_rfl) (by kernel_rfl)) | exact (fun w => run_convert_int_float w 3 125 .i64 .f32 z.im (by kernel_rfl) (by kernel_rfl))) ?_; conv => whnf)
    | (refine SEx.mk _ (by first | exact rfl | exact ⟨of_decide_eq_true rfl, rfl⟩) ?_; conv => whnf)
    | (refine SAll.mk (fun _ => ?_); conv => whnf)
    | (refine SAnd.mk (by first | exact hs) ?_; conv => whnf)
    | (refine SAnd.mk ⟨by intro c hc; simp at hc; first | (subst hc; rfl) | ((repeat' (rcases hc with rfl | hc)) <;> first | rfl | (subst hc; rfl)), by (simp; first | done | omega), by (simp; first | done | omega)⟩ ?_; conv => whnf)
    | (refine SAnd.mk (by first | exact rfl | kernel_rfl | omega | decide | exact awake_pure | exact at_pure _ _ | exact n1 | exact n2 | exact n3 | exact c73 | exact c74 | exact r0 | exact r1 | exact r2 | exact r3 | exact c74v | exact p1 | exact p2 | exact q1 | exact q2 | exact c73o | exact c73u | exact c77 | exact c42 | exact c63 | exact c64 | exact c68 | exact c67 | exact c78 | exact hs | exact c64' | exact eq_sigH rfl | exact eq_rsig rfl | exact eq_gauss _ _ _ _ | exact (fun w => run_convert_int_float w 3 125 .i64 .f32 z.re (by kernel_rfl) (by kernel_rfl)) | exact (fun w => run_convert_int_float w 3 125 .i64 .f32 z.im (by kernel_rfl) (by kernel_rfl))) ?_; conv => whnf)
    | fail)
  all_goals first
    | exact ⟨PLe.refl _⟩
    | exact absurd (decide_eq_true (⟨rfl, rfl⟩ : z.re = z.re ∧ z.im = z.im)) (by assumption)
end
theorem near_fit {a : G} {n : Nat} (h : near1 a n) : a.Fit n := by
  obtain ⟨⟨h1, h2⟩, h3, h4⟩ := h
  exact ⟨by omega, by omega⟩
theorem ToneHeard_pure {m : Int} (s : Sg) (x y z : G) : APure (C m) 11 [.agg (sc s), .agg [I x.re, I x.im, I y.re, I y.im], .agg (gc z)] (Bo true) := by
  have n1 := near_pure (m := m) s 5000 (by decide) (by decide)
  have n2 := near_pure (m := m) ⟨⟨1, 0⟩, x, y⟩ 1000 (by decide) (by decide)
  have n3 := near_pure (m := m) ⟨⟨1, 0⟩, z, ⟨0, 0⟩⟩ 1000 (by decide) (by decide)
  by_cases hall : nearP s 5000 ∧ nearP ⟨⟨1, 0⟩, x, y⟩ 1000 ∧ nearP ⟨⟨1, 0⟩, z, ⟨0, 0⟩⟩ 1000
  case neg =>
    exact ToneHeard_skip s x y z _ _ _ (fun h => hall ⟨of_decide_eq_true h.1, of_decide_eq_true h.2.1, of_decide_eq_true h.2.2⟩) n1 n2 n3
  obtain ⟨h1, h2, h3⟩ := hall
  rw [decide_eq_true h1] at n1
  rw [decide_eq_true h2] at n2
  rw [decide_eq_true h3] at n3
  have cs : checkE s = 0 := h1.1
  have ok : Ok s := checkE_zero.1 cs
  have hs5 : s.Fit 5000 := ⟨near_fit (n := 5000) h1.2.1, near_fit (n := 5000) h1.2.2.1, near_fit (n := 5000) h1.2.2.2⟩
  have hs6 : s.Fit 6000 := hs5.mono (by decide)
  have hx : x.Fit 1000 := near_fit (n := 1000) h2.2.2.1
  have hy : y.Fit 1000 := near_fit (n := 1000) h2.2.2.2
  have hz : z.Fit 1000 := near_fit (n := 1000) h3.2.2.1
  obtain ⟨o, ho⟩ : ∃ o : Sg, o = ⟨s.c, s.l.add x, s.h.add y⟩ := ⟨_, rfl⟩
  obtain ⟨u, hu⟩ : ∃ u : Sg, u = ⟨s.c, s.l.sub x, s.h.sub y⟩ := ⟨_, rfl⟩
  have fo : o.Fit 6000 := by
    rw [ho]
    exact ⟨hs6.c, (add_fit hs5.l hx).1, (add_fit hs5.h hy).1⟩
  have fu : u.Fit 6000 := by
    rw [hu]
    exact ⟨hs6.c, (add_fit hs5.l hx).2, (add_fit hs5.h hy).2⟩
  have oc : o.c = s.c := by rw [ho]
  have uc : u.c = s.c := by rw [hu]
  have oko : Ok o := ⟨fo.mono (by decide), by rw [oc]; exact ok.nz⟩
  have oku : Ok u := ⟨fu.mono (by decide), by rw [uc]; exact ok.nz⟩
  have co := checkE_zero.2 oko
  have cu := checkE_zero.2 oku
  obtain ⟨v, vis, vh, ⟨r0, r1⟩, r2, r3⟩ := more_pn (P := (C m).P) (s := s) (m := z) hs6 hz 119
  have c73 : APure (C m) 73 [.agg (sc s)] (.tup [.agg (pc (pnS s)), I 0]) := by
    have := up (m := m) (Sampled_pure s)
    rwa [sampled_pn cs, cs] at this
  have c73o : APure (C m) 73 [.agg (sc o)] (.tup [.agg (pc (pnS o)), I 0]) := by
    have := up (m := m) (Sampled_pure o)
    rwa [sampled_pn co, co] at this
  have c73u : APure (C m) 73 [.agg (sc u)] (.tup [.agg (pc (pnS u)), I 0]) := by
    have := up (m := m) (Sampled_pure u)
    rwa [sampled_pn cu, cu] at this
  have c74 : APure (C m) 74 [.agg (pc (pnS s))] (.tup [.agg (sc s), .agg [I 0, I 0], I 0]) := by
    have := up (m := m) (Received_pure (pnS s) (pnS_is hs6))
    obtain ⟨k1, k2, k3⟩ := hr_rcv (pnS_hr s) ok hs6 g0_fit
    rwa [k1, k2, k3] at this
  have c74v : APure (C m) 74 [.agg (pc v)] (.tup [.agg (sc s), .agg (gc z), I 0]) := by
    have := up (m := m) (Received_pure v vis)
    obtain ⟨k1, k2, k3⟩ := hr_rcv vh ok hs6 hz
    rwa [k1, k2, k3] at this
  have c77 : APure (C m) 77 [.seq 4 [pc (pnS o), pc (pnS s), pc (pnS u)]] (.tup [.agg (sc s), .agg [I 0, I 0], I 0]) := by
    have := up (m := m) (Averaged_pure [pnS o, pnS s, pnS u] (by simp) (fun p hp => by
      simp only [List.mem_cons, List.not_mem_nil, or_false] at hp
      rcases hp with rfl | rfl | rfl
      · exact pnS_is fo
      · exact pnS_is hs6
      · exact pnS_is fu))
    obtain ⟨k1, k2, k3⟩ := avg3 ok hs5 hx hy
    rw [← ho, ← hu] at k1 k2 k3
    rwa [k1, k2, k3] at this
  have hL : checkL [s, o] = 0 := checkL_zero.2 ⟨⟨by simp, by simp⟩, fun t ht => by
    simp only [List.mem_cons, List.not_mem_nil, or_false] at ht
    rcases ht with rfl | rfl
    · exact ok
    · exact oko⟩
  have c63 := Print_pure (m := m) [s, o] (by simp)
  rw [if_pos hL, hL] at c63
  have fs1 : s.Fit 1000000 := hs6.mono (by decide)
  have fo1 : o.Fit 1000000 := fo.mono (by decide)
  have c64 : APure (C m) 64 [St (printB [s, o])] (.tup [.seq 6 ([s, o].map sc), I 0, I 0]) := by
    have := Parse_pure (m := m) (printB [s, o])
    rw [parse_print2 fs1 fo1 hL] at this
    exact this
  have c64' : APure (C m) 64 [St ((printB [s, o]).extract 0 ((printB [s, o]).size - 1))] (.tup [nilS, I 1, I 25]) := by
    have := Parse_pure (m := m) ((printB [s, o]).extract 0 ((printB [s, o]).size - 1))
    rw [parse_print2_less fs1 fo1] at this
    exact this
  have hsz := print2_size fs1 fo1
  rw [← Lib.size_eq] at hsz
  have hpos : 0 < (printB [s, o]).size := by
    rw [Lib.size_eq, print2]
    simp only [List.length_append, List.length_cons]
    omega
  have c78 : APure (C m) 78 [St (printB [s, o]), .v (.int .u8 10)] (.seq 1 [[St ⟨(lineL s).toArray⟩], [St ⟨(lineL o).toArray⟩], [St ⟨#[]⟩]]) := by
    have := Split_pure (m := m) (printB [s, o]).data.toList 10 (by rw [← Lib.size_eq]; omega)
    rw [print2_split] at this
    have e : (⟨(printB [s, o]).data.toList.toArray⟩ : ByteArray) = printB [s, o] := by simp
    rw [e] at this
    exact this
  have p1 := up (m := m) (refPlus_fit s.l x 1000000 (by decide) (hs5.l.mono (by decide)) (hx.mono (by decide)))
  have p2 := up (m := m) (refPlus_fit s.h y 1000000 (by decide) (hs5.h.mono (by decide)) (hy.mono (by decide)))
  have q1 := up (m := m) (refMinus_fit s.l x 1000000 (by decide) (hs5.l.mono (by decide)) (hx.mono (by decide)))
  have q2 := up (m := m) (refMinus_fit s.h y 1000000 (by decide) (hs5.h.mono (by decide)) (hy.mono (by decide)))
  have ol : o.l = s.l.add x := by rw [ho]
  have oh : o.h = s.h.add y := by rw [ho]
  have ul : u.l = s.l.sub x := by rw [hu]
  have uh : u.h = s.h.sub y := by rw [hu]
  have so : sc o = [I s.c.re, I s.c.im, I o.l.re, I o.l.im, I o.h.re, I o.h.im] := by rw [← oc]
  have su : sc u = [I s.c.re, I s.c.im, I u.l.re, I u.l.im, I u.h.re, I u.h.im] := by rw [← uc]
  have em : [s, o].map sc = [sc s, [I s.c.re, I s.c.im, I o.l.re, I o.l.im, I o.h.re, I o.h.im]] := by rw [← so]; rfl
  have c42 := signals_pure (m := m) [s, o] (by simp)
  have c68 := told68_pure (m := m) [s, o] (by simp)
  have c67 := sameSignals_self (m := m) [s, o] (by simp)
  rw [em] at c42 c63 c64 c68 c67
  rw [so] at c73o
  rw [su] at c73u
  rw [← ol] at p1
  rw [← oh] at p2
  rw [← ul] at q1
  rw [← uh] at q2
  exact ToneHeard_parts s o u x y z (pnS s) v (pnS o) (pnS u) (printB [s, o]) _ n1 n2 n3 c73 c74 r0 r1 r2 r3 c74v p1 p2 q1 q2 c73o c73u c77 c42 c63 c64 c68 c67 _ _ _ c78
    (by rw [show (((printB [s, o]).size : Int) - 1) = (((printB [s, o]).size - 1 : Nat) : Int) by omega]; exact w64 (by omega)) ⟨by omega, by omega⟩ rfl c64'
end Go.Proofs.Ab.Tone2
end
section
/- More parameters' shapes. -/
set_option maxRecDepth 100000
set_option linter.unusedVariables false
set_option linter.unusedSimpArgs false
namespace Go.Proofs.Ab.Tone2
open Go Go.RowKit Go.Proofs.Ab Go.Proofs.Ab.Tone
theorem fit_four {x : PV} (h : FitP (true, [.int .i64, .int .i64, .int .i64, .int .i64]) x) : ∃ a b : G, x = .agg [I a.re, I a.im, I b.re, I b.im] := by
  obtain ⟨xs, rfl, h⟩ := h
  obtain ⟨c1, xs, rfl, h1, h⟩ := h.uncons
  obtain ⟨c2, xs, rfl, h2, h⟩ := h.uncons
  obtain ⟨c3, xs, rfl, h3, h⟩ := h.uncons
  obtain ⟨c4, xs, rfl, h4, h⟩ := h.uncons
  obtain rfl := h.unnil
  obtain ⟨n1, rfl, _⟩ := h1.int_inv
  obtain ⟨n2, rfl, _⟩ := h2.int_inv
  obtain ⟨n3, rfl, _⟩ := h3.int_inv
  obtain ⟨n4, rfl, _⟩ := h4.int_inv
  exact ⟨⟨n1, n2⟩, ⟨n3, n4⟩, rfl⟩
end Go.Proofs.Ab.Tone2
end
section
/- ToneHeard: the samples of a signal give it back, what is added to them with the signs of both tones is what is left, the mean of panels with opposite errors is the signal, and signals are parsed as they were printed: the law returns true, whatever it is handed. (Invalid signals and greater parts are left out by the law itself; the listed variables are as the program's text lays them.) -/
set_option maxRecDepth 100000
set_option linter.unusedVariables false
set_option linter.unusedSimpArgs false
namespace Go.Proofs.YtkphoimochkndaaGreatDoor
open Go Go.RowKit Go.Proofs.Ab Go.Proofs.Ab.Tone Go.Proofs.Ab.Tone2
theorem toneHeard_lifted (os : Os) (started : os.Started) (H : Type) (enc : TypeId × Value → H) :
    ReturnsInHanded {} Tryz.checked os 11 .any (fun w args => (Rows.toneHeardSpec.pre enc Tryz.prog Tryz.f11 [] false w args ∧ laidMetH Tryz.prog listed w) ∧ sizedMet enc Tryz.prog Tryz.f11 (OpenSpec.ofChange Rows.toneHeardSpec) false w args)
      (Rows.toneHeardSpec.post enc Tryz.prog Tryz.f11 false true false false) := by
  refine lifted_of started (by as_aux_lemma => kernel_rfl) Tryz.func11 (ss := [(true, sigSh), (true, [.int .i64, .int .i64, .int .i64, .int .i64]), (true, [.int .i64, .int .i64])])
    (witness #[.agg #[.int .i64 0, .int .i64 0, .int .i64 0, .int .i64 0, .int .i64 0, .int .i64 0], .agg #[.int .i64 0, .int .i64 0, .int .i64 0, .int .i64 0], .agg #[.int .i64 0, .int .i64 0]] (by as_aux_lemma => kernel_rfl) (by as_aux_lemma => kernel_rfl) (by as_aux_lemma => kernel_rfl) (World.shaped_of_ZipB (by as_aux_lemma => kernel_rfl) (by as_aux_lemma => kernel_rfl)) (laidMet_laidAll _ (by as_aux_lemma => kernel_rfl) (by as_aux_lemma => kernel_rfl)))
    ?_ (by as_aux_lemma => kernel_rfl) (by as_aux_lemma => kernel_rfl) rfl ?_ ?_
  · rw [Tryz.params11]
    intro t ht
    have hall : ([25, 112, 23].all fun u => Tryz.prog.readableRec u && decide (u < Tryz.prog.types.size)) = true := by as_aux_lemma => kernel_rfl
    have := List.all_eq_true.1 hall t (by simpa using ht)
    rw [Bool.and_eq_true, decide_eq_true_eq] at this
    exact this
  · rw [Tryz.params11]
    intro ds hd
    match ds, hd with
    | [d0, d1, d2], _ => exact ⟨rfl, rfl, rfl⟩
  · intro m xs h
    obtain ⟨x0, xs, rfl, h0, h⟩ := h.uncons
    obtain ⟨x1, xs, rfl, h1, h⟩ := h.uncons
    obtain ⟨x2, xs, rfl, h2, h⟩ := h.uncons
    obtain rfl := h.unnil
    obtain ⟨s, rfl⟩ := fit_sig h0
    obtain ⟨a, b, rfl⟩ := fit_four h1
    obtain ⟨c, d, rfl⟩ := fit_two h2
    exact ToneHeard_pure s a b ⟨c, d⟩
set_option maxHeartbeats 40000000 in
theorem toneHeard_facts : joinedFacts Tryz.pinned.checked.prog 11 Tryz.f11 Rows.toneHeardSpec Rows.toneHeardRow = true := by
  unfold joinedFacts
  simp only [Bool.and_eq_true]
  repeat' apply And.intro
  all_goals as_aux_lemma => kernel_rfl
theorem toneHeard_row : Rows.ToneHeardSaid :=
  OpenClaim.holds_of_wide 11 Tryz.f11 rfl rfl rfl rfl rfl rfl rfl ⟨rfl, rfl, rfl, rfl, rfl⟩ rfl rfl rfl rfl rfl (by as_aux_lemma => kernel_rfl) Tryz.func11 toneHeard_facts
    (of_decide_eq_true (by as_aux_lemma => kernel_rfl)) (by as_aux_lemma => unfold Func.isWrapper; first | (rw [if_pos (by decide +kernel)]; kernel_rfl) | (rw [if_neg (by decide +kernel)]; exact ⟨rfl, rfl⟩))
    (fun os started H enc _ => toneHeard_lifted os started H enc)
theorem toneHeard_named : Tryz.prog.funcNamed "glideslope/glideslopelaw02.ToneHeard" = some 11 := by kernel_rfl
theorem toneHeard_holds : Rows.ToneHeardCardSaid :=
  Claim7.holds_tied_plain_at .later [] [.data, .data, .data, .data, .data, .pinned] true (true, "6883a40308061e1e56e57a0a897ad96630f21489591d51bcd46258b6daf0fcd9") false toneHeard_row (fun _ h => by cases h) (by as_aux_lemma => kernel_rfl) (fun _ h => by cases h) toneHeard_row_tie rfl ⟨rfl, rfl⟩ (by as_aux_lemma => kernel_rfl) rfl
    (fun f fn hf hfn => by
      obtain rfl : f = 11 := Option.some.inj (toneHeard_named.symm.trans hf) |>.symm
      obtain rfl : fn = Tryz.f11 := (Option.some.inj (Tryz.func11.symm.trans hfn)).symm
      exact ⟨by as_aux_lemma => kernel_rfl, fun j t ht => by
        rw [Tryz.params11] at ht
        have hm : t ∈ [25, 112, 23] := by simpa using Array.mem_of_getElem? ht
        have hall : ([25, 112, 23].all fun u => !Tryz.prog.wantsStandIn u) = true := by as_aux_lemma => kernel_rfl
        exact (show Tryz.prog.wantsStandIn t = false by simpa using List.all_eq_true.1 hall t hm)⟩)
    (by as_aux_lemma => kernel_rfl)
#print axioms toneHeard_holds
end Go.Proofs.YtkphoimochkndaaGreatDoor
end
