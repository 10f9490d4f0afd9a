/- The machine, the contracts and the walks on which ToneDepths rests: a part of the proof. -/
import Derived.Test.YtkphoimochkndaaGreatDoorK3
import Derived.Shelf.Strings.Builder1
import Derived.Shelf.Strings.Builder2
import Derived.Shelf.Strings.OnBuilder
import Derived.Shelf.Small.Bits
import Derived.Shelf.Small.Strs
import Derived.Shelf.Small.Wraps
import Derived.Shelf.Utf8.RuneCount
import Derived.Shelf.Strconv.Itoa0
import Derived.Shelf.Strconv.Itoa1
import Derived.Shelf.LaysM
import Derived.Shelf.Strconv.Itoa2
import Derived.Shelf.Strconv.Itoa3
import Derived.Shelf.Strings.Search1
import Derived.Shelf.Strings.Search2
import Derived.Shelf.Strings.Search3
import Derived.Shelf.Strings.Count
import Derived.Shelf.Strings.Shaped
import Derived.Shelf.Strings.Prefix
import Derived.Shelf.Strings.Split
import Derived.Shelf.Strings.SplitShaped
import Derived.Shelf.Unicode.Decode
import Derived.Shelf.Strings.RuneCount
import Derived.Shelf.Strings.Explode
import Derived.Shelf.Unicode.DecodeSlow
import Derived.Shelf.Unicode.DecodeAny
import Derived.Ground.Names2Prog
import Derived.Shelf.Slices.SearchI
import Derived.Test.YtkphoimochkndaaGreatDoorProg
import Derived.Shelf.SlGeneric
import Derived.Shelf.SlSortCmp.WholeK
import Derived.Ground.SlsfProg
import Derived.Ground.NamesProg
import Derived.Shelf.SlSortCmp.NoneTotal
import Derived.Lib.SplitLaws
import Derived.Lib.ItoaLen
import Derived.Laws.FloatArith
import Derived.Laws.ComplexArith
import Derived.Laws.Cover2
import Derived.ChangeKeysEq
section
/- Flagged. -/
set_option maxRecDepth 100000
set_option linter.unusedVariables false
set_option linter.unusedSimpArgs false
namespace Go.Proofs.Ab.Tone2
open Go Go.RowKit Go.Proofs.Ab Go.Proofs.Ab.Tone
/-- Spans, and spans with one more index. -/
abbrev Sp := Int × Int
abbrev cellsP (ys : List Sp) : List (List PV) := ys.map fun q => [I q.1, I q.2]
def joinP (ys : List Sp) (i : Int) : List Sp := match ys.getLast? with
  | some q => if q.2 = i then ys.dropLast ++ [(q.1, i + 1)] else ys ++ [(i, i + 1)]
  | none => ys ++ [(i, i + 1)]
theorem joinP_len (ys : List Sp) (i : Int) : (joinP ys i).length ≤ ys.length + 1 := by
  unfold joinP
  split
  · split
    · simp
    · simp
  · simp
def spans (p : Nat → Bool) : Nat → List Sp
  | 0 => []
  | k + 1 => if p k then joinP (spans p k) k else spans p k
theorem spans_len (p : Nat → Bool) : ∀ k, (spans p k).length ≤ k
  | 0 => by simp [spans]
  | k + 1 => by
    have := spans_len p k
    have := joinP_len (spans p k) k
    unfold spans
    split <;> omega
theorem dropK_of {l r : List PV} {n : Nat} {k : List PV → Prop} (h : n ≤ l.length) (e : l.drop n = r) (hk : k r) : dropK l n k := by
  subst e
  induction n generalizing l with
  | zero => unfold dropK; exact hk
  | succ n ih =>
    cases l with
    | nil => simp at h
    | cons x l => exact ih (by simpa using h) hk
theorem flatP_len : ∀ zs : List Sp, (cellsP zs).flatten.length = zs.length * 2
  | [] => rfl
  | z :: zs => by
    have := flatP_len zs
    simp only [cellsP, List.map_cons, List.flatten_cons, List.length_append, List.length_cons, List.length_nil] at this ⊢
    omega
theorem flatP (zs : List Sp) (q : Sp) : (cellsP (zs ++ [q])).flatten = (cellsP zs).flatten ++ [I q.1, I q.2] := by simp [cellsP]
theorem flatP_drop (zs : List Sp) (q : Sp) : (cellsP (zs ++ [q])).flatten.drop (zs.length * 2 + 1) = [I q.2] := by
  rw [flatP, ← flatP_len zs, List.drop_append]
  simp
theorem flatP_take (zs : List Sp) (q : Sp) : (cellsP (zs ++ [q])).flatten.take (zs.length * 2 + 1) = (cellsP zs).flatten ++ [I q.1] := by
  rw [flatP, ← flatP_len zs, List.take_append, List.take_of_length_le (by omega), Nat.add_sub_cancel_left]
  rfl
theorem storeP (zs : List Sp) (q : Sp) (v : Int) : (cellsP (zs ++ [(q.1, v)])).flatten = (cellsP (zs ++ [q])).flatten.take (zs.length * 2 + 1) ++ [I v] ++ (cellsP (zs ++ [q])).flatten.drop (zs.length * 2 + 1 + 1) ∧
    zs.length * 2 + 1 + 1 ≤ (cellsP (zs ++ [q])).flatten.length ∧ (cellsP (zs ++ [(q.1, v)])).length = (cellsP (zs ++ [q])).length ∧ ∀ x ∈ cellsP (zs ++ [(q.1, v)]), x.length = 2 := by
  refine ⟨?_, ?_, by simp, fun x hx => ?_⟩
  · rw [flatP_take, List.drop_of_length_le (by rw [flatP_len]; simp; omega), flatP]
    simp
  · rw [flatP_len]; simp; omega
  · simp only [cellsP, List.mem_map] at hx
    obtain ⟨y, _, rfl⟩ := hx
    rfl
def flagP (r : Rx) (xs : List Sg) (k : Nat) : Bool := match xs[k]? with
  | some s => decide (flagB r s ≠ bNone)
  | none => false
theorem flag_cases (r : Rx) (s : Sg) : flagB r s = bWeak ∨ flagB r s = bDepth ∨ flagB r s = bNone := by
  unfold flagB
  split
  · exact .inl rfl
  · split
    · exact .inr (.inl rfl)
    · exact .inr (.inr rfl)
def flaggedE (r : Rx) (xs : List Sg) : Int := firstOf [rxE r, checkL xs]
theorem flaggedE_zero {r : Rx} {xs : List Sg} : flaggedE r xs = 0 ↔ RxOk r ∧ checkL xs = 0 := by
  unfold flaggedE
  rw [firstOf_zero, firstOf_zero, rxE_zero]
  exact ⟨fun ⟨h1, h2, _⟩ => ⟨h1, h2⟩, fun ⟨h1, h2⟩ => ⟨h1, h2, rfl⟩⟩
abbrev seqP (ys : List Sp) : PV := .seq 2 (cellsP ys)
def flaggedV (r : Rx) (xs : List Sg) : PV := if flaggedE r xs = 0 then seqP (spans (flagP r xs) xs.length) else nilS
theorem Flagged_pure {m : Int} (r : Rx) (xs : List Sg) (hl : xs.length ≤ 1000000) :
    APure (C m) 59 [.agg (xc r), .seq 6 (xs.map sc)] (.tup [flaggedV r xs, I (flaggedE r xs)]) := by
  refine APure.of_body good [37] (fn := Tryz.f59) (by kernel_rfl) (by kernel_rfl) rfl rfl (by kernel_rfl) rfl (by kernel_rfl) ?_
  conv => whnf
  repeat' (first
    | (refine codeK_sound good (mu := [37]) ?_; conv => whnf)
    | ((first | rw [wl0] | rw [wl1] | rw [wl2] | rw [wl3] | rw [wl4] | rw [wl5]); conv => whnf)
    | (refine SBool.mk (fun _ => ?_) (fun h => absurd (of_decide_eq_true rfl) h); conv => whnf)
    | (refine SBool.mk (fun h => absurd h (of_decide_eq_false rfl)) (fun _ => ?_); conv => whnf)
    | (refine SBool.mk (fun h => ?_) (fun h => ?_) <;> conv => whnf)
    | (refine SEx.mk _ (by first | exact up (CheckReceiver_pure r) | exact up (first2_pure _ _) | exact up (checkSignals_pure xs hl)) ?_; conv => whnf)
    | (refine SEx.mk _ (by first | exact rfl | exact ⟨of_decide_eq_true rfl, rfl⟩) ?_; conv => whnf)
    | (refine SAll.mk (fun _ => ?_); conv => whnf)
    | (refine SAnd.mk ⟨by intro c hc; simp at hc; first | (subst hc; rfl) | ((repeat' (rcases hc with rfl | hc)) <;> first | rfl | (subst hc; rfl)), by (simp; first | done | omega), by (simp; first | done | omega)⟩ ?_; conv => whnf)
    | (refine SAnd.mk (by first | exact rfl | kernel_rfl | omega | decide | exact up (CheckReceiver_pure r) | exact up (first2_pure _ _) | exact up (checkSignals_pure xs hl)) ?_; conv => whnf)
    | fail)
  · rename_i g
    have h0 : flaggedE r xs = 0 := h
    obtain ⟨hr, hcl⟩ := flaggedE_zero.1 h0
    have hx := (checkL_zero.1 hcl).2
    have hll := (checkL_zero.1 hcl).1.2
    refine ⟨AWp.loop (ι := { k : Nat // k ≤ xs.length }) (fun k => ⟨[(23, .p (I k.1)), (22, .p (I xs.length)), (8, .own 1), (7, .p (.v (.map (some g)))), (2, .p (.ref (xc r))), (1, .p (.seq 6 (xs.map sc)))], [], [(1, (143, 2, cellsP (spans (flagP r xs) k.1)))], 2, [], [(0, .mp g [(bWeak, .bool true), (bDepth, .bool true)])], []⟩) (fun k => xs.length - k.1) ⟨0, by simp⟩ ?_ ?_⟩
    · refine SLe.row 8 143 2 ?_
      conv => whnf
      skip
      · refine SLe.ofO [] [(1, 1)] [(0, 0)] rfl rfl rfl ?_
        conv => whnf
        repeat' (first
        | exact True.intro
        | (refine SAnd.mk (PLe.of_eq (by simp only [wrapK]; rw [wrap_id (by first | omega | (simp only; done) | (simp only; omega) | simp) (by first | omega | (simp only; done) | (simp only; omega) | simp)]; simp)) ?_; conv => whnf)
        | (refine SAnd.mk (PLe.refl _) ?_; conv => whnf)
        | (refine SAnd.mk (PLeL.refl _) ?_; conv => whnf)
        | (refine SAnd.mk (PLe.of_eq (by simp)) ?_; conv => whnf)
        | (refine SAnd.mk rfl ?_; conv => whnf)
        | (refine SAnd.mk ⟨rfl, rfl⟩ ?_; conv => whnf)
        | (refine SAnd.mk ⟨rfl, rfl, rfl⟩ ?_; conv => whnf))
    · rintro ⟨k, hk⟩
      refine codeK_sound good (mu := [37]) ?_
      conv => whnf
      refine SBool.mk (fun hc => ?_) (fun hc => ?_)
      · conv => whnf
        have hkl : k < xs.length := by simpa using hc
        have hp := flag_pure r xs[k] hr (hx _ (List.getElem_mem hkl))
        have hPk : flagP r xs k = decide (flagB r xs[k] ≠ bNone) := by simp [flagP, hkl]
        have hsl := spans_len (flagP r xs) k
        conv => whnf
        repeat' (first
          | (refine codeK_sound good (mu := []) ?_; conv => whnf)
          | ((first | rw [wl0] | rw [wl1] | rw [wl2] | rw [wl3] | rw [wl4] | rw [wl5]); conv => whnf)
          | (refine SBool.mk (fun _ => ?_) (fun h => absurd (of_decide_eq_true rfl) h); conv => whnf)
          | (refine SBool.mk (fun h => absurd h (of_decide_eq_false rfl)) (fun _ => ?_); conv => whnf)
          | (refine SBool.mk (fun h => ?_) (fun h => ?_) <;> conv => whnf)
          | (refine SEx.mk _ (by first | exact rfl | exact ⟨of_decide_eq_true rfl, rfl⟩) ?_; conv => whnf)
          | (refine SAll.mk (fun _ => ?_); conv => whnf)
          | (refine SAnd.mk ⟨by intro c hc; simp at hc; first | (subst hc; rfl) | ((repeat' (rcases hc with rfl | hc)) <;> first | rfl | (subst hc; rfl)), by (simp; first | done | omega), by (simp; first | done | omega)⟩ ?_; conv => whnf)
          | (refine SAnd.mk (by first | exact rfl | kernel_rfl | omega | decide) ?_; conv => whnf)
          | fail)
        refine SEx.mk (sc xs[k]) (by simp [hkl]) ?_
        conv => whnf
        have go : flagB r xs[k] = bNone ∨ flagB r xs[k] = bWeak ∨ flagB r xs[k] = bDepth := by
          rcases flag_cases r xs[k] with h | h | h
          · exact .inr (.inl h)
          · exact .inr (.inr h)
          · exact .inl h
        rcases go with hf | hf
        · rw [hf] at hp hPk
          have hP : flagP r xs k = false := by rw [hPk]; rfl
          conv => whnf
          repeat' (first
            | (refine codeK_sound good (mu := [37]) ?_; conv => whnf)
            | ((first | rw [wl0] | rw [wl1] | rw [wl2] | rw [wl3] | rw [wl4] | rw [wl5]); conv => whnf)
            | (refine SBool.mk (fun _ => ?_) (fun h => absurd (of_decide_eq_true rfl) h); conv => whnf)
            | (refine SBool.mk (fun h => absurd h (of_decide_eq_false rfl)) (fun _ => ?_); conv => whnf)
            | (refine SBool.mk (fun h => ?_) (fun h => ?_) <;> conv => whnf)
            | (refine SEx.mk _ (by first | exact up hp | exact (fun w => Tryz.zeroValue4 w)) ?_; conv => whnf)
            | (refine SEx.mk _ (by first | exact rfl | exact ⟨of_decide_eq_true rfl, rfl⟩) ?_; conv => whnf)
            | (refine SAll.mk (fun _ => ?_); conv => whnf)
            | (refine SAnd.mk ⟨by intro c hc; simp at hc; first | (subst hc; rfl) | ((repeat' (rcases hc with rfl | hc)) <;> first | rfl | (subst hc; rfl)), by (simp; first | done | omega), by (simp; first | done | omega)⟩ ?_; conv => whnf)
            | (refine SAnd.mk (by first | exact rfl | kernel_rfl | omega | decide | exact up hp | exact (fun w => Tryz.zeroValue4 w)) ?_; conv => whnf)
            | fail)
          refine ⟨⟨k + 1, by omega⟩, by simp only; omega, ?_⟩
          skip
          · refine SLe.ofO [] [(1, 1)] [(0, 0)] rfl rfl rfl ?_
            conv => whnf
            repeat' (first
            | exact True.intro
            | (refine SAnd.mk (show _ = (_ : List (List PV)) from by simp [spans, hP]) ?_; conv => whnf)
            | (refine SAnd.mk (PLe.of_eq (by simp only [wrapK]; rw [wrap_id (by first | omega | (simp only; done) | (simp only; omega) | simp) (by first | omega | (simp only; done) | (simp only; omega) | simp)]; simp)) ?_; conv => whnf)
            | (refine SAnd.mk (PLe.refl _) ?_; conv => whnf)
            | (refine SAnd.mk (PLeL.refl _) ?_; conv => whnf)
            | (refine SAnd.mk (PLe.of_eq (by simp)) ?_; conv => whnf)
            | (refine SAnd.mk rfl ?_; conv => whnf)
            | (refine SAnd.mk ⟨rfl, rfl⟩ ?_; conv => whnf)
            | (refine SAnd.mk ⟨rfl, rfl, rfl⟩ ?_; conv => whnf))
        · have hP : flagP r xs k = true := by
            rw [hPk]
            rcases hf with hf | hf <;> rw [hf] <;> rfl
          obtain ⟨ys, hys⟩ : ∃ ys, ys = spans (flagP r xs) k := ⟨_, rfl⟩
          have hstep : spans (flagP r xs) (k + 1) = joinP ys k := by simp [spans, hP, hys]
          rw [← hys] at hsl
          rw [← hys]
          obtain ⟨b, hb, hw⟩ : ∃ b, flagB r xs[k] = b ∧ (b = bWeak ∨ b = bDepth) := ⟨_, rfl, hf⟩
          rw [hb] at hp
          have hlook : (mpGet [(bWeak, .bool true), (bDepth, .bool true)] b).getD (.bool false) = .bool true := by
            rcases hw with rfl | rfl <;> rfl
          conv => whnf
          repeat' (first
            | (refine codeK_sound good (mu := [37]) ?_; conv => whnf)
            | ((first | rw [wl0] | rw [wl1] | rw [wl2] | rw [wl3] | rw [wl4] | rw [wl5]); conv => whnf)
            | (refine SBool.mk (fun _ => ?_) (fun h => absurd (of_decide_eq_true rfl) h); conv => whnf)
            | (refine SBool.mk (fun h => absurd h (of_decide_eq_false rfl)) (fun _ => ?_); conv => whnf)
            | (refine SBool.mk (fun h => ?_) (fun h => ?_) <;> conv => whnf)
            | (refine SEx.mk _ (by first | exact up hp | exact (fun w => Tryz.zeroValue4 w) | exact hlook) ?_; conv => whnf)
            | (refine SEx.mk _ (by first | exact rfl | exact ⟨of_decide_eq_true rfl, rfl⟩) ?_; conv => whnf)
            | (refine SAll.mk (fun _ => ?_); conv => whnf)
            | (refine SAnd.mk (by first | exact hlook) ?_; conv => whnf)
            | (refine SAnd.mk ⟨by intro c hc; simp at hc; first | (subst hc; rfl) | ((repeat' (rcases hc with rfl | hc)) <;> first | rfl | (subst hc; rfl)), by (simp; first | done | omega), by (simp; first | done | omega)⟩ ?_; conv => whnf)
            | (refine SAnd.mk (by first | exact rfl | kernel_rfl | omega | decide | exact up hp | exact (fun w => Tryz.zeroValue4 w) | exact hlook) ?_; conv => whnf)
            | fail)
          clear hp hb hw hlook
          have wk : wrapK IntKind.i64 ((k : Int) + 1) = k + 1 := w64 (by omega)
          rcases List.eq_nil_or_concat ys with rfl | ⟨zs, q, rfl⟩
          · have hw0 : wrapK IntKind.i64 ((((143, 2, cellsP []) : Nat × Nat × List (List PV)).snd.snd.length : Int) - 1) = -1 := by kernel_rfl
            refine ACall.inline good [37] (fn := Tryz.f130) (by kernel_rfl) (by kernel_rfl) rfl rfl (by kernel_rfl) rfl (by kernel_rfl) ?_
            conv => whnf
            rw [hw0]
            conv => whnf
            repeat' (first
              | (refine codeK_sound good (mu := [37]) ?_; conv => whnf)
              | ((first | rw [wl0] | rw [wl1] | rw [wl2] | rw [wl3] | rw [wl4] | rw [wl5]); conv => whnf)
              | (refine SBool.mk (fun _ => ?_) (fun h => absurd (of_decide_eq_true rfl) h); conv => whnf)
              | (refine SBool.mk (fun h => absurd h (of_decide_eq_false rfl)) (fun _ => ?_); conv => whnf)
              | (refine SBool.mk (fun h => ?_) (fun h => ?_) <;> conv => whnf)
              | (refine SEx.mk _ (by first | exact rfl | exact ⟨of_decide_eq_true rfl, rfl⟩) ?_; conv => whnf)
              | (refine SAll.mk (fun _ => ?_); conv => whnf)
              | (refine SAnd.mk ⟨by intro c hc; simp at hc; first | (subst hc; rfl) | ((repeat' (rcases hc with rfl | hc)) <;> first | rfl | (subst hc; rfl)), by (simp; first | done | omega), by (simp; first | done | omega)⟩ ?_; conv => whnf)
              | (refine SAnd.mk (by first | exact rfl | kernel_rfl | omega | decide) ?_; conv => whnf)
              | fail)
            refine ⟨⟨k + 1, by omega⟩, by simp only; omega, ?_⟩
            skip
            · refine SLe.ofO [] [(1, 9)] [(0, 0)] rfl rfl rfl ?_
              conv => whnf
              repeat' (first
              | exact True.intro
              | (refine SAnd.mk (show _ = (_ : List (List PV)) from by simp only [hstep, wk]; simp [joinP]) ?_; conv => whnf)
              | (refine SAnd.mk (PLe.of_eq (by simp only [wrapK]; rw [wrap_id (by first | omega | (simp only; done) | (simp only; omega) | simp) (by first | omega | (simp only; done) | (simp only; omega) | simp)]; simp)) ?_; conv => whnf)
              | (refine SAnd.mk (PLe.refl _) ?_; conv => whnf)
              | (refine SAnd.mk (PLeL.refl _) ?_; conv => whnf)
              | (refine SAnd.mk (PLe.of_eq (by simp)) ?_; conv => whnf)
              | (refine SAnd.mk rfl ?_; conv => whnf)
              | (refine SAnd.mk ⟨rfl, rfl⟩ ?_; conv => whnf)
              | (refine SAnd.mk ⟨rfl, rfl, rfl⟩ ?_; conv => whnf))
          · rw [List.concat_eq_append] at *
            have hl1 : (zs ++ [q]).length = zs.length + 1 := by simp
            have hl2 : (cellsP (zs ++ [q])).length = zs.length + 1 := by simp
            have hw1 : wrapK IntKind.i64 ((((143, 2, cellsP (zs ++ [q])) : Nat × Nat × List (List PV)).snd.snd.length : Int) - 1) = zs.length := by
              show wrapK IntKind.i64 ((((cellsP (zs ++ [q])).length : Nat) : Int) - 1) = zs.length
              rw [hl2, show (((zs.length + 1 : Nat) : Int) - 1) = zs.length by omega]
              exact w64 (by omega)
            refine ACall.inline good [37] (fn := Tryz.f130) (by kernel_rfl) (by kernel_rfl) rfl rfl (by kernel_rfl) rfl (by kernel_rfl) ?_
            conv => whnf
            rw [hw1]
            refine SBool.mk (fun _ => ?_) (fun h => absurd (by omega) h)
            have hin : 0 ≤ (zs.length : Int) ∧ (zs.length : Int) < (((143, 2, cellsP (zs ++ [q])) : Nat × Nat × List (List PV)).snd.snd.length : Int) := ⟨by omega, by
              show (zs.length : Int) < (((cellsP (zs ++ [q])).length : Nat) : Int)
              rw [hl2]; omega⟩
            conv => whnf
            repeat' (first
              | (refine codeK_sound good (mu := [37]) ?_; conv => whnf)
              | ((first | rw [wl0] | rw [wl1] | rw [wl2] | rw [wl3] | rw [wl4] | rw [wl5]); conv => whnf)
              | (refine SBool.mk (fun _ => ?_) (fun h => absurd (of_decide_eq_true rfl) h); conv => whnf)
              | (refine SBool.mk (fun h => absurd h (of_decide_eq_false rfl)) (fun _ => ?_); conv => whnf)
              | (refine SBool.mk (fun h => ?_) (fun h => ?_) <;> conv => whnf)
              | (refine SEx.mk _ (by first | exact hin) ?_; conv => whnf)
              | (refine SEx.mk _ (by first | exact rfl | exact ⟨of_decide_eq_true rfl, rfl⟩) ?_; conv => whnf)
              | (refine SAll.mk (fun _ => ?_); conv => whnf)
              | (refine SAnd.mk (by first | exact hin) ?_; conv => whnf)
              | (refine SAnd.mk ⟨by intro c hc; simp at hc; first | (subst hc; rfl) | ((repeat' (rcases hc with rfl | hc)) <;> first | rfl | (subst hc; rfl)), by (simp; first | done | omega), by (simp; first | done | omega)⟩ ?_; conv => whnf)
              | (refine SAnd.mk (by first | exact rfl | kernel_rfl | omega | decide | exact hin) ?_; conv => whnf)
              | fail)
            have hdk : ∀ K : List PV → Prop, K [I q.2] → dropK ((143, 2, cellsP (zs ++ [q])) : Nat × Nat × List (List PV)).snd.snd.flatten (((zs.length : Int)).toNat * 2 + 1) K := fun K hk => dropK_of (r := [I q.2]) (by show zs.length * 2 + 1 ≤ (cellsP (zs ++ [q])).flatten.length; rw [flatP_len, hl1]; omega) (flatP_drop zs q) hk
            have hsz : zs.length + 1 ≤ 256 := by rw [hl1] at hsl; omega
            conv => whnf
            repeat' (first
              | (refine codeK_sound good (mu := [37]) ?_; conv => whnf)
              | ((first | rw [wl0] | rw [wl1] | rw [wl2] | rw [wl3] | rw [wl4] | rw [wl5]); conv => whnf)
              | (refine SBool.mk (fun _ => ?_) (fun h => absurd (of_decide_eq_true rfl) h); conv => whnf)
              | (refine SBool.mk (fun h => absurd h (of_decide_eq_false rfl)) (fun _ => ?_); conv => whnf)
              | (refine SBool.mk (fun h => ?_) (fun h => ?_) <;> conv => whnf)
              | (refine hdk _ ?_; conv => whnf)
              | (refine SEx.mk _ (by first | exact hin | exact storeP zs q _) ?_; conv => whnf)
              | (refine SEx.mk _ (by first | exact rfl | exact ⟨of_decide_eq_true rfl, rfl⟩) ?_; conv => whnf)
              | (refine SAll.mk (fun _ => ?_); conv => whnf)
              | (refine SAnd.mk (by first | exact hin | exact storeP zs q _) ?_; conv => whnf)
              | (refine SAnd.mk ⟨by intro c hc; simp at hc; first | (subst hc; rfl) | ((repeat' (rcases hc with rfl | hc)) <;> first | rfl | (subst hc; rfl)), by (simp; first | done | omega), by (simp; first | done | omega)⟩ ?_; conv => whnf)
              | (refine SAnd.mk (by first | exact rfl | kernel_rfl | omega | decide | exact hin | exact storeP zs q _) ?_; conv => whnf)
              | fail)
            · have hq : q.2 = (k : Int) := h
              refine ⟨⟨k + 1, by omega⟩, by simp only; omega, ?_⟩
              skip
              · refine SLe.ofO [] [(1, 1)] [(0, 0)] rfl rfl rfl ?_
                conv => whnf
                repeat' (first
                | exact True.intro
                | (refine SAnd.mk (show _ = (_ : List (List PV)) from by simp only [hstep, hq, wk]; simp [joinP, hq]) ?_; conv => whnf)
                | (refine SAnd.mk (PLe.of_eq (by simp only [wrapK]; rw [wrap_id (by first | omega | (simp only; done) | (simp only; omega) | simp) (by first | omega | (simp only; done) | (simp only; omega) | simp)]; simp)) ?_; conv => whnf)
                | (refine SAnd.mk (PLe.refl _) ?_; conv => whnf)
                | (refine SAnd.mk (PLeL.refl _) ?_; conv => whnf)
                | (refine SAnd.mk (PLe.of_eq (by simp)) ?_; conv => whnf)
                | (refine SAnd.mk rfl ?_; conv => whnf)
                | (refine SAnd.mk ⟨rfl, rfl⟩ ?_; conv => whnf)
                | (refine SAnd.mk ⟨rfl, rfl, rfl⟩ ?_; conv => whnf))
            · have hq : ¬ q.2 = (k : Int) := h
              refine ⟨⟨k + 1, by omega⟩, by simp only; omega, ?_⟩
              skip
              · refine SLe.ofO [] [(1, 9)] [(0, 0)] rfl rfl rfl ?_
                conv => whnf
                repeat' (first
                | exact True.intro
                | (refine SAnd.mk (show _ = (_ : List (List PV)) from by simp only [hstep, wk]; simp [joinP, hq]) ?_; conv => whnf)
                | (refine SAnd.mk (PLe.of_eq (by simp only [wrapK]; rw [wrap_id (by first | omega | (simp only; done) | (simp only; omega) | simp) (by first | omega | (simp only; done) | (simp only; omega) | simp)]; simp)) ?_; conv => whnf)
                | (refine SAnd.mk (PLe.refl _) ?_; conv => whnf)
                | (refine SAnd.mk (PLeL.refl _) ?_; conv => whnf)
                | (refine SAnd.mk (PLe.of_eq (by simp)) ?_; conv => whnf)
                | (refine SAnd.mk rfl ?_; conv => whnf)
                | (refine SAnd.mk ⟨rfl, rfl⟩ ?_; conv => whnf)
                | (refine SAnd.mk ⟨rfl, rfl, rfl⟩ ?_; conv => whnf))
      · have : k = xs.length := by simp at hc; omega
        subst this
        conv => whnf
        repeat' (first
          | (refine codeK_sound good (mu := []) ?_; conv => whnf)
          | ((first | rw [wl0] | rw [wl1] | rw [wl2] | rw [wl3] | rw [wl4] | rw [wl5]); conv => whnf)
          | (refine SBool.mk (fun _ => ?_) (fun h => absurd (of_decide_eq_true rfl) h); conv => whnf)
          | (refine SBool.mk (fun h => absurd h (of_decide_eq_false rfl)) (fun _ => ?_); conv => whnf)
          | (refine SBool.mk (fun h => ?_) (fun h => ?_) <;> conv => whnf)
          | (refine SEx.mk _ (by first | exact rfl | exact ⟨of_decide_eq_true rfl, rfl⟩) ?_; conv => whnf)
          | (refine SAll.mk (fun _ => ?_); conv => whnf)
          | (refine SAnd.mk ⟨by intro c hc; simp at hc; first | (subst hc; rfl) | ((repeat' (rcases hc with rfl | hc)) <;> first | rfl | (subst hc; rfl)), by (simp; first | done | omega), by (simp; first | done | omega)⟩ ?_; conv => whnf)
          | (refine SAnd.mk (by first | exact rfl | kernel_rfl | omega | decide) ?_; conv => whnf)
          | fail)
        exact ⟨PLe.of_eq (by simp [flaggedV, h0])⟩
  · have h0 : ¬ flaggedE r xs = 0 := h
    exact ⟨PLe.of_eq (by simp only [flaggedV, h0, if_false]; rfl)⟩
end Go.Proofs.Ab.Tone2
end
section
namespace Go.Proofs
open Go.Shelf
def Tryz.lays156_ren : Go.Shelf.Ren := ⟨fun | 156 => 136 | 165 => 171 | 166 => 172 | 169 => 173 | 240 => 198 | 241 => 199 | 276 => 213 | 277 => 214 | n => n, fun | 31 => 129 | 9 => 9 | 3 => 3 | 4 => 4 | 0 => 0 | 20 => 20 | 72 => 238 | 76 => 242 | 70 => 235 | 37 => 236 | 75 => 241 | 127 => 266 | 164 => 276 | 5 => 5 | 80 => 193 | n => n, fun | n => n⟩
theorem Tryz.lays156 : Go.Proofs.Lays.n156 Tryz.prog Tryz.lays156_ren := {
  mixed := by kernel_rfl
  f156 := Tryz.func136.trans (congrArg some (by kernel_rfl))
  f165 := Tryz.func171.trans (congrArg some (by kernel_rfl))
  f166 := Tryz.func172.trans (congrArg some (by kernel_rfl))
  f169 := Tryz.func173.trans (congrArg some (by kernel_rfl))
  f240 := Tryz.func198.trans (congrArg some (by kernel_rfl))
  f241 := Tryz.func199.trans (congrArg some (by kernel_rfl))
  f276 := Tryz.func213.trans (congrArg some (by kernel_rfl))
  f277 := Tryz.func214.trans (congrArg some (by kernel_rfl))
  t0 := Tryz.underlying0
  a0 := Tryz.isAgg0
  z0 := Tryz.sizeOf0
  v0 := Tryz.zeroValue0
  t3 := Tryz.underlying3
  a3 := Tryz.isAgg3
  z3 := Tryz.sizeOf3
  v3 := Tryz.zeroValue3
  t4 := Tryz.underlying4
  a4 := Tryz.isAgg4
  z4 := Tryz.sizeOf4
  v4 := Tryz.zeroValue4
  t9 := Tryz.underlying9
  a9 := Tryz.isAgg9
  z9 := Tryz.sizeOf9
  v9 := Tryz.zeroValue9
  t20 := Tryz.underlying20
  a20 := Tryz.isAgg20
  z20 := Tryz.sizeOf20
  v20 := Tryz.zeroValue20
  t31 := Tryz.underlying129
  a31 := Tryz.isAgg129
  z31 := Tryz.sizeOf129
  v31 := Tryz.zeroValue129
  t37 := Tryz.underlying236
  a37 := Tryz.isAgg236
  z37 := Tryz.sizeOf236
  v37 := Tryz.zeroValue236
  t70 := Tryz.underlying235
  a70 := Tryz.isAgg235
  z70 := Tryz.sizeOf235
  v70 := Tryz.zeroValue235
  t72 := Tryz.underlying238
  a72 := Tryz.isAgg238
  z72 := Tryz.sizeOf238
  v72 := Tryz.zeroValue238
  t75 := Tryz.underlying241
  a75 := Tryz.isAgg241
  z75 := Tryz.sizeOf241
  v75 := Tryz.zeroValue241
  t76 := Tryz.underlying242
  a76 := Tryz.isAgg242
  z76 := Tryz.sizeOf242
  v76 := Tryz.zeroValue242
  t127 := Tryz.underlying266
  a127 := Tryz.isAgg266
  z127 := Tryz.sizeOf266
  v127 := Tryz.zeroValue266
  t164 := Tryz.underlying276
  a164 := Tryz.isAgg276
  z164 := Tryz.sizeOf276
  v164 := Tryz.zeroValue276 }
theorem Tryz.Builder_Extra_156 : Builder.Extra Tryz.prog Tryz.lays156_ren := {
  sizeBuilder := by kernel_rfl
  liesBuilder := by kernel_rfl
  t5 := Tryz.underlying5
  a5 := Tryz.isAgg5
  z5 := Tryz.sizeOf5
  v5 := Tryz.zeroValue5
  infoByte := by kernel_rfl
  cellsByte := by kernel_rfl
  sizeByte := by kernel_rfl
  neB5 := by decide }
open Go.RowKit in
theorem Tryz.strings_Join_none (a : Option Addr) (c : Nat) (sep : ByteArray) (w : World) :
    Calls Tryz.prog 136 #[.slice a 0 c, .string sep] w fun e w' => e = .returned (.string ⟨#[]⟩) ∧ w' = w := Any.strings_Join_none Tryz.lays156 Tryz.Builder_Extra_156 a c sep w
open Go.RowKit in
theorem Tryz.strings_Join (bk o c : Nat) (xs : List ByteArray) (sep : ByteArray) (w : World) (hcells : ∀ (j : Nat) x, xs[j]? = some x → w.cell? ⟨bk, o + j, none⟩ = some (.string x)) (hbk : bk < w.heap.size) (hN : xs.length ≤ 140737488355328) (hcap : xs.length ≤ c) (hlen : (Lib.join (xs.map (·.data.toList)) sep.data.toList).length ≤ 140737488355328) :
    Calls Tryz.prog 136 #[.slice (some ⟨bk, o, none⟩) xs.length c, .string sep] w fun e w' => e = .returned (.string ⟨(Lib.join (xs.map (·.data.toList)) sep.data.toList).toArray⟩) ∧ Below w.heap.size w w' := Any.strings_Join Tryz.lays156 Tryz.Builder_Extra_156 bk o c xs sep w hcells hbk hN hcap hlen
def Tryz.lays137_ren : Go.Shelf.Ren := ⟨fun | 137 => 176 | 217 => 201 | 266 => 216 | n => n, fun | 9 => 9 | 5 => 5 | 3 => 3 | n => n, fun | n => n⟩
theorem Tryz.lays137 : Go.Proofs.Lays.n137 Tryz.prog Tryz.lays137_ren := {
  mixed := by kernel_rfl
  f137 := Tryz.func176.trans (congrArg some (by kernel_rfl))
  f217 := Tryz.func201.trans (congrArg some (by kernel_rfl))
  f266 := Tryz.func216.trans (congrArg some (by kernel_rfl))
  t3 := Tryz.underlying3
  a3 := Tryz.isAgg3
  z3 := Tryz.sizeOf3
  v3 := Tryz.zeroValue3
  t5 := Tryz.underlying5
  a5 := Tryz.isAgg5
  z5 := Tryz.sizeOf5
  v5 := Tryz.zeroValue5
  t9 := Tryz.underlying9
  a9 := Tryz.isAgg9
  z9 := Tryz.sizeOf9
  v9 := Tryz.zeroValue9 }
open Go.RowKit in
theorem Tryz.strings_IndexByte (s : ByteArray) (c : Int) (w : World) :
    Calls Tryz.prog 176 #[.string s, .int .u8 c] w fun e w' => e = .returned (.int .i64 (Lib.indexByte s.data.toList c.toNat.toUInt8)) ∧ w' = w := Any.strings_IndexByte Tryz.lays137 s c w
def Tryz.lays103_ren : Go.Shelf.Ren := ⟨fun | 103 => 206 | 210 => 221 | 206 => 231 | n => n, fun | 9 => 9 | 4 => 4 | 24 => 197 | 3 => 3 | n => n, fun | n => n⟩
theorem Tryz.lays103 : Go.Proofs.Lays.n103 Tryz.prog Tryz.lays103_ren := {
  mixed := by kernel_rfl
  f103 := Tryz.func206.trans (congrArg some (by kernel_rfl))
  f206 := Tryz.func231.trans (congrArg some (by kernel_rfl))
  f210 := Tryz.func221.trans (congrArg some (by kernel_rfl))
  t3 := Tryz.underlying3
  a3 := Tryz.isAgg3
  z3 := Tryz.sizeOf3
  v3 := Tryz.zeroValue3
  t4 := Tryz.underlying4
  a4 := Tryz.isAgg4
  z4 := Tryz.sizeOf4
  v4 := Tryz.zeroValue4
  t9 := Tryz.underlying9
  a9 := Tryz.isAgg9
  z9 := Tryz.sizeOf9
  v9 := Tryz.zeroValue9
  t24 := Tryz.underlying197
  a24 := Tryz.isAgg197
  z24 := Tryz.sizeOf197
  v24 := Tryz.zeroValue197 }
open Go.RowKit in
theorem Tryz.strings_CutPrefix (s p : ByteArray) (w : World) :
    Calls Tryz.prog 206 #[.string s, .string p] w fun e w' => e = .returned (.tuple #[.string ⟨(Lib.trimPrefix s.data.toList p.data.toList).toArray⟩, .bool (Lib.hasPrefix s.data.toList p.data.toList)]) ∧ w' = w := Any.strings_CutPrefix Tryz.lays103 s p w
def Tryz.lays104_ren : Go.Shelf.Ren := ⟨fun | 104 => 140 | 211 => 177 | 207 => 202 | n => n, fun | 9 => 9 | 4 => 4 | 24 => 197 | 3 => 3 | n => n, fun | n => n⟩
theorem Tryz.lays104 : Go.Proofs.Lays.n104 Tryz.prog Tryz.lays104_ren := {
  mixed := by kernel_rfl
  f104 := Tryz.func140.trans (congrArg some (by kernel_rfl))
  f207 := Tryz.func202.trans (congrArg some (by kernel_rfl))
  f211 := Tryz.func177.trans (congrArg some (by kernel_rfl))
  t3 := Tryz.underlying3
  a3 := Tryz.isAgg3
  z3 := Tryz.sizeOf3
  v3 := Tryz.zeroValue3
  t4 := Tryz.underlying4
  a4 := Tryz.isAgg4
  z4 := Tryz.sizeOf4
  v4 := Tryz.zeroValue4
  t9 := Tryz.underlying9
  a9 := Tryz.isAgg9
  z9 := Tryz.sizeOf9
  v9 := Tryz.zeroValue9
  t24 := Tryz.underlying197
  a24 := Tryz.isAgg197
  z24 := Tryz.sizeOf197
  v24 := Tryz.zeroValue197 }
open Go.RowKit in
theorem Tryz.strings_CutSuffix (s p : ByteArray) (w : World) (hs : s.size ≤ 9223372036854775807) :
    Calls Tryz.prog 140 #[.string s, .string p] w fun e w' => e = .returned (.tuple #[.string ⟨(Lib.trimSuffix s.data.toList p.data.toList).toArray⟩, .bool (Lib.hasSuffix s.data.toList p.data.toList)]) ∧ w' = w := Any.strings_CutSuffix Tryz.lays104 s p w hs
def Tryz.lays122_ren : Go.Shelf.Ren := ⟨fun | 122 => 133 | 215 => 170 | n => n, fun | 3 => 3 | 4 => 4 | n => n, fun | n => n⟩
theorem Tryz.lays122 : Go.Proofs.Lays.n122 Tryz.prog Tryz.lays122_ren := {
  mixed := by kernel_rfl
  f122 := Tryz.func133.trans (congrArg some (by kernel_rfl))
  f215 := Tryz.func170.trans (congrArg some (by kernel_rfl))
  t3 := Tryz.underlying3
  a3 := Tryz.isAgg3
  z3 := Tryz.sizeOf3
  v3 := Tryz.zeroValue3
  t4 := Tryz.underlying4
  a4 := Tryz.isAgg4
  z4 := Tryz.sizeOf4
  v4 := Tryz.zeroValue4 }
open Go.RowKit in
theorem Tryz.cmp_Compare_int (x y : Int) (w : World) :
    Calls Tryz.prog 133 #[.int .i64 x, .int .i64 y] w fun e w' => e = .returned (.int .i64 (Lib.compareInt x y)) ∧ w' = w := Any.cmp_Compare_int Tryz.lays122 x y w
def Tryz.laysM171_ren : Go.Shelf.Ren := ⟨fun | 171 => 174 | 243 => 200 | 246 => 215 | 283 => 223 | 284 => 224 | 285 => 225 | 286 => 226 | 129 => 197 | 317 => 232 | 318 => 233 | 319 => 234 | 320 => 235 | 337 => 237 | 338 => 238 | n => n, fun | 3 => 3 | 9 => 9 | 2 => 2 | 4 => 4 | 171 => 286 | 0 => 0 | 53 => 265 | 37 => 236 | 5 => 5 | 173 => 288 | 212 => 291 | 51 => 263 | 20 => 20 | 213 => 292 | 46 => 233 | 232 => 299 | 233 => 300 | n => n, fun | 17 => 2 | 18 => 5 | 19 => 6 | n => n⟩
theorem Tryz.laysM171 : Go.Proofs.LaysM.n171 Tryz.prog Tryz.laysM171_ren := {
  mixed := by kernel_rfl
  f129 := Tryz.func197.trans (congrArg some (by kernel_rfl))
  f171 := Tryz.func174.trans (congrArg some (by kernel_rfl))
  f243 := Tryz.func200.trans (congrArg some (by kernel_rfl))
  f246 := Tryz.func215.trans (congrArg some (by kernel_rfl))
  f283 := Tryz.func223.trans (congrArg some (by kernel_rfl))
  f284 := Tryz.func224.trans (congrArg some (by kernel_rfl))
  f285 := Tryz.func225.trans (congrArg some (by kernel_rfl))
  f286 := Tryz.func226.trans (congrArg some (by kernel_rfl))
  f317 := Tryz.func232.trans (congrArg some (by kernel_rfl))
  f318 := Tryz.func233.trans (congrArg some (by kernel_rfl))
  f319 := Tryz.func234.trans (congrArg some (by kernel_rfl))
  f320 := Tryz.func235.trans (congrArg some (by kernel_rfl))
  f337 := Tryz.func237.trans (congrArg some (by kernel_rfl))
  f338 := Tryz.func238.trans (congrArg some (by kernel_rfl))
  t0 := Tryz.underlying0
  a0 := Tryz.isAgg0
  z0 := Tryz.sizeOf0
  v0 := Tryz.zeroValue0
  t2 := Tryz.underlying2
  a2 := Tryz.isAgg2
  z2 := Tryz.sizeOf2
  v2 := Tryz.zeroValue2
  t3 := Tryz.underlying3
  a3 := Tryz.isAgg3
  z3 := Tryz.sizeOf3
  v3 := Tryz.zeroValue3
  t4 := Tryz.underlying4
  a4 := Tryz.isAgg4
  z4 := Tryz.sizeOf4
  v4 := Tryz.zeroValue4
  t5 := Tryz.underlying5
  a5 := Tryz.isAgg5
  z5 := Tryz.sizeOf5
  v5 := Tryz.zeroValue5
  t9 := Tryz.underlying9
  a9 := Tryz.isAgg9
  z9 := Tryz.sizeOf9
  v9 := Tryz.zeroValue9
  t20 := Tryz.underlying20
  a20 := Tryz.isAgg20
  z20 := Tryz.sizeOf20
  v20 := Tryz.zeroValue20
  t37 := Tryz.underlying236
  a37 := Tryz.isAgg236
  z37 := Tryz.sizeOf236
  v37 := Tryz.zeroValue236
  t46 := Tryz.underlying233
  a46 := Tryz.isAgg233
  z46 := Tryz.sizeOf233
  v46 := Tryz.zeroValue233
  t51 := Tryz.underlying263
  a51 := Tryz.isAgg263
  z51 := Tryz.sizeOf263
  v51 := Tryz.zeroValue263
  t53 := Tryz.underlying265
  a53 := Tryz.isAgg265
  z53 := Tryz.sizeOf265
  v53 := Tryz.zeroValue265
  t171 := Tryz.underlying286
  a171 := Tryz.isAgg286
  z171 := Tryz.sizeOf286
  v171 := Tryz.zeroValue286
  t173 := Tryz.underlying288
  a173 := Tryz.isAgg288
  z173 := Tryz.sizeOf288
  v173 := Tryz.zeroValue288
  t212 := Tryz.underlying291
  a212 := Tryz.isAgg291
  z212 := Tryz.sizeOf291
  v212 := Tryz.zeroValue291
  t213 := Tryz.underlying292
  a213 := Tryz.isAgg292
  z213 := Tryz.sizeOf292
  t232 := Tryz.underlying299
  a232 := Tryz.isAgg299
  z232 := Tryz.sizeOf299
  v232 := Tryz.zeroValue299
  t233 := Tryz.underlying300
  a233 := Tryz.isAgg300
  z233 := Tryz.sizeOf300
  v233 := Tryz.zeroValue300
  g17 := by kernel_rfl
  g18 := by kernel_rfl
  g19 := by kernel_rfl
  i0 := by kernel_rfl
  i2 := by kernel_rfl
  i3 := by kernel_rfl
  i4 := by kernel_rfl
  i5 := by kernel_rfl
  i9 := by kernel_rfl
  i20 := by kernel_rfl
  i37 := by kernel_rfl
  i46 := by kernel_rfl
  i51 := by kernel_rfl
  i53 := by kernel_rfl
  i171 := by kernel_rfl
  i173 := by kernel_rfl
  i212 := by kernel_rfl
  i232 := by kernel_rfl
  i233 := by kernel_rfl
  m17 := by kernel_rfl
  m18 := by kernel_rfl
  m19 := by kernel_rfl }
open Go.RowKit Go.Sort Go.Lib in
theorem Tryz.strconv_Itoa (n : Int) (h0 : -9223372036854775808 ≤ n) (h1 : n ≤ 9223372036854775807) (w : World) (htab : Lib.TabIs Tryz.prog w "internal/strconv.uint64pow10" .u64 Lib.pow10Tab) :
    Calls Tryz.prog 174 #[.int .i64 n] w fun e w' => e = .returned (.string ⟨(Lib.itoa n).toArray⟩) ∧ ∃ k os, w' = grow (w.drewN k) os := Any.strconv_Itoa Tryz.laysM171 n h0 h1 w htab
def Tryz.lays146_ren : Go.Shelf.Ren := ⟨fun | 146 => 141 | 221 => 178 | 268 => 203 | 138 => 204 | 143 => 205 | 195 => 217 | 197 => 218 | 218 => 219 | 219 => 220 | 260 => 227 | 217 => 201 | 225 => 228 | 224 => 229 | 267 => 230 | 266 => 216 | 314 => 236 | n => n, fun | 9 => 9 | 31 => 129 | 3 => 3 | 4 => 4 | 0 => 0 | 105 => 281 | 21 => 21 | 5 => 5 | 46 => 233 | 119 => 293 | 139 => 296 | 138 => 295 | 146 => 297 | 51 => 263 | n => n, fun | 1 => 1 | 3 => 3 | 4 => 4 | n => n⟩
theorem Tryz.lays146 : Go.Proofs.Lays.n146 Tryz.prog Tryz.lays146_ren := {
  mixed := by kernel_rfl
  f138 := Tryz.func204.trans (congrArg some (by kernel_rfl))
  f143 := Tryz.func205.trans (congrArg some (by kernel_rfl))
  f146 := Tryz.func141.trans (congrArg some (by kernel_rfl))
  f195 := Tryz.func217.trans (congrArg some (by kernel_rfl))
  f197 := Tryz.func218.trans (congrArg some (by kernel_rfl))
  f217 := Tryz.func201.trans (congrArg some (by kernel_rfl))
  f218 := Tryz.func219.trans (congrArg some (by kernel_rfl))
  f219 := Tryz.func220.trans (congrArg some (by kernel_rfl))
  f221 := Tryz.func178.trans (congrArg some (by kernel_rfl))
  f224 := Tryz.func229.trans (congrArg some (by kernel_rfl))
  f225 := Tryz.func228.trans (congrArg some (by kernel_rfl))
  f260 := Tryz.func227.trans (congrArg some (by kernel_rfl))
  f266 := Tryz.func216.trans (congrArg some (by kernel_rfl))
  f267 := Tryz.func230.trans (congrArg some (by kernel_rfl))
  f268 := Tryz.func203.trans (congrArg some (by kernel_rfl))
  f314 := Tryz.func236.trans (congrArg some (by kernel_rfl))
  t0 := Tryz.underlying0
  a0 := Tryz.isAgg0
  z0 := Tryz.sizeOf0
  v0 := Tryz.zeroValue0
  t3 := Tryz.underlying3
  a3 := Tryz.isAgg3
  z3 := Tryz.sizeOf3
  v3 := Tryz.zeroValue3
  t4 := Tryz.underlying4
  a4 := Tryz.isAgg4
  z4 := Tryz.sizeOf4
  v4 := Tryz.zeroValue4
  t5 := Tryz.underlying5
  a5 := Tryz.isAgg5
  z5 := Tryz.sizeOf5
  v5 := Tryz.zeroValue5
  t9 := Tryz.underlying9
  a9 := Tryz.isAgg9
  z9 := Tryz.sizeOf9
  v9 := Tryz.zeroValue9
  t21 := Tryz.underlying21
  a21 := Tryz.isAgg21
  z21 := Tryz.sizeOf21
  v21 := Tryz.zeroValue21
  t31 := Tryz.underlying129
  a31 := Tryz.isAgg129
  z31 := Tryz.sizeOf129
  v31 := Tryz.zeroValue129
  t46 := Tryz.underlying233
  a46 := Tryz.isAgg233
  z46 := Tryz.sizeOf233
  v46 := Tryz.zeroValue233
  t51 := Tryz.underlying263
  a51 := Tryz.isAgg263
  z51 := Tryz.sizeOf263
  v51 := Tryz.zeroValue263
  t105 := Tryz.underlying281
  a105 := Tryz.isAgg281
  z105 := Tryz.sizeOf281
  v105 := Tryz.zeroValue281
  t119 := Tryz.underlying293
  a119 := Tryz.isAgg293
  z119 := Tryz.sizeOf293
  t138 := Tryz.underlying295
  a138 := Tryz.isAgg295
  z138 := Tryz.sizeOf295
  v138 := Tryz.zeroValue295
  t139 := Tryz.underlying296
  a139 := Tryz.isAgg296
  z139 := Tryz.sizeOf296
  v139 := Tryz.zeroValue296
  t146 := Tryz.underlying297
  a146 := Tryz.isAgg297
  z146 := Tryz.sizeOf297
  v146 := Tryz.zeroValue297
  g1 := by kernel_rfl
  g3 := by kernel_rfl
  g4 := by kernel_rfl }
open Go.RowKit Go.Lib in
theorem Tryz.strings_Split (s sep : ByteArray) (m : Int) (w : World) (hs : s.size < 4294967281) (hm : w.cell? ⟨1, 0, none⟩ = some (.int .i64 m)) (h1 : 1 ≤ sep.size) :
    Calls Tryz.prog 141 #[.string s, .string sep] w fun e w' =>
      e = .returned (.slice (some ⟨w.heap.size, 0, none⟩) (Lib.countB s sep + 1) (Lib.countB s sep + 1)) ∧ w' = w.alloc (.cells ((Lib.splitB sep 0 (Lib.countB s sep) s).map Value.string).toArray 9) := Any.strings_Split Tryz.lays146 (by kernel_rfl) s sep m w hs hm h1
end Go.Proofs
end
section
namespace Go.Proofs
open Go.Shelf
def Tryz.sortSp_ren : Go.Shelf.Ren := ⟨fun | 6 => 131 | 15 => 169 | 14 => 168 | 28 => 196 | 29 => 197 | 20 => 188 | 21 => 189 | 22 => 190 | 23 => 191 | 24 => 192 | 25 => 193 | 26 => 194 | 27 => 195 | 46 => 208 | 47 => 209 | 48 => 210 | 49 => 211 | 50 => 212 | 57 => 222 | n => n, fun | 22 => 94 | 24 => 143 | 25 => 188 | 3 => 3 | 39 => 233 | 0 => 0 | 53 => 263 | 55 => 265 | 4 => 4 | 46 => 257 | 45 => 256 | 50 => 247 | 5 => 5 | 9 => 9 | 66 => 270 | 70 => 274 | 76 => 283 | 77 => 284 | n => n, fun | n => n⟩
theorem Tryz.sortSp : Go.Proofs.SlLaysF0.n6 Tryz.prog Tryz.sortSp_ren := {
  mixed := by kernel_rfl
  f6 := ⟨Tryz.f131.name, by decide, Tryz.func131.trans (congrArg some (by kernel_rfl))⟩
  f14 := ⟨Tryz.f168.name, by decide, Tryz.func168.trans (congrArg some (by kernel_rfl))⟩
  f15 := Tryz.func169.trans (congrArg some (by kernel_rfl))
  f20 := ⟨Tryz.f188.name, by decide, Tryz.func188.trans (congrArg some (by kernel_rfl))⟩
  f21 := ⟨Tryz.f189.name, by decide, Tryz.func189.trans (congrArg some (by kernel_rfl))⟩
  f22 := ⟨Tryz.f190.name, by decide, Tryz.func190.trans (congrArg some (by kernel_rfl))⟩
  f23 := ⟨Tryz.f191.name, by decide, Tryz.func191.trans (congrArg some (by kernel_rfl))⟩
  f24 := ⟨Tryz.f192.name, by decide, Tryz.func192.trans (congrArg some (by kernel_rfl))⟩
  f25 := ⟨Tryz.f193.name, by decide, Tryz.func193.trans (congrArg some (by kernel_rfl))⟩
  f26 := ⟨Tryz.f194.name, by decide, Tryz.func194.trans (congrArg some (by kernel_rfl))⟩
  f27 := ⟨Tryz.f195.name, by decide, Tryz.func195.trans (congrArg some (by kernel_rfl))⟩
  f28 := Tryz.func196.trans (congrArg some (by kernel_rfl))
  f29 := Tryz.func197.trans (congrArg some (by kernel_rfl))
  f46 := ⟨Tryz.f208.name, by decide, Tryz.func208.trans (congrArg some (by kernel_rfl))⟩
  f47 := Tryz.func209.trans (congrArg some (by kernel_rfl))
  f48 := Tryz.func210.trans (congrArg some (by kernel_rfl))
  f49 := ⟨Tryz.f211.name, by decide, Tryz.func211.trans (congrArg some (by kernel_rfl))⟩
  f50 := ⟨Tryz.f212.name, by decide, Tryz.func212.trans (congrArg some (by kernel_rfl))⟩
  f57 := ⟨Tryz.f222.name, by decide, Tryz.func222.trans (congrArg some (by kernel_rfl))⟩
  t0 := Tryz.underlying0
  a0 := Tryz.isAgg0
  z0 := Tryz.sizeOf0
  v0 := Tryz.zeroValue0
  t3 := Tryz.underlying3
  a3 := Tryz.isAgg3
  z3 := Tryz.sizeOf3
  v3 := Tryz.zeroValue3
  t4 := Tryz.underlying4
  a4 := Tryz.isAgg4
  z4 := Tryz.sizeOf4
  v4 := Tryz.zeroValue4
  t5 := Tryz.underlying5
  a5 := Tryz.isAgg5
  z5 := Tryz.sizeOf5
  v5 := Tryz.zeroValue5
  t9 := Tryz.underlying9
  a9 := Tryz.isAgg9
  z9 := Tryz.sizeOf9
  v9 := Tryz.zeroValue9
  t22 := Tryz.underlying94
  a22 := Tryz.isAgg94
  z22 := Tryz.sizeOf94
  v22 := Tryz.zeroValue94
  t25 := Tryz.underlying188
  a25 := Tryz.isAgg188
  z25 := Tryz.sizeOf188
  v25 := Tryz.zeroValue188
  t39 := Tryz.underlying233
  a39 := Tryz.isAgg233
  z39 := Tryz.sizeOf233
  v39 := Tryz.zeroValue233
  t45 := Tryz.underlying256
  a45 := Tryz.isAgg256
  z45 := Tryz.sizeOf256
  v45 := Tryz.zeroValue256
  t46 := Tryz.underlying257
  a46 := Tryz.isAgg257
  z46 := Tryz.sizeOf257
  v46 := Tryz.zeroValue257
  t50 := Tryz.underlying247
  a50 := Tryz.isAgg247
  z50 := Tryz.sizeOf247
  v50 := Tryz.zeroValue247
  t53 := Tryz.underlying263
  a53 := Tryz.isAgg263
  z53 := Tryz.sizeOf263
  v53 := Tryz.zeroValue263
  t55 := Tryz.underlying265
  a55 := Tryz.isAgg265
  z55 := Tryz.sizeOf265
  v55 := Tryz.zeroValue265
  t66 := Tryz.underlying270
  a66 := Tryz.isAgg270
  z66 := Tryz.sizeOf270
  v66 := Tryz.zeroValue270
  t70 := Tryz.underlying274
  a70 := Tryz.isAgg274
  z70 := Tryz.sizeOf274
  v70 := Tryz.zeroValue274
  t76 := Tryz.underlying283
  a76 := Tryz.isAgg283
  z76 := Tryz.sizeOf283
  v76 := Tryz.zeroValue283
  t77 := Tryz.underlying284
  a77 := Tryz.isAgg284
  z77 := Tryz.sizeOf284
  v77 := Tryz.zeroValue284 }
end Go.Proofs
end
section
/- A row within a variable, another content of a row; a way out through states that tell less. -/
set_option linter.unusedVariables false
set_option linter.unusedSimpArgs false
namespace Go.Proofs.Ab
open Go Go.RowKit

/-- What is asked at the end may be asked of a state that tells less. -/
theorem AWp.post {C : Cx} {nt : Nat} {s : AS} {c : Code} {Q : Out → AS → Prop} (h : AWp C nt c (fun e s' => ∃ t, SLe C nt s' t ∧ Q e t) s) : AWp C nt c Q s :=
  ⟨fun F n hF B ok0 w0 a w E R hS hR => h.wp F n hF B ok0 w0 a w E R hS fun e s' a' w' E' ⟨t, hle, hq⟩ hS' => let ⟨E2, hS2⟩ := hle.le hS'; hR e t a' w' E2 hq hS2⟩
/-- One piece of code, then the other, over a state in between. -/
theorem AWp.mid {C : Cx} {nt : Nat} {s : AS} {c d : Code} {Q : Out → AS → Prop} (t : AS) (h1 : AWp C nt d Q t) (h2 : AWp C nt c (fun e s' => match e with | .normal => SLe C nt s' t | e => Q e s') s) : AWp C nt (.seq c d) Q s :=
  .seq (h2.mono fun e s' hq => by
    cases e with
    | normal => exact .le hq h1
    | ret => exact hq
    | exit i => exact hq)
/-- A nil slice in a variable is a row without elements. -/
def rowHK (s : AS) (n e sz : Nat) (K : AS → Prop) : Prop := match s with
  | ⟨f, b, r, nx, v, ob, d⟩ => lookK ob n fun o => match o with
    | .hold g T (.p (.v (.slice none 0 0))) => setObK ob n (.hold g T (.own nx)) fun ob' => K ⟨f, b, (nx, (e, sz, [])) :: r, nx + 1, v, ob', d⟩
    | _ => False
theorem putObj_self {w : World} {g : Nat} {o : Obj} (h : w.heap[g]? = some o) : w.putObj g o = w := by
  have hlt := (Array.getElem?_eq_some_iff.1 h).1
  have he := (Array.getElem?_eq_some_iff.1 h).2
  unfold World.putObj
  rw [Array.setIfInBounds_def, dif_pos hlt, ← he, Array.set_getElem_self]
theorem SLe.rowH {C : Cx} {nt : Nat} {s u : AS} (n e sz : Nat) (hp : rowHK s n e sz fun s' => SLe C nt s' u) : SLe C nt s u := by
  obtain ⟨fr, bx, rw_, nx, sv, ob, df⟩ := s
  unfold rowHK at hp
  dsimp only at hp
  obtain ⟨o, ho, h2⟩ := lookK_sound hp
  clear hp
  split at h2
  case h_2 => exact h2.elim
  rename_i g T
  obtain ⟨ob', hk, hself, hother⟩ := setObK_sound h2
  refine ⟨fun {B ok0 w0 a w E} h => ?_⟩
  obtain ⟨E', hle, hs, hh, hS⟩ := h.row (e := e) (sz := sz) (ys := []) (vs := []) (v := .slice none 0 0) (v' := .slice none 0 0) (w' := w) (rw' := rw_)
    (fun m x hm => ⟨hm, fun k hk => by cases hkb : k.ownBlock with
      | none => exact .inl rfl
      | some b => exact .inr (by simp [Value.ownBlock])⟩)
    (fun n x g _ _ => by simp [Value.ownBlock]) (fun g hg => by simp [Value.ownBlock] at hg) (fun g hg => by simp [Value.ownBlock] at hg) ⟨rfl, rfl, rfl, Nat.le_refl _, fun _ _ _ => rfl⟩ (World.ownsRow_nil w B e sz) (by simp) .nil (.inl rfl) (fun _ _ _ => by simp [Value.ownBlock])
  obtain ⟨_, _, z, hz, hzh, v, hv, hze⟩ := hS.mem.ob n _ ho
  have hv' := v_inv hv
  subst hv'
  have hz' : w.heap[g]? = some (.cells #[.slice none 0 0] T (0, 0)) := by rw [← hze]; exact hz
  have := hS.setOb (o := .cells #[.slice none 0 0] T (0, 0)) ho (ob' := ob') (fun y hy2 => by rw [hself] at hy2; injection hy2 with hy2; rw [← hy2]; rfl) (fun y hy2 => by
    rw [hself] at hy2
    injection hy2 with hy2
    rw [← hy2]
    exact ⟨rfl, .slice none 0 0, hs, rfl⟩) (fun m hm y hy2 => by rw [hother m hm] at hy2; exact hy2)
  have e1 : w.putObj (Ob.blk (.hold g T (.p nilS))) (.cells #[.slice none 0 0] T (0, 0)) = w := putObj_self hz'
  rw [e1] at this
  exact hk.le this

section
variable {C : Cx} {nt : Nat} {s : AS} {B : Nat} {ok0 : Base} {w0 : World} {a : Act} {w w' : World} {E : Env}
/-- A row has another content now; beside it the world has grown. -/
theorem Sat.reRow (h : Sat C nt s B ok0 w0 a w E) {m e sz : Nat} {xs xs' : List (List PV)} {v : Value} {us' : List Value} (hm : look s.rw m = some (e, sz, xs)) (hv : E.ν m = some v)
    (hg : w.grownBy w' v.ownBlock) (hown' : w'.ownsRow B e sz v xs'.length us') (hsz : ∀ x ∈ xs', x.length = sz) (hr : RepL w E.ok xs'.flatten us') {rw' : List (Nat × (Nat × Nat × List (List PV)))}
    (hself : look rw' m = some (e, sz, xs')) (hother : ∀ k, k ≠ m → look rw' k = look s.rw k) : Sat C nt { s with rw := rw' } B ok0 w0 a w' E := by
  obtain ⟨v1, us, hv1, hown, hsz0, hr0, hok⟩ := h.mem.rw m e sz xs hm
  rw [hv] at hv1
  injection hv1 with hv1
  subst hv1
  have hh : ∀ b, E.ok b → w'.heap[b]? = w.heap[b]? := fun b hk => hg.block b (h.ok_lt b hk) (fun e => hok b e.symm hk)
  have hle : E.Le E := ⟨fun _ h => h, fun _ _ h => h, fun _ _ h => h⟩
  have look_of : ∀ k x, look rw' k = some x → ∃ y, look s.rw k = some y := fun k x hk => by
    by_cases e2 : k = m
    · subst e2; exact ⟨_, hm⟩
    · rw [hother k e2] at hk; exact ⟨_, hk⟩
  refine ⟨h.defs, h.size, fun t v hv => ⟨(h.fr t v hv).1, (h.fr t v hv).2.ext hle hh⟩, ⟨?_, ?_, obs_ext h.mem.ob hle hh (fun _ _ _ _ _ hn => hn) (fun i o hi x hx => (hg.block _ (Array.getElem?_eq_some_iff.1 hx).1 (fun e => h.od.ro m i _ o v hm hi hv e.symm)).trans hx)⟩, h.bb, ?_, ?_, h.fresh, fun b hk => Nat.lt_of_lt_of_le (h.ok_lt b hk) hg.size, h.ok_from, h.ok_all, h.hB, h.below.grown hg h.size_le (fun k hk => (hown.lt k hk).1), h.glob.ext (fun _ h => h) hh, fun t v hv => (h.svs t v hv).ext hle hh, ⟨h.od.oo, h.od.bo, fun k i x y v hk hi hv2 => let ⟨y', hy'⟩ := look_of k x hk; h.od.ro k i y' y v hy' hi hv2⟩⟩
  · intro n T cs hn
    obtain ⟨g, us2, hgn, hBg, hok2, hgg, hr2⟩ := h.mem.bx n T cs hn
    exact ⟨g, us2, hgn, hBg, hok2, (hg.block g (Array.getElem?_eq_some_iff.1 hgg).1 (fun e => h.br n m _ _ g v hn hm hgn hv e.symm)).trans hgg, hr2.ext hle.ok hh⟩
  · intro k e2 sz2 ys hk
    by_cases e3 : k = m
    · subst e3
      rw [hself] at hk
      injection hk with hk
      injection hk with h1 h2
      injection h2 with h2 h3
      subst h1; subst h2; subst h3
      exact ⟨v, us', hv, hown', hsz, hr.ext (fun _ h => h) hh, hok⟩
    · rw [hother k e3] at hk
      obtain ⟨v2, us2, hv2, ho2, hsz2, hr2, hok2⟩ := h.mem.rw k e2 sz2 ys hk
      refine ⟨v2, us2, hv2, ho2.kept hg ?_, hsz2, hr2.ext (fun _ h => h) hh, hok2⟩
      cases hb : v2.ownBlock with
      | none => exact .inl rfl
      | some b => exact .inr (fun he => e3 (h.rr k m _ _ b v2 v hk hm hv2 hv hb he.symm))
  · intro n k x y b v2 hn hk hb hv2
    obtain ⟨y', hy'⟩ := look_of k y hk
    exact h.br n k x y' b v2 hn hy' hb hv2
  · intro n k x y b v2 v3 hn hk hv2 hv3 hb hb'
    obtain ⟨x', hx'⟩ := look_of n x hn
    obtain ⟨y', hy'⟩ := look_of k y hk
    exact h.rr n k x' y' b v2 v3 hx' hy' hv2 hv3 hb hb'
end
end Go.Proofs.Ab
end
section
/- The library's sort, met at a row of the frame's own. -/
set_option maxRecDepth 100000
set_option linter.unusedVariables false
set_option linter.unusedSimpArgs false
namespace Go.Proofs.Ab.Tone2
open Go Go.RowKit Go.Proofs.Ab Go.Proofs.Ab.Tone
open Go.Sort (SWO PermIn SortedIn flatK size_flatK HoldsK putRowK)
/-- A span's two cells. -/
abbrev encP (x : Int × Int) : List Value := [.int .i64 x.1, .int .i64 x.2]
theorem ltP (x y : Int × Int) : ltOf (fun x y : Int × Int => Lib.compareInt x.1 y.1) x y = decide (x.1 < y.1) := by
  unfold ltOf Lib.compareInt
  by_cases h1 : x.1 < y.1
  · simp [h1]
  · by_cases h2 : y.1 < x.1 <;> simp [h1, h2]
theorem swoP : SWO (ltOf fun x y : Int × Int => Lib.compareInt x.1 y.1) where
  irrefl x := by rw [ltP]; simp
  trans x y z h1 h2 := by rw [ltP] at *; simp at *; omega
  ntrans x y z h1 h2 := by rw [ltP] at *; simp at *; omega
set_option maxHeartbeats 1000000 in
theorem closure132 (x y : Int × Int) (W : World) : Calls Tryz.prog 132 #[.agg #[.int .i64 x.1, .int .i64 x.2], .agg #[.int .i64 y.1, .int .i64 y.2]] W fun e w' => e = .returned (.int .i64 (Lib.compareInt x.1 y.1)) ∧ ∃ q os', w' = Go.Sort.grow (W.drewN q) os' := by
  have hcon := fun W' => Tryz.cmp_Compare_int x.1 y.1 W'
  generalize Lib.compareInt x.1 y.1 = r at hcon ⊢
  go_enter Tryz.func132, Tryz.ntmps132
  go_wp2_with (go_at_call 133; refine (hcon _).mono ?_; rintro e w' ⟨rfl, rfl⟩)
  go_ret
  exact ⟨rfl, 0, _, by rw [Go.Sort.alloc_eq_grow, Go.Sort.alloc_eq_grow, Go.Sort.grow_grow]; rfl⟩
theorem cmpLays132 (blk off size : Nat) (w : World) : CmpLays Tryz.prog 132 #[] encP 2 (fun x y => Lib.compareInt x.1 y.1) blk off size w :=
  fun _ _ _ _ x y => closure132 x y _
theorem flatMap_get : ∀ (ys : List (Int × Int)) (t : Nat), t < ys.length * 2 → (ys.flatMap encP)[t]? = some ((encP ys.toArray[t / 2]!)[t % 2]!)
  | [], t, h => by simp at h
  | y :: ys, 0, h => by simp [encP]
  | y :: ys, 1, h => by simp [encP]
  | y :: ys, t + 2, h => by
    have ih := flatMap_get ys t (by simp only [List.length_cons] at h; omega)
    have e1 : (t + 2) / 2 = t / 2 + 1 := by omega
    have e2 : (t + 2) % 2 = t % 2 := by omega
    rw [e1, e2, List.flatMap_cons, List.getElem?_append_right (by simp [encP])]
    simp only [encP, List.length_cons, List.length_nil] at ih ⊢
    rw [show t + 2 - (0 + 1 + 1) = t by omega, ih]
    simp
theorem flatK_eq (ys : List (Int × Int)) : flatK encP 2 ys.toArray = (ys.flatMap encP).toArray := by
  apply Array.ext_getElem?
  intro t
  by_cases h : t < ys.length * 2
  · have h2 := flatMap_get ys t h
    simp only [List.getElem?_toArray, h2]
    simp [flatK, h]
  · have : (ys.flatMap encP).length = ys.length * 2 := by
      clear h
      induction ys with
      | nil => rfl
      | cons y ys ih => rw [List.flatMap_cons, List.length_append, ih]; simp [encP]; omega
    rw [Array.getElem?_eq_none (by simp; omega), List.getElem?_toArray, List.getElem?_eq_none (by omega)]
theorem repP {w : World} {ok : Nat → Prop} : ∀ {ys : List (Int × Int)} {us : List Value}, RepL w ok (cellsP ys).flatten us → us = ys.flatMap encP
  | [], us, h => by
    have := h.1
    simpa using this
  | y :: ys, us, h => by
    have h' : RepL w ok (I y.1 :: I y.2 :: (cellsP ys).flatten) us := h
    obtain ⟨u, us, rfl, h1, h2⟩ := h'.uncons
    obtain ⟨v, us, rfl, h3, h4⟩ := h2.uncons
    rw [v_inv h1, v_inv h3, repP h4]
    rfl
theorem repP' {w : World} {ok : Nat → Prop} : ∀ ys : List (Int × Int), RepL w ok (cellsP ys).flatten (ys.flatMap encP)
  | [] => .nil
  | y :: ys => .cons (.v _) (.cons (.v _) (repP' ys))
theorem permIn_perm {d d' : Array (Int × Int)} (h : PermIn 0 d.size d d') : d'.toList.Perm d.toList := by
  obtain ⟨h1, _, h3⟩ := h
  have e1 : (d.extract 0 d.size).toList = d.toList := by simp
  have e2 : (d'.extract 0 d.size).toList = d'.toList := by rw [← h1]; simp
  rw [e1, e2] at h3
  exact h3
theorem sortedIn_pair {d : Array (Int × Int)} {n : Nat} (hn : n = d.size) (h : SortedIn (ltOf fun x y : Int × Int => Lib.compareInt x.1 y.1) 0 n d) : d.toList.Pairwise fun x y => x.1 ≤ y.1 := by
  subst hn
  rw [List.pairwise_iff_getElem]
  intro i j hi hj hij
  have := h i j (Nat.zero_le _) hij (by simpa using hj)
  rw [ltP] at this
  simp at hi hj
  simp [hi, hj] at this
  simpa using this
theorem sort_call {m : Int} {nt : Nat} {s : AS} {k : Nat} {ys : List (Int × Int)} {K : SV → AS → Prop} (hk : look s.rw k = some (143, 2, cellsP ys)) (hl : ys.length < 4611686018427387904)
    (h : ∀ ys' : List (Int × Int), ys'.Perm ys → (ys'.Pairwise fun x y => x.1 ≤ y.1) → setRwK s.rw k (143, 2, cellsP ys') fun rw => setRw s rw fun s' => K (.p (.tup [])) s') : ACall (C m) nt s 131 [.own k, .p (.fn 132 [])] K := by
  refine ⟨⟨Tryz.f131, _, Tryz.func131, by kernel_rfl, rfl⟩, fun B ok0 w0 a w E us R hS hr hR => ?_⟩
  obtain ⟨v, us, rfl, hv, hr⟩ := hr.uncons
  obtain ⟨f, us, rfl, hf, hr⟩ := hr.uncons
  obtain rfl := hr.unnil
  have hv : E.ν k = some v := hv
  obtain ⟨fs, rfl, hfs⟩ := fn_inv hf
  obtain rfl := hfs.unnil
  obtain ⟨v', us, hv', hown, hsz, hrep, hok⟩ := hS.mem.rw k 143 2 _ hk
  rw [hv] at hv'
  injection hv' with hv'
  subst hv'
  have hus := repP hrep
  subst hus
  rcases hown.2 with ⟨rfl, h0⟩ | ⟨g, cap, cur, rfl, hB, hcur, hnc, hcm, hcs, htk⟩
  · have hy : ys = [] := by simpa using h0
    subst hy
    have hc := AnyF.slices_SortFunc_none Tryz.sortSp none 0 (.func (.func 132) #[] #[]) w
    refine Calls.mono (P := Tryz.prog) hc ?_
    rintro e w' ⟨rfl, rfl⟩
    refine ⟨_, rfl, ?_⟩
    obtain ⟨rw', hk', hself, hother⟩ := setRwK_sound (h [] .nil .nil)
    rw [setRw_eq] at hk'
    refine hR _ _ _ _ E hk' ?_ (.tup [] [] rfl (fun j c u hc => by simp at hc))
    refine hS.reRow hk hv ⟨rfl, rfl, rfl, Nat.le_refl _, fun _ _ _ => rfl⟩ hown (fun x hx => by simp at hx) hrep hself hother
  · have hlen : (cellsP ys).length = ys.length := by simp
    rw [hlen] at hnc hown htk ⊢
    have hglt : g < w.heap.size := (Array.getElem?_eq_some_iff.1 hcur).1
    have hH : HoldsK encP 2 w g 0 ys.toArray := by
      intro j hj
      rw [size_flatK] at hj
      have hj' : j < ys.length * 2 := by simpa using hj
      refine ⟨?_, by simp [World.frozen?, hcur]⟩
      have hc := ownsRow_cells hown rfl j
      rw [flatK_eq]
      have h2 := flatMap_get ys j hj'
      rw [Nat.zero_add, hc _ h2]
      simp [h2]
    have eg : ∀ args w, (callFunc 132 args).run Tryz.prog w = .ok (.enter 132 args) w := enters_of Tryz.func132 (by kernel_rfl) rfl
    have hc := AnyQ.slices_SortFunc Tryz.sortSp 2 Tryz.isAgg143 Tryz.sizeOf143 encP (fun _ => rfl) (fun x v hv => by simp [encP] at hv; rcases hv with rfl | rfl <;> rfl) (fun x y => Lib.compareInt x.1 y.1) swoP 132 #[] g 0 cap ys.toArray w eg (cmpLays132 g 0 ys.toArray.size w) hH hglt (by simpa using hl)
    refine Calls.mono (P := Tryz.prog) hc ?_
    rintro e w' ⟨rfl, d', n, os, hp, hs, rfl⟩
    refine ⟨_, rfl, ?_⟩
    have hperm := permIn_perm hp
    obtain ⟨ys', rfl⟩ : ∃ ys' : List (Int × Int), d' = ys'.toArray := ⟨d'.toList, by simp⟩
    have hperm : ys'.Perm ys := by simpa using hperm
    have hl2 := hperm.length_eq
    obtain ⟨rw', hk', hself, hother⟩ := setRwK_sound (h ys' hperm (by simpa using sortedIn_pair (d := ys'.toArray) (by simp [hl2]) hs))
    rw [setRw_eq] at hk'
    refine hR _ _ _ _ E hk' ?_ (.tup [] [] rfl (fun j c u hc => by simp at hc))
    have hheap : ∀ d : Array Value, (Go.Sort.grow (Go.Sort.putRow id (Go.Sort.ahead w n) g 0 d) os).heap[g]? = some (.cells (Go.Sort.putCells id 0 d cur) 143 (0, 0)) := fun d => by
      rw [Go.Sort.heap_grow_old _ _ (by simpa using hglt)]
      simp [Go.Sort.putRow, Go.Sort.mapBlock, Go.Sort.ahead, Array.getElem?_modify, hcur, Go.Sort.onCells]
    have hgrown : w.grownBy (sortWorldK encP 2 w g 0 n ys'.toArray os) (some g) := by
      refine ⟨rfl, rfl, rfl, by simp [sortWorldK, putRowK], fun k hk hne => ?_⟩
      unfold sortWorldK putRowK
      rw [Go.Sort.heap_grow_old _ _ (by simpa using hk)]
      have : g ≠ k := fun e => hne (by rw [e])
      simp [Go.Sort.putRow, Go.Sort.mapBlock, Go.Sort.ahead, Array.getElem?_modify, this]
    refine hS.reRow (xs' := cellsP ys') (us' := ys'.flatMap encP) hk hv hgrown ?_ (fun x hx => ?_) (repP' ys') hself hother
    · have hfl : (ys'.flatMap encP).length = ys'.length * 2 := by
        have := (repP' (w := w) (ok := E.ok) ys').1
        rw [this, flatP_len]
      refine ⟨by rw [hfl]; simp, .inr ⟨g, cap, Go.Sort.putCells id 0 (flatK encP 2 ys'.toArray) cur, by simp [hl2], hB, hheap _, by simp [hl2]; exact hnc, hcm, by simp [Go.Sort.putCells, hcs], ?_⟩⟩
      apply List.ext_getElem?
      intro j
      have hcl : ys'.length * 2 ≤ cur.size := by rw [hcs, hl2]; exact Nat.mul_le_mul_right _ hnc
      by_cases hj : j < ys'.length * 2
      · rw [List.getElem?_take_of_lt (by simpa using hj), Array.getElem?_toList, flatK_eq, flatMap_get ys' j hj]
        have h3 := flatMap_get ys' j hj
        obtain ⟨h5, h4⟩ := List.getElem?_eq_some_iff.1 h3
        simp [Go.Sort.putCells, show j < cur.size by omega, hfl, hj]
        rw [h4]
        simp
      · rw [List.getElem?_take_eq_none (by simp; omega), List.getElem?_eq_none (by omega)]
    · simp only [cellsP, List.mem_map] at hx
      obtain ⟨q, _, rfl⟩ := hx
      rfl
end Go.Proofs.Ab.Tone2
end
section
/- The library's functions on strings, as pure calls; Print. -/
set_option maxRecDepth 100000
set_option linter.unusedVariables false
set_option linter.unusedSimpArgs false
namespace Go.Proofs.Ab.Tone2
open Go Go.RowKit Go.Proofs.Ab Go.Proofs.Ab.Tone
theorem st_inv {w : World} {ok : Nat → Prop} {s : ByteArray} {us : List Value} {cs : List PV} (h : RepL w ok (St s :: cs) us) : ∃ us', us = .string s :: us' ∧ RepL w ok cs us' := by
  obtain ⟨u, us', rfl, h1, h2⟩ := h.uncons
  exact ⟨us', by rw [v_inv h1], h2⟩
theorem pv_inv {w : World} {ok : Nat → Prop} {x : Value} {us : List Value} {cs : List PV} (h : RepL w ok (.v x :: cs) us) : ∃ us', us = x :: us' ∧ RepL w ok cs us' := by
  obtain ⟨u, us', rfl, h1, h2⟩ := h.uncons
  exact ⟨us', by rw [v_inv h1], h2⟩
theorem belowN (w : World) (k : Nat) : Below w.heap.size w (w.drewN k) := by
  exact Go.below_drewN (Below.refl _ _) k
theorem itoa_pure {m : Int} (n : Int) (h0 : -9223372036854775808 ≤ n) (h1 : n ≤ 9223372036854775807) : APure (C m) 174 [I n] (St ⟨(Lib.itoa n).toArray⟩) := by
  refine ⟨⟨Tryz.f174, _, Tryz.func174, by kernel_rfl, rfl⟩, fun w ok us hlt hg hr => ?_⟩
  obtain ⟨us1, rfl, hr1⟩ := pv_inv hr
  obtain rfl := hr1.unnil
  obtain ⟨_, t, f, hh⟩ := hg.2 2 _ rfl
  have htab : Lib.TabIs Tryz.prog w "internal/strconv.uint64pow10" .u64 Lib.pow10Tab := by
    have e : Tryz.prog.globalNamed "internal/strconv.uint64pow10" = some 2 := by kernel_rfl
    simp [Lib.TabIs, World.var?, e, hh]
  refine Calls.mono (P := Tryz.prog) (Tryz.strconv_Itoa n h0 h1 w htab) ?_
  rintro e w' ⟨rfl, k, os, rfl⟩
  refine ⟨_, rfl, ?_, .v _⟩
  refine (belowN w k).trans ⟨rfl, rfl, rfl, by simp [Go.Sort.grow], fun j hj => ?_⟩
  exact Go.Sort.heap_grow_old _ _ (by simpa using hj)
theorem cutPrefix_pure {m : Int} (s p : ByteArray) : APure (C m) 206 [St s, St p] (.tup [St ⟨(Lib.trimPrefix s.data.toList p.data.toList).toArray⟩, Bo (Lib.hasPrefix s.data.toList p.data.toList)]) := by
  refine ⟨⟨Tryz.f206, _, Tryz.func206, by kernel_rfl, rfl⟩, fun w ok us hlt hg hr => ?_⟩
  obtain ⟨us1, rfl, hr1⟩ := st_inv hr
  obtain ⟨us2, rfl, hr2⟩ := st_inv hr1
  obtain rfl := hr2.unnil
  refine Calls.mono (P := Tryz.prog) (Tryz.strings_CutPrefix s p w) ?_
  rintro e w' ⟨rfl, rfl⟩
  exact ⟨_, rfl, Below.refl _ _, .tup _ [_, _] rfl (RepL.cons (.v _) (RepL.cons (.v _) .nil)).2⟩
theorem cutSuffix_pure {m : Int} (s p : ByteArray) (hs : s.size ≤ 9223372036854775807) : APure (C m) 140 [St s, St p] (.tup [St ⟨(Lib.trimSuffix s.data.toList p.data.toList).toArray⟩, Bo (Lib.hasSuffix s.data.toList p.data.toList)]) := by
  refine ⟨⟨Tryz.f140, _, Tryz.func140, by kernel_rfl, rfl⟩, fun w ok us hlt hg hr => ?_⟩
  obtain ⟨us1, rfl, hr1⟩ := st_inv hr
  obtain ⟨us2, rfl, hr2⟩ := st_inv hr1
  obtain rfl := hr2.unnil
  refine Calls.mono (P := Tryz.prog) (Tryz.strings_CutSuffix s p w hs) ?_
  rintro e w' ⟨rfl, rfl⟩
  exact ⟨_, rfl, Below.refl _ _, .tup _ [_, _] rfl (RepL.cons (.v _) (RepL.cons (.v _) .nil)).2⟩
theorem indexByte_pure {m : Int} (s : ByteArray) (c : Int) : APure (C m) 176 [St s, .v (.int .u8 c)] (I (Lib.indexByte s.data.toList c.toNat.toUInt8)) := by
  refine ⟨⟨Tryz.f176, _, Tryz.func176, by kernel_rfl, rfl⟩, fun w ok us hlt hg hr => ?_⟩
  obtain ⟨us1, rfl, hr1⟩ := st_inv hr
  obtain ⟨us2, rfl, hr2⟩ := pv_inv hr1
  obtain rfl := hr2.unnil
  refine Calls.mono (P := Tryz.prog) (Tryz.strings_IndexByte s c w) ?_
  rintro e w' ⟨rfl, rfl⟩
  exact ⟨_, rfl, Below.refl _ _, .v _⟩
abbrev cellsS (xs : List ByteArray) : List (List PV) := xs.map fun x => [St x]
theorem cellsS_flat : ∀ xs : List ByteArray, (cellsS xs).flatten = xs.map St
  | [] => rfl
  | x :: xs => by
    have := cellsS_flat xs
    simp only [cellsS, List.map_cons, List.flatten_cons] at this ⊢
    rw [this]
    rfl
theorem repS {w : World} {ok : Nat → Prop} : ∀ {xs : List ByteArray} {us : List Value}, RepL w ok (xs.map St) us → us = xs.map Value.string
  | [], us, h => by
    have := h.1
    simpa using this
  | x :: xs, us, h => by
    obtain ⟨us, rfl, h2⟩ := st_inv h
    rw [repS h2]
    rfl
theorem repS' {w : World} {ok : Nat → Prop} : ∀ xs : List ByteArray, RepL w ok (xs.map St) (xs.map Value.string)
  | [] => .nil
  | x :: xs => .cons (.v _) (repS' xs)
theorem join_pure {m : Int} (xs : List ByteArray) (sep : ByteArray) (hN : xs.length ≤ 140737488355328) (hlen : (Lib.join (xs.map (·.data.toList)) sep.data.toList).length ≤ 140737488355328) :
    APure (C m) 136 [.seq 1 (cellsS xs), St sep] (St ⟨(Lib.join (xs.map (·.data.toList)) sep.data.toList).toArray⟩) := by
  refine ⟨⟨Tryz.f136, _, Tryz.func136, by kernel_rfl, rfl⟩, fun w ok us hlt hg hr => ?_⟩
  obtain ⟨u, us0, rfl, hu, hrA⟩ := hr.uncons
  obtain ⟨us1, rfl, hr1⟩ := st_inv hrA
  obtain rfl := hr1.unnil
  obtain ⟨A, cap, us, rfl, hcap, hm, hsz, hrep, hA⟩ := seq_inv hu
  rw [cellsS_flat] at hrep
  obtain rfl := repS hrep
  have hl : (cellsS xs).length = xs.length := by simp
  rw [hl] at hcap hA ⊢
  cases xs with
  | nil =>
    refine Calls.mono (P := Tryz.prog) (Tryz.strings_Join_none A cap sep w) ?_
    rintro e w' ⟨rfl, rfl⟩
    exact ⟨_, rfl, Below.refl _ _, .v _⟩
  | cons x xs =>
    obtain ⟨b, o, rfl, hb, hc⟩ := hA (by simp)
    refine Calls.mono (P := Tryz.prog) (Tryz.strings_Join b o cap (x :: xs) sep w (fun j y hj => hc j _ (by rw [List.getElem?_map, hj]; rfl)) (hlt b hb) hN hcap hlen) ?_
    rintro e w' ⟨rfl, hbw⟩
    exact ⟨_, rfl, hbw, .v _⟩
theorem split_pure {m : Int} (s sep : ByteArray) (hs : s.size < 4294967281) (h1 : 1 ≤ sep.size) : APure (C m) 141 [St s, St sep] (.seq 1 (cellsS (Lib.splitB sep 0 (Lib.countB s sep) s))) := by
  refine ⟨⟨Tryz.f141, _, Tryz.func141, by kernel_rfl, rfl⟩, fun w ok us hlt hg hr => ?_⟩
  obtain ⟨us1, rfl, hr1⟩ := st_inv hr
  obtain ⟨us2, rfl, hr2⟩ := st_inv hr1
  obtain rfl := hr2.unnil
  have hm : w.cell? ⟨1, 0, none⟩ = some (.int .i64 m) := by
    obtain ⟨b, o, us, e, hb, hrr, hc⟩ := ref_inv (hg.1 1 [I m] rfl)
    injection e with e
    injection e with e
    injection e with e1 e2
    subst e1; subst e2
    obtain ⟨us, rfl, _⟩ := pv_inv hrr
    exact hc 0 _ rfl
  have hlen := Lib.splitB_all sep h1 0 _ s rfl
  have hcount : Lib.countB s sep + 1 ≤ maxLen := by
    have := Lib.countB_le sep h1 _ s (Nat.le_refl _)
    simp only [maxLen]
    omega
  refine Calls.mono (P := Tryz.prog) (Tryz.strings_Split s sep m w hs hm h1) ?_
  rintro e w' ⟨rfl, rfl⟩
  refine ⟨_, rfl, (Below.refl _ _).alloc (Nat.le_refl _) _, ?_⟩
  have hr2 := repS' (w := w.alloc (.cells ((Lib.splitB sep 0 (Lib.countB s sep) s).map Value.string).toArray 9)) (ok := grow ok w (w.alloc (.cells ((Lib.splitB sep 0 (Lib.countB s sep) s).map Value.string).toArray 9))) (Lib.splitB sep 0 (Lib.countB s sep) s)
  rw [← cellsS_flat] at hr2
  refine .seq 1 _ _ _ _ _ (by simp [hlen]) (Nat.le_refl _) hcount (fun x hx => ?_) hr2.1 hr2.2 (fun _ => ⟨w.heap.size, 0, rfl, .inr ⟨Nat.le_refl _, by simp⟩, fun j u hu => ?_⟩)
  · simp only [cellsS, List.mem_map] at hx
    obtain ⟨y, _, rfl⟩ := hx
    rfl
  · rw [Nat.zero_add, cell_of_row _ w.heap.size j _ 9 (0, 0) (heap_alloc_new w _)]
    simpa using hu
end Go.Proofs.Ab.Tone2
end
section
/- Print. -/
set_option maxRecDepth 100000
set_option linter.unusedVariables false
set_option linter.unusedSimpArgs false
namespace Go.Proofs.Ab.Tone2
open Go Go.RowKit Go.Proofs.Ab Go.Proofs.Ab.Tone
/-- A number's text; a signal's line. -/
def itoaB (n : Int) : ByteArray := ⟨(Lib.itoa n).toArray⟩
abbrev bSignal : ByteArray := ⟨#[115, 105, 103, 110, 97, 108]⟩
def wordsB (s : Sg) : List ByteArray := [bSignal, itoaB s.c.re, itoaB s.c.im, itoaB s.l.re, itoaB s.l.im, itoaB s.h.re, itoaB s.h.im]
def joinB (xs : List ByteArray) (sep : ByteArray) : ByteArray := ⟨(Lib.join (xs.map (·.data.toList)) sep.data.toList).toArray⟩
def lineB (s : Sg) : ByteArray := joinB (wordsB s) ⟨#[32]⟩ ++ ⟨#[10]⟩
theorem itoaB_len (n : Int) (h : n.natAbs ≤ 1000000) : (itoaB n).data.toList.length ≤ 21 := by
  have := Lib.itoa_length_le n (by omega) (by omega)
  simpa [itoaB] using this
theorem words_len (s : Sg) (hf : s.Fit 1000000) : (Lib.join ((wordsB s).map (·.data.toList)) ((⟨#[32]⟩ : ByteArray).data.toList)).length ≤ 200 := by
  have h1 := itoaB_len _ hf.c.re
  have h2 := itoaB_len _ hf.c.im
  have h3 := itoaB_len _ hf.l.re
  have h4 := itoaB_len _ hf.l.im
  have h5 := itoaB_len _ hf.h.re
  have h6 := itoaB_len _ hf.h.im
  simp only [wordsB, List.map_cons, List.map_nil]
  rw [Lib.join_length]
  simp only [Lib.lens, List.map_cons, List.map_nil, List.length_cons, List.length_nil, List.sum_cons, List.sum_nil] at *
  omega
theorem add_string {m : Int} (t : TypeId) (a b : ByteArray) (h : a.size + b.size ≤ 9223372036854775807) : ∀ w, (binOp .add t (.string a) (.string b)).run (C m).P w = .ok (.string (a ++ b)) w := by
  intro w
  rw [binOp_string_add]
  exact run_string_add_sum w a b h
theorem line_pure {m : Int} (s : Sg) (hf : s.Fit 1000000) : APure (C m) 138 [.agg (sc s)] (St (lineB s)) := by
  have h1 := hf.c.re
  have h2 := hf.c.im
  have h3 := hf.l.re
  have h4 := hf.l.im
  have h5 := hf.h.re
  have h6 := hf.h.im
  have hwl : (Lib.join ((wordsB s).map (·.data.toList)) ((⟨#[32]⟩ : ByteArray).data.toList)).length ≤ 140737488355328 := Nat.le_trans (words_len s hf) (by decide)
  have hadd : (joinB (wordsB s) ⟨#[32]⟩).size + (⟨#[10]⟩ : ByteArray).size ≤ 9223372036854775807 := by
    have := words_len s hf
    simp only [joinB, ByteArray.size, List.size_toArray]
    simp
    simp at this
    omega
  refine APure.of_body good [1006] (fn := Tryz.f138) (by kernel_rfl) (by kernel_rfl) rfl rfl (by kernel_rfl) rfl (by kernel_rfl) ?_
  conv => whnf
  repeat' (first
    | (refine codeK_sound good (mu := [1006]) ?_; conv => whnf)
    | ((first | rw [wl0] | rw [wl1] | rw [wl2] | rw [wl3] | rw [wl4] | rw [wl5]); conv => whnf)
    | (refine SBool.mk (fun _ => ?_) (fun h => absurd (of_decide_eq_true rfl) h); conv => whnf)
    | (refine SBool.mk (fun h => absurd h (of_decide_eq_false rfl)) (fun _ => ?_); conv => whnf)
    | (refine SBool.mk (fun h => ?_) (fun h => ?_) <;> conv => whnf)
    | refine SCode.mk (AWp.rounds 4 ?_)
    | (refine SEx.mk _ (by first | exact up (numbers_pure _ _ _ _ _ _) | exact itoa_pure s.c.re (by omega) (by omega) | exact itoa_pure s.c.im (by omega) (by omega) | exact itoa_pure s.l.re (by omega) (by omega) | exact itoa_pure s.l.im (by omega) (by omega) | exact itoa_pure s.h.re (by omega) (by omega) | exact itoa_pure s.h.im (by omega) (by omega) | exact join_pure (wordsB s) ⟨#[32]⟩ (by simp [wordsB]) hwl | exact add_string _ _ _ hadd) ?_; conv => whnf)
    | (refine SEx.mk _ (by first | exact rfl | exact ⟨of_decide_eq_true rfl, rfl⟩) ?_; conv => whnf)
    | (refine SAll.mk (fun _ => ?_); conv => whnf)
    | (refine SAnd.mk ⟨by intro c hc; simp at hc; first | (subst hc; rfl) | ((repeat' (rcases hc with rfl | hc)) <;> first | rfl | (subst hc; rfl)), by (simp; first | done | omega), by (simp; first | done | omega)⟩ ?_; conv => whnf)
    | (refine SAnd.mk (by first | exact rfl | kernel_rfl | omega | decide | exact up (numbers_pure _ _ _ _ _ _) | exact itoa_pure s.c.re (by omega) (by omega) | exact itoa_pure s.c.im (by omega) (by omega) | exact itoa_pure s.l.re (by omega) (by omega) | exact itoa_pure s.l.im (by omega) (by omega) | exact itoa_pure s.h.re (by omega) (by omega) | exact itoa_pure s.h.im (by omega) (by omega) | exact join_pure (wordsB s) ⟨#[32]⟩ (by simp [wordsB]) hwl | exact add_string _ _ _ hadd) ?_; conv => whnf)
    | fail)
  exact ⟨PLe.refl _⟩
theorem mapped137_m {m : Int} (f : Sg → ByteArray) (g : FuncId) (caps : List PV) (xs : List Sg) (hl : xs.length ≤ 1000000) (h : ∀ x ∈ xs, APure (C m) g (.agg (sc x) :: caps) (St (f x))) :
    APure (C m) 137 [.seq 6 (xs.map sc), .fn g caps] (.seq 1 (xs.map fun x => [St (f x)])) := by
  refine APure.of_body good [] (fn := Tryz.f137) (by kernel_rfl) (by kernel_rfl) rfl rfl (by kernel_rfl) rfl (by kernel_rfl) ?_
  conv => whnf
  refine ⟨AWp.loop (ι := { k : Nat // k ≤ xs.length }) (fun k => ⟨[(10, .p (I k.1)), (9, .p (I xs.length)), (8, .p (.seq 6 (xs.map sc))), (5, .own 0), (1, .p (.fn g caps))], [], [(0, (9, 1, (xs.take k.1).map fun x => [St (f x)]))], 1, [], [], []⟩) (fun k => xs.length - k.1) ⟨0, by simp⟩ ?_ ?_⟩
  · refine SLe.row 5 9 1 ?_
    conv => whnf
    refine SLe.of [] [(0, 0)] rfl rfl ?_
    conv => whnf
    refine SAnd.mk (PLe.refl _) ?_
    conv => whnf
    refine SAnd.mk (PLe.of_eq (by simp)) ?_
    conv => whnf
    refine SAnd.mk (PLe.refl _) ?_
    conv => whnf
    refine SAnd.mk (PLe.refl _) ?_
    conv => whnf
    refine SAnd.mk rfl ?_
    exact True.intro
  · rintro ⟨k, hk⟩
    refine codeK_sound good (mu := []) ?_
    conv => whnf
    refine SBool.mk (fun hc => ?_) (fun hc => ?_)
    · conv => whnf
      have hkl : k < xs.length := by simpa using hc
      refine SEx.mk (sc xs[k]) (by simp [hkl]) ?_
      conv => whnf
      refine SEx.mk _ (h xs[k] (List.getElem_mem hkl)) ?_
      conv => whnf
      refine SAnd.mk ⟨by intro c hc; simp at hc; subst hc; rfl, by simp; omega, by simp; omega⟩ ?_
      conv => whnf
      refine ⟨⟨k + 1, by omega⟩, by simp only; omega, ?_⟩
      refine SLe.of [] [(0, 2)] rfl rfl ?_
      conv => whnf
      refine SAnd.mk (PLe.of_eq (by simp only [wrapK]; rw [wrap_id (by omega) (by omega)]; simp)) ?_
      conv => whnf
      refine SAnd.mk (PLe.refl _) ?_
      conv => whnf
      refine SAnd.mk (PLe.refl _) ?_
      conv => whnf
      refine SAnd.mk (PLe.refl _) ?_
      conv => whnf
      refine SAnd.mk (take_map_succ hkl _).symm ?_
      exact True.intro
    · conv => whnf
      have : k = xs.length := by simp at hc; omega
      subst this
      exact ⟨PLe.of_eq (by simp)⟩
def printB (xs : List Sg) : ByteArray := joinB (xs.map lineB) ⟨#[]⟩
theorem lineB_len (s : Sg) (hf : s.Fit 1000000) : (lineB s).data.toList.length ≤ 201 := by
  have := words_len s hf
  simp only [lineB, joinB, ByteArray.data_append, Array.toList_append, List.length_append, List.toList_toArray] at this ⊢
  simp
  simpa using this
theorem lens_le {n : Nat} : ∀ {l : List (List UInt8)}, (∀ x ∈ l, x.length ≤ n) → Lib.lens l ≤ l.length * n
  | [], _ => by simp [Lib.lens]
  | x :: l, h => by
    have h1 := h x List.mem_cons_self
    have h2 := lens_le (l := l) (fun y hy => h y (List.mem_cons_of_mem _ hy))
    simp only [Lib.lens, List.map_cons, List.sum_cons, List.length_cons, Nat.add_mul, Nat.one_mul] at *
    omega
theorem print_len (xs : List Sg) (hl : xs.length ≤ 256) (hf : ∀ x ∈ xs, x.Fit 1000000) : (Lib.join ((xs.map lineB).map (·.data.toList)) ((⟨#[]⟩ : ByteArray).data.toList)).length ≤ 60000 := by
  cases xs with
  | nil => simp [Lib.join, List.intercalate]
  | cons x xs =>
    simp only [List.map_cons]
    rw [Lib.join_length]
    have := lens_le (n := 201) (l := (lineB x).data.toList :: (xs.map lineB).map (·.data.toList)) (fun y hy => by
      rcases List.mem_cons.1 hy with rfl | hy
      · exact lineB_len x (hf x List.mem_cons_self)
      · simp only [List.map_map, List.mem_map, Function.comp] at hy
        obtain ⟨z, hz, rfl⟩ := hy
        exact lineB_len z (hf z (List.mem_cons_of_mem _ hz)))
    simp at this hl ⊢
    omega
theorem Print_pure {m : Int} (xs : List Sg) (hl : xs.length ≤ 1000000) : APure (C m) 63 [.seq 6 (xs.map sc)] (.tup [St (if checkL xs = 0 then printB xs else ⟨#[]⟩), I (checkL xs)]) := by
  refine APure.of_body good [] (fn := Tryz.f63) (by kernel_rfl) (by kernel_rfl) rfl rfl (by kernel_rfl) rfl (by kernel_rfl) ?_
  conv => whnf
  repeat' (first
    | (refine codeK_sound good (mu := []) ?_; conv => whnf)
    | ((first | rw [wl0] | rw [wl1] | rw [wl2] | rw [wl3] | rw [wl4] | rw [wl5]); conv => whnf)
    | (refine SBool.mk (fun _ => ?_) (fun h => absurd (of_decide_eq_true rfl) h); conv => whnf)
    | (refine SBool.mk (fun h => absurd h (of_decide_eq_false rfl)) (fun _ => ?_); conv => whnf)
    | (refine SBool.mk (fun h => ?_) (fun h => ?_) <;> conv => whnf)
    | (refine SEx.mk _ (by first | exact up (checkSignals_pure xs hl)) ?_; conv => whnf)
    | (refine SEx.mk _ (by first | exact rfl | exact ⟨of_decide_eq_true rfl, rfl⟩) ?_; conv => whnf)
    | (refine SAll.mk (fun _ => ?_); conv => whnf)
    | (refine SAnd.mk ⟨by intro c hc; simp at hc; first | (subst hc; rfl) | ((repeat' (rcases hc with rfl | hc)) <;> first | rfl | (subst hc; rfl)), by (simp; first | done | omega), by (simp; first | done | omega)⟩ ?_; conv => whnf)
    | (refine SAnd.mk (by first | exact rfl | kernel_rfl | omega | decide | exact up (checkSignals_pure xs hl)) ?_; conv => whnf)
    | fail)
  · have hx := (checkL_zero.1 h).2
    have hll := (checkL_zero.1 h).1.2
    have hf : ∀ x ∈ xs, x.Fit 1000000 := fun x hx' => (hx x hx').fit.mono (by decide)
    have hpl : (Lib.join ((xs.map lineB).map (·.data.toList)) ((⟨#[]⟩ : ByteArray).data.toList)).length ≤ 140737488355328 := Nat.le_trans (print_len xs hll hf) (by decide)
    have hmp := mapped137_m (m := m) lineB 138 [] xs hl (fun x hx' => line_pure x (hf x hx'))
    have e : (xs.map fun x => [St (lineB x)]) = cellsS (xs.map lineB) := by simp [cellsS]
    rw [e] at hmp
    have hlm : (xs.map lineB).length ≤ 140737488355328 := by rw [List.length_map]; omega
    conv => whnf
    repeat' (first
      | (refine codeK_sound good (mu := []) ?_; conv => whnf)
      | ((first | rw [wl0] | rw [wl1] | rw [wl2] | rw [wl3] | rw [wl4] | rw [wl5]); conv => whnf)
      | (refine SBool.mk (fun _ => ?_) (fun h => absurd (of_decide_eq_true rfl) h); conv => whnf)
      | (refine SBool.mk (fun h => absurd h (of_decide_eq_false rfl)) (fun _ => ?_); conv => whnf)
      | (refine SBool.mk (fun h => ?_) (fun h => ?_) <;> conv => whnf)
      | (refine SEx.mk _ (by first | exact hmp | exact join_pure (xs.map lineB) ⟨#[]⟩ hlm hpl) ?_; conv => whnf)
      | (refine SEx.mk _ (by first | exact rfl | exact ⟨of_decide_eq_true rfl, rfl⟩) ?_; conv => whnf)
      | (refine SAll.mk (fun _ => ?_); conv => whnf)
      | (refine SAnd.mk (by first | exact hmp) ?_; conv => whnf)
      | (refine SAnd.mk ⟨by intro c hc; simp at hc; first | (subst hc; rfl) | ((repeat' (rcases hc with rfl | hc)) <;> first | rfl | (subst hc; rfl)), by (simp; first | done | omega), by (simp; first | done | omega)⟩ ?_; conv => whnf)
      | (refine SAnd.mk (by first | exact rfl | kernel_rfl | omega | decide | exact hmp | exact join_pure (xs.map lineB) ⟨#[]⟩ hlm hpl) ?_; conv => whnf)
      | fail)
    exact ⟨PLe.of_eq (by rw [if_pos h, h]; rfl)⟩
  · exact ⟨PLe.of_eq (by rw [if_neg h])⟩
end Go.Proofs.Ab.Tone2
end
section
/- One sorted list. -/
set_option maxRecDepth 100000
set_option linter.unusedVariables false
set_option linter.unusedSimpArgs false
namespace Go.Proofs.Ab.Tone2
open Go Go.RowKit Go.Proofs.Ab Go.Proofs.Ab.Tone
def cmp3 (a b : Int) : Int := if a < b then -1 else if b < a then 1 else 0
def sgn (s : Sg) : Int := cmp3 (dif s) 0
abbrev signs (xs : List Sg) : List Int := xs.map sgn
def zeroP (xs : List Sg) (k : Nat) : Bool := match xs[k]? with
  | some s => decide (sgn s = 0)
  | none => false
def crossB (xs : List Sg) (k : Nat) : Bool := decide (0 < k) && match xs[k]?, xs[k - 1]? with
  | some s, some t => decide (sgn s * sgn t < 0)
  | _, _ => false
def crossP (xs : List Sg) : Nat → List Sp
  | 0 => []
  | k + 1 => if crossB xs k then crossP xs k ++ [((k : Int) - 1, (k : Int) + 1)] else crossP xs k
theorem uniqP : ∀ {l1 l2 : List Sp}, l1.Perm l2 → (l1.Pairwise fun x y => x.1 ≤ y.1) → (l2.Pairwise fun x y => x.1 ≤ y.1) → (l1.map (·.1)).Nodup → l1 = l2
  | [], l2, hp, _, _, _ => hp.nil_eq
  | x :: l1, [], hp, _, _, _ => by have := hp.length_eq; simp at this
  | x :: l1, y :: l2, hp, h1, h2, hn => by
    rw [List.pairwise_cons] at h1 h2
    rw [List.map_cons, List.nodup_cons] at hn
    by_cases e : x = y
    · subst e
      rw [uniqP (List.perm_cons x |>.1 hp) h1.2 h2.2 hn.2]
    · exfalso
      have hx : x ∈ l2 := by
        have := hp.mem_iff.1 (List.mem_cons_self (a := x) (l := l1))
        rcases List.mem_cons.1 this with h | h
        · exact absurd h e
        · exact h
      have hy : y ∈ l1 := by
        have := hp.mem_iff.2 (List.mem_cons_self (a := y) (l := l2))
        rcases List.mem_cons.1 this with h | h
        · exact absurd h.symm e
        · exact h
      have a := h1.1 y hy
      have b := h2.1 x hx
      exact hn.1 (List.mem_map.2 ⟨y, hy, by omega⟩)
theorem joinP_fst (ys : List Sp) (i : Int) : (joinP ys i).map (·.1) = ys.map (·.1) ∨ (joinP ys i).map (·.1) = ys.map (·.1) ++ [i] := by
  unfold joinP
  split
  · rename_i q hq
    split
    · left
      have : ys = ys.dropLast ++ [q] := by
        rw [List.getLast?_eq_some_iff] at hq
        obtain ⟨zs, rfl⟩ := hq
        simp
      rw [this]
      simp
    · right; simp
  · right; simp
theorem spans_fst (p : Nat → Bool) : ∀ k, ((spans p k).map (·.1)).Nodup ∧ ∀ x : Int, x ∈ (spans p k).map (·.1) → ∃ i : Nat, i < k ∧ x = (i : Int) ∧ p i = true
  | 0 => by simp [spans]
  | k + 1 => by
    obtain ⟨h1, h2⟩ := spans_fst p k
    unfold spans
    split
    · rename_i hp
      rcases joinP_fst (spans p k) k with e | e
      · rw [e]
        exact ⟨h1, fun x hx => let ⟨i, a, b, c⟩ := h2 x hx; ⟨i, by omega, b, c⟩⟩
      · rw [e]
        refine ⟨List.nodup_append.2 ⟨h1, by simp, fun x hx y hy => ?_⟩, fun x hx => ?_⟩
        · obtain ⟨i, a, b, c⟩ := h2 x hx
          simp at hy
          omega
        · rcases List.mem_append.1 hx with hx | hx
          · obtain ⟨i, a, b, c⟩ := h2 x hx
            exact ⟨i, by omega, b, c⟩
          · simp at hx
            exact ⟨k, by omega, hx, hp⟩
    · exact ⟨h1, fun x hx => let ⟨i, a, b, c⟩ := h2 x hx; ⟨i, by omega, b, c⟩⟩
theorem crossP_fst (xs : List Sg) : ∀ k, ((crossP xs k).map (·.1)).Nodup ∧ ∀ x : Int, x ∈ (crossP xs k).map (·.1) → ∃ i : Nat, i + 1 < k ∧ x = (i : Int) ∧ crossB xs (i + 1) = true
  | 0 => by simp [crossP]
  | k + 1 => by
    obtain ⟨h1, h2⟩ := crossP_fst xs k
    unfold crossP
    split
    · rename_i hp
      have hk : 0 < k := by
        cases k with
        | zero => simp [crossB] at hp
        | succ k => omega
      rw [List.map_append]
      refine ⟨List.nodup_append.2 ⟨h1, by simp, fun x hx y hy => ?_⟩, fun x hx => ?_⟩
      · obtain ⟨i, a, b, c⟩ := h2 x hx
        simp at hy
        omega
      · rcases List.mem_append.1 hx with hx | hx
        · obtain ⟨i, a, b, c⟩ := h2 x hx
          exact ⟨i, by omega, b, c⟩
        · simp at hx
          exact ⟨k - 1, by omega, by omega, by rw [show k - 1 + 1 = k by omega]; exact hp⟩
    · exact ⟨h1, fun x hx => let ⟨i, a, b, c⟩ := h2 x hx; ⟨i, by omega, b, c⟩⟩
theorem cross_zero {xs : List Sg} {i : Nat} (h : crossB xs (i + 1) = true) : zeroP xs i = false := by
  unfold crossB at h
  simp only [Nat.add_sub_cancel] at h
  unfold zeroP
  cases hi : xs[i]? with
  | none => rfl
  | some t =>
    rw [hi] at h
    cases hj : xs[i + 1]? with
    | none => rw [hj] at h; simp at h
    | some s =>
      rw [hj] at h
      simp at h
      simp only [decide_eq_false_iff_not]
      intro e
      rw [e] at h
      simp at h
theorem all_fst (xs : List Sg) (k : Nat) : ((crossP xs k ++ spans (zeroP xs) k).map (·.1)).Nodup := by
  rw [List.map_append]
  obtain ⟨h1, h2⟩ := crossP_fst xs k
  obtain ⟨h3, h4⟩ := spans_fst (zeroP xs) k
  refine List.nodup_append.2 ⟨h1, h3, fun x hx y hy e => ?_⟩
  obtain ⟨i, _, b, c⟩ := h2 x hx
  obtain ⟨j, _, b', c'⟩ := h4 y hy
  have : i = j := by omega
  subst this
  rw [cross_zero c] at c'
  cases c'
/-- The crossings. -/
def crossL (xs : List Sg) : List Sp := (crossP xs xs.length ++ spans (zeroP xs) xs.length).mergeSort fun x y => decide (x.1 ≤ y.1)
theorem crossL_of {xs : List Sg} {ys : List Sp} (hp : ys.Perm (crossP xs xs.length ++ spans (zeroP xs) xs.length)) (hs : ys.Pairwise fun x y => x.1 ≤ y.1) : ys = crossL xs := by
  have h1 := List.mergeSort_perm (crossP xs xs.length ++ spans (zeroP xs) xs.length) fun x y => decide (x.1 ≤ y.1)
  have h2 := List.pairwise_mergeSort (le := fun x y : Sp => decide (x.1 ≤ y.1)) (fun a b c h1 h2 => by simp at *; omega) (fun a b => by simp; omega) (crossP xs xs.length ++ spans (zeroP xs) xs.length)
  refine uniqP (hp.trans h1.symm) hs (h2.imp fun h => by simpa using h) ?_
  exact (hp.map (·.1)).nodup_iff.2 (all_fst xs xs.length)
end Go.Proofs.Ab.Tone2
end
section
/- Comparisons; Crossings. -/
set_option maxRecDepth 100000
set_option linter.unusedVariables false
set_option linter.unusedSimpArgs false
namespace Go.Proofs.Ab.Tone
open Go Go.RowKit Go.Proofs.Ab
open Go.Proofs.Ab.Tone2 (cmp3)
theorem isNaN_pure (a : Int) : APure C 170 [I a] (Bo false) := by
  refine APure.of_body good [] (fn := Tryz.f170) (by kernel_rfl) (by kernel_rfl) rfl rfl (by kernel_rfl) rfl (by kernel_rfl) ?_
  conv => whnf
  refine SBool.mk (fun _ => ?_) (fun h => absurd rfl h)
  conv => whnf
  exact ⟨PLe.refl _⟩
theorem cmp_pure (a b : Int) : APure C 133 [I a, I b] (I (cmp3 a b)) := by
  refine APure.of_body good [] (fn := Tryz.f133) (by kernel_rfl) (by kernel_rfl) rfl rfl (by kernel_rfl) rfl (by kernel_rfl) ?_
  conv => whnf
  repeat' (first
    | (refine codeK_sound good (mu := []) ?_; conv => whnf)
    | ((first | rw [wl0] | rw [wl1] | rw [wl2] | rw [wl3] | rw [wl4] | rw [wl5]); conv => whnf)
    | (refine SBool.mk (fun _ => ?_) (fun h => absurd (of_decide_eq_true rfl) h); conv => whnf)
    | (refine SBool.mk (fun h => absurd h (of_decide_eq_false rfl)) (fun _ => ?_); conv => whnf)
    | (refine SBool.mk (fun h => ?_) (fun h => ?_) <;> conv => whnf)
    | (refine SEx.mk _ (by first | exact isNaN_pure _) ?_; conv => whnf)
    | (refine SEx.mk _ (by first | exact rfl | exact ⟨of_decide_eq_true rfl, rfl⟩) ?_; conv => whnf)
    | (refine SAll.mk (fun _ => ?_); conv => whnf)
    | (refine SAnd.mk ⟨by intro c hc; simp at hc; first | (subst hc; rfl) | ((repeat' (rcases hc with rfl | hc)) <;> first | rfl | (subst hc; rfl)), by (simp; first | done | omega), by (simp; first | done | omega)⟩ ?_; conv => whnf)
    | (refine SAnd.mk (by first | exact rfl | kernel_rfl | omega | decide | exact isNaN_pure _) ?_; conv => whnf)
    | fail)
  all_goals exact ⟨PLe.of_eq (by simp [cmp3, *])⟩
theorem compare_pure (s : Sg) (hf : s.Fit 1000000) : APure C 128 [.agg (sc s)] (I (cmp3 (dif s) 0)) := by
  refine APure.of_body good [] (fn := Tryz.f128) (by kernel_rfl) (by kernel_rfl) rfl rfl (by kernel_rfl) rfl (by kernel_rfl) ?_
  conv => whnf
  repeat' (first
    | (refine codeK_sound good (mu := []) ?_; conv => whnf)
    | ((first | rw [wl0] | rw [wl1] | rw [wl2] | rw [wl3] | rw [wl4] | rw [wl5]); conv => whnf)
    | (refine SBool.mk (fun _ => ?_) (fun h => absurd (of_decide_eq_true rfl) h); conv => whnf)
    | (refine SBool.mk (fun h => absurd h (of_decide_eq_false rfl)) (fun _ => ?_); conv => whnf)
    | (refine SBool.mk (fun h => ?_) (fun h => ?_) <;> conv => whnf)
    | (refine SEx.mk _ (by first | exact difference_pure s hf | exact cmp_pure _ _) ?_; conv => whnf)
    | (refine SEx.mk _ (by first | exact rfl | exact ⟨of_decide_eq_true rfl, rfl⟩) ?_; conv => whnf)
    | (refine SAll.mk (fun _ => ?_); conv => whnf)
    | (refine SAnd.mk ⟨by intro c hc; simp at hc; first | (subst hc; rfl) | ((repeat' (rcases hc with rfl | hc)) <;> first | rfl | (subst hc; rfl)), by (simp; first | done | omega), by (simp; first | done | omega)⟩ ?_; conv => whnf)
    | (refine SAnd.mk (by first | exact rfl | kernel_rfl | omega | decide | exact difference_pure s hf | exact cmp_pure _ _) ?_; conv => whnf)
    | fail)
  exact ⟨PLe.refl _⟩
end Go.Proofs.Ab.Tone
namespace Go.Proofs.Ab.Tone2
open Go Go.RowKit Go.Proofs.Ab Go.Proofs.Ab.Tone
theorem all_pure {m : Int} (xs : List Sg) : APure (C m) 129 [.seq 6 (xs.map sc)] (.fn 167 [.ref [.seq 6 (xs.map sc)]]) := by
  refine APure.of_body good [] (fn := Tryz.f129) (by kernel_rfl) (by kernel_rfl) rfl rfl (by kernel_rfl) rfl (by kernel_rfl) ?_
  conv => whnf
  repeat' (first
    | (refine codeK_sound good (mu := []) ?_; conv => whnf)
    | ((first | rw [wl0] | rw [wl1] | rw [wl2] | rw [wl3] | rw [wl4] | rw [wl5]); conv => whnf)
    | (refine SBool.mk (fun _ => ?_) (fun h => absurd (of_decide_eq_true rfl) h); conv => whnf)
    | (refine SBool.mk (fun h => absurd h (of_decide_eq_false rfl)) (fun _ => ?_); conv => whnf)
    | (refine SBool.mk (fun h => ?_) (fun h => ?_) <;> conv => whnf)
    | (refine SEx.mk _ (by first | exact rfl | exact ⟨of_decide_eq_true rfl, rfl⟩) ?_; conv => whnf)
    | (refine SAll.mk (fun _ => ?_); conv => whnf)
    | (refine SAnd.mk ⟨by intro c hc; simp at hc; first | (subst hc; rfl) | ((repeat' (rcases hc with rfl | hc)) <;> first | rfl | (subst hc; rfl)), by (simp; first | done | omega), by (simp; first | done | omega)⟩ ?_; conv => whnf)
    | (refine SAnd.mk (by first | exact rfl | kernel_rfl | omega | decide) ?_; conv => whnf)
    | fail)
  exact ⟨PLe.refl _⟩
/-- The same, within a round. -/
noncomputable abbrev CR (m : Int) : Cx := { P := (C m).P, tab := (C m).tab, glob := (C m).glob, inR := true, tabs := (C m).tabs }
theorem goodR {m : Int} : (CR m).Good := ⟨(good (m := m)).tab, (good (m := m)).mixed⟩
theorem cellsP_one : ∀ (zs : List Sp) (c : PV), c ∈ (cellsP zs).flatten → c.one = true
  | [], c, h => by simp at h
  | z :: zs, c, h => by
    have h' : c ∈ I z.1 :: I z.2 :: (cellsP zs).flatten := h
    rcases List.mem_cons.1 h' with rfl | h'
    · rfl
    · rcases List.mem_cons.1 h' with rfl | h'
      · rfl
      · exact cellsP_one zs c h'
theorem crossP_len (xs : List Sg) : ∀ k, (crossP xs k).length ≤ k
  | 0 => by simp [crossP]
  | k + 1 => by
    have := crossP_len xs k
    unfold crossP
    split
    · simp; omega
    · omega
theorem flat1 : ∀ l : List Int, (cells1 l).flatten = l.map I
  | [] => rfl
  | x :: l => by
    have := flat1 l
    simp only [cells1, List.map_cons, List.flatten_cons] at this ⊢
    rw [this]
    rfl
theorem sgn_cases (s : Sg) : sgn s = -1 ∨ sgn s = 0 ∨ sgn s = 1 := by
  unfold sgn cmp3
  split
  · exact .inl rfl
  · split
    · exact .inr (.inr rfl)
    · exact .inr (.inl rfl)
set_option maxHeartbeats 40000000 in
theorem Crossings_pure {m : Int} (xs : List Sg) (hl : xs.length ≤ 1000000) :
    APure (C m) 58 [.seq 6 (xs.map sc)] (.tup [if checkL xs = 0 then seqP (crossL xs) else nilS, I (checkL xs)]) := by
  refine APure.of_body good [1005, 1006, 1007, 33, 73] (fn := Tryz.f58) (by kernel_rfl) (by kernel_rfl) rfl rfl (by kernel_rfl) rfl (by kernel_rfl) ?_
  conv => whnf
  repeat' (first
    | (refine codeK_sound good (mu := [1005, 1006, 1007, 33, 73]) ?_; conv => whnf)
    | ((first | rw [wl0] | rw [wl1] | rw [wl2] | rw [wl3] | rw [wl4] | rw [wl5]); conv => whnf)
    | (refine SBool.mk (fun _ => ?_) (fun h => absurd (of_decide_eq_true rfl) h); conv => whnf)
    | (refine SBool.mk (fun h => absurd h (of_decide_eq_false rfl)) (fun _ => ?_); conv => whnf)
    | (refine SBool.mk (fun h => ?_) (fun h => ?_) <;> conv => whnf)
    | (refine SEx.mk _ (by first | exact up (checkSignals_pure xs hl)) ?_; conv => whnf)
    | (refine SEx.mk _ (by first | exact rfl | exact ⟨of_decide_eq_true rfl, rfl⟩) ?_; conv => whnf)
    | (refine SAll.mk (fun _ => ?_); conv => whnf)
    | (refine SAnd.mk ⟨by intro c hc; simp at hc; first | (subst hc; rfl) | ((repeat' (rcases hc with rfl | hc)) <;> first | rfl | (subst hc; rfl)), by (simp; first | done | omega), by (simp; first | done | omega)⟩ ?_; conv => whnf)
    | (refine SAnd.mk (by first | exact rfl | kernel_rfl | omega | decide | exact up (checkSignals_pure xs hl)) ?_; conv => whnf)
    | fail)
  · have hx : ∀ s ∈ xs, Ok s := (checkL_zero.1 h).2
    have hll := (checkL_zero.1 h).1.2
    have hmk : (((xs.map sc).length : Int) = ((xs.map sc).length : Int) ∧ 0 ≤ ((xs.map sc).length : Int) ∧ ((8 : Nat) : Int) * ((xs.map sc).length : Int) ≤ 281474976710656 ∧ ((xs.map sc).length : Int) ≤ 9223372036854775807) := by
      rw [List.length_map]
      exact ⟨rfl, by omega, by omega, by omega⟩
    have hcp : ∀ c ∈ (xs.map fun x => [I (sgn x)]).flatten, c.one = true := by
      intro c hc
      simp only [List.mem_flatten, List.mem_map] at hc
      obtain ⟨l, ⟨s, _, rfl⟩, hc⟩ := hc
      simp at hc
      subst hc
      rfl
    conv => whnf
    repeat' (first
      | (refine codeK_sound good (mu := [1005, 1006, 1007, 33, 73]) ?_; conv => whnf)
      | ((first | rw [wl0] | rw [wl1] | rw [wl2] | rw [wl3] | rw [wl4] | rw [wl5]); conv => whnf)
      | (refine SBool.mk (fun _ => ?_) (fun h => absurd (of_decide_eq_true rfl) h); conv => whnf)
      | (refine SBool.mk (fun h => absurd h (of_decide_eq_false rfl)) (fun _ => ?_); conv => whnf)
      | (refine SBool.mk (fun h => ?_) (fun h => ?_) <;> conv => whnf)
      | (refine SEx.mk _ (by first | exact hmk | exact hcp | exact up (mapped117_pure sgn 128 [] xs hl (fun s hs => compare_pure s ((hx s hs).fit.mono (by decide)))) | exact all_pure xs) ?_; conv => whnf)
      | (refine SEx.mk _ (by first | exact rfl | exact ⟨of_decide_eq_true rfl, rfl⟩) ?_; conv => whnf)
      | (refine SAll.mk (fun _ => ?_); conv => whnf)
      | (refine SAnd.mk (by first | exact hmk | exact hcp) ?_; conv => whnf)
      | (refine SAnd.mk ⟨by intro c hc; simp at hc; first | (subst hc; rfl) | ((repeat' (rcases hc with rfl | hc)) <;> first | rfl | (subst hc; rfl)), by (simp; first | done | omega), by (simp; first | done | omega)⟩ ?_; conv => whnf)
      | (refine SAnd.mk (by first | exact rfl | kernel_rfl | omega | decide | exact hmk | exact hcp | exact up (mapped117_pure sgn 128 [] xs hl (fun s hs => compare_pure s ((hx s hs).fit.mono (by decide)))) | exact all_pure xs) ?_; conv => whnf)
      | fail)
    rename_i g5 g6 g7
    refine ⟨AWp.le (t := ⟨[(22, .p (.fn 167 [.ref [.seq 6 (xs.map sc)]])), (7, .box 6 0), (6, .box 5 0), (5, .box 1 0)], [], [(0, (3, 1, cells1 (signs xs))), (7, (143, 2, [])), (8, (143, 2, []))], 9, [], [(1, .hold g5 47 (.own 0)), (5, .hold g6 94 (.own 8)), (6, .hold g7 94 (.own 7))], []⟩) ?_ ?_⟩
    · refine SLe.rowH 6 143 2 ?_
      conv => whnf
      refine SLe.rowH 5 143 2 ?_
      conv => whnf
      skip
      · refine SLe.ofO [(6, 6), (5, 5), (1, 1)] [(0, 0), (7, 7), (8, 8)] [(1, 1), (5, 5), (6, 6)] rfl rfl rfl ?_
        conv => whnf
        repeat' (first
        | exact True.intro
        | (refine SAnd.mk (show _ = (_ : List (List PV)) from by simp [cells1, signs, List.take_of_length_le]) ?_; conv => whnf)
        | (refine SAnd.mk (PLe.of_eq (by simp only [wrapK]; rw [wrap_id (by first | omega | (simp only; done) | (simp only; omega) | simp) (by first | omega | (simp only; done) | (simp only; omega) | simp)]; simp)) ?_; conv => whnf)
        | (refine SAnd.mk (PLe.refl _) ?_; conv => whnf)
        | (refine SAnd.mk (PLeL.refl _) ?_; conv => whnf)
        | (refine SAnd.mk (PLe.of_eq (by simp)) ?_; conv => whnf)
        | (refine SAnd.mk rfl ?_; conv => whnf)
        | (refine SAnd.mk ⟨rfl, rfl⟩ ?_; conv => whnf)
        | (refine SAnd.mk ⟨rfl, rfl, rfl⟩ ?_; conv => whnf))
    · refine AWp.post (AWp.rangeF rfl ?_)
      conv => whnf
      intro gd gl L hLp hLa hLb
      refine ACall.inline good [] (fn := Tryz.f167) (by kernel_rfl) (by kernel_rfl) rfl rfl (by kernel_rfl) rfl (by kernel_rfl) ?_
      conv => whnf
      refine ⟨AWp.loop (ι := { k : Nat // k ≤ xs.length }) (fun k => ⟨[(7, .p (I k.1)), (6, .p (I xs.length)), (5, .p (.seq 6 (xs.map sc))), (0, .p (.v (.func (.yield gl) #[] #[])))], [], [(0, (3, 1, cells1 (signs xs))), (7, (143, 2, cellsP (crossP xs k.1))), (8, (143, 2, cellsP (spans (zeroP xs) k.1)))], 11, [(22, .p (.fn 167 [.ref [.seq 6 (xs.map sc)]])), (7, .box 6 0), (6, .box 5 0), (5, .box 1 0)],
        [(10, .loop gl .ready Tryz.f58.ntmps [(22, .p (.fn 167 [.ref [.seq 6 (xs.map sc)]])), (7, .box 6 0), (6, .box 5 0), (5, .box 1 0)] L), (9, .dfr gd), (1, .hold g5 47 (.own 0)), (5, .hold g6 94 (.own 8)), (6, .hold g7 94 (.own 7))], []⟩) (fun k => xs.length - k.1) ⟨0, by simp⟩ ?_ ?_⟩
      · skip
        · refine SLe.ofO [(6, 6), (5, 5), (1, 1)] [(0, 0), (7, 7), (8, 8)] [(10, 10), (9, 9), (1, 1), (5, 5), (6, 6)] rfl rfl rfl ?_
          conv => whnf
          repeat' (first
          | exact True.intro
          | (refine SAnd.mk (PLe.of_eq (by simp only [wrapK]; rw [wrap_id (by first | omega | (simp only; done) | (simp only; omega) | simp) (by first | omega | (simp only; done) | (simp only; omega) | simp)]; simp)) ?_; conv => whnf)
          | (refine SAnd.mk (PLe.refl _) ?_; conv => whnf)
          | (refine SAnd.mk (PLeL.refl _) ?_; conv => whnf)
          | (refine SAnd.mk (PLe.of_eq (by simp)) ?_; conv => whnf)
          | (refine SAnd.mk rfl ?_; conv => whnf)
          | (refine SAnd.mk ⟨rfl, rfl⟩ ?_; conv => whnf)
          | (refine SAnd.mk ⟨rfl, rfl, rfl⟩ ?_; conv => whnf))
      · rintro ⟨k, hk⟩
        refine codeK_sound good (mu := []) ?_
        conv => whnf
        refine SBool.mk (fun hc => ?_) (fun hc => ?_)
        · conv => whnf
          have hkl : k < xs.length := by simpa using hc
          refine SEx.mk (sc xs[k]) (by simp [hkl]) ?_
          conv => whnf
          repeat' (first
            | (refine codeK_sound good (mu := []) ?_; conv => whnf)
            | ((first | rw [wl0] | rw [wl1] | rw [wl2] | rw [wl3] | rw [wl4] | rw [wl5]); conv => whnf)
            | (refine SBool.mk (fun _ => ?_) (fun h => absurd (of_decide_eq_true rfl) h); conv => whnf)
            | (refine SBool.mk (fun h => absurd h (of_decide_eq_false rfl)) (fun _ => ?_); conv => whnf)
            | (refine SBool.mk (fun h => ?_) (fun h => ?_) <;> conv => whnf)
            | (refine SEx.mk _ (by first | exact rfl | exact ⟨of_decide_eq_true rfl, rfl⟩) ?_; conv => whnf)
            | (refine SAll.mk (fun _ => ?_); conv => whnf)
            | (refine SAnd.mk ⟨by intro c hc; simp at hc; first | (subst hc; rfl) | ((repeat' (rcases hc with rfl | hc)) <;> first | rfl | (subst hc; rfl)), by (simp; first | done | omega), by (simp; first | done | omega)⟩ ?_; conv => whnf)
            | (refine SAnd.mk (by first | exact rfl | kernel_rfl | omega | decide) ?_; conv => whnf)
            | fail)
          refine SRound.of good [33] (n := 10) (ps := [23]) rfl hLp hLa hLb ?_
          conv => whnf
          refine SAnd.mk rfl ?_
          conv => whnf
          clear hLp hLa hLb
          have hbd : ∀ i, i < xs.length → 0 ≤ (i : Int) ∧ (i : Int) < (((3, 1, cells1 (signs xs)) : Nat × Nat × List (List PV)).snd.snd.length : Int) := fun i hi => ⟨by omega, by
            show (i : Int) < (((cells1 (signs xs)).length : Nat) : Int)
            rw [show (cells1 (signs xs)).length = xs.length by simp [cells1, signs]]
            omega⟩
          have hdk : ∀ i (hi : i < xs.length) (K : List PV → Prop), K (I (sgn xs[i]) :: ((signs xs).map I).drop (i + 1)) → dropK ((3, 1, cells1 (signs xs)) : Nat × Nat × List (List PV)).snd.snd.flatten ((i : Int).toNat * 1) K := fun i hi K hK => by
            have e : (cells1 (signs xs)).flatten = (signs xs).map I := flat1 _
            refine dropK_of (r := I (sgn xs[i]) :: ((signs xs).map I).drop (i + 1)) ?_ ?_ hK
            · show i * 1 ≤ (cells1 (signs xs)).flatten.length
              rw [e]; simp [signs]; omega
            · show (cells1 (signs xs)).flatten.drop (i * 1) = _
              rw [e, Nat.mul_one, List.drop_eq_getElem_cons (by simpa [signs] using hi)]
              simp [signs]
          have hok := hx _ (List.getElem_mem hkl)
          have hcl := crossP_len xs k
          have hzl := spans_len (zeroP xs) k
          refine AWp.block (AWp.mid ⟨[(8, .box 12 0), (22, .p (.fn 167 [.ref [.seq 6 (xs.map sc)]])), (7, .box 6 0), (6, .box 5 0), (5, .box 1 0)], [(12, (185, [I xs[k].c.re, I xs[k].c.im, I xs[k].l.re, I xs[k].l.im, I xs[k].h.re, I xs[k].h.im, I k]))], [(0, (3, 1, cells1 (signs xs))), (7, (143, 2, cellsP (crossP xs k))), (8, (143, 2, cellsP (spans (zeroP xs) (k + 1))))], 13, [(7, .p (I k)), (6, .p (I xs.length)), (5, .p (.seq 6 (xs.map sc))), (0, .p (.v (.func (.yield gl) #[] #[]))), (Tryz.f167.ntmps + 22, .p (.fn 167 [.ref [.seq 6 (xs.map sc)]])), (Tryz.f167.ntmps + 7, .box 6 0), (Tryz.f167.ntmps + 6, .box 5 0), (Tryz.f167.ntmps + 5, .box 1 0)], [(10, .loop gl .busy Tryz.f58.ntmps [(22, .p (.fn 167 [.ref [.seq 6 (xs.map sc)]])), (7, .box 6 0), (6, .box 5 0), (5, .box 1 0)] L), (9, .dfr gd), (1, .hold g5 47 (.own 0)), (5, .hold g6 94 (.own 8)), (6, .hold g7 94 (.own 7))], []⟩ ?_ ?_)
          · refine codeK_sound goodR (mu := [33]) ?_
            rcases k with _ | j
            · skip
              conv => whnf
              repeat' (first
                | (refine codeK_sound good (mu := []) ?_; conv => whnf)
                | ((first | rw [wl0] | rw [wl1] | rw [wl2] | rw [wl3] | rw [wl4] | rw [wl5]); conv => whnf)
                | (refine SBool.mk (fun _ => ?_) (fun h => absurd (of_decide_eq_true rfl) h); conv => whnf)
                | (refine SBool.mk (fun h => absurd h (of_decide_eq_false rfl)) (fun _ => ?_); conv => whnf)
                | (refine SBool.mk (fun h => ?_) (fun h => ?_) <;> conv => whnf)
                | (refine SEx.mk _ (by first | exact rfl | exact ⟨of_decide_eq_true rfl, rfl⟩) ?_; conv => whnf)
                | (refine SAll.mk (fun _ => ?_); conv => whnf)
                | (refine SAnd.mk ⟨by intro c hc; simp at hc; first | (subst hc; rfl) | ((repeat' (rcases hc with rfl | hc)) <;> first | rfl | (subst hc; rfl)), by (simp; first | done | omega), by (simp; first | done | omega)⟩ ?_; conv => whnf)
                | (refine SAnd.mk (by first | exact rfl | kernel_rfl | omega | decide) ?_; conv => whnf)
                | fail)
              refine ⟨⟨1, by omega⟩, by simp only; omega, ?_⟩
              skip
              · refine SLe.ofO [(6, 6), (5, 5), (1, 1)] [(0, 0), (7, 7), (8, 8)] [(10, 10), (9, 9), (1, 1), (5, 5), (6, 6)] rfl rfl rfl ?_
                conv => whnf
                repeat' (first
                | exact True.intro
                | (refine SAnd.mk (PLe.of_eq (by simp only [wrapK]; rw [wrap_id (by first | omega | (simp only; done) | (simp only; omega) | simp) (by first | omega | (simp only; done) | (simp only; omega) | simp)]; simp)) ?_; conv => whnf)
                | (refine SAnd.mk (PLe.refl _) ?_; conv => whnf)
                | (refine SAnd.mk (PLeL.refl _) ?_; conv => whnf)
                | (refine SAnd.mk (PLe.of_eq (by simp)) ?_; conv => whnf)
                | (refine SAnd.mk rfl ?_; conv => whnf)
                | (refine SAnd.mk ⟨rfl, rfl⟩ ?_; conv => whnf)
                | (refine SAnd.mk ⟨rfl, rfl, rfl⟩ ?_; conv => whnf))
            · have hjl : j < xs.length := by omega
              have hz : EqAgg (CR m) 23 [I xs[j + 1].c.re, I xs[j + 1].c.im] [I 0, I 0] false := by
                have h1 := eq_gauss xs[j + 1].c.re xs[j + 1].c.im 0 0
                rw [show decide (xs[j + 1].c.re = 0 ∧ xs[j + 1].c.im = 0) = false from decide_eq_false (fun ⟨e1, e2⟩ => by
                  have := hok.sq_pos
                  simp [sq, e1, e2] at this)] at h1
                exact h1
              have hw1 : wrapK IntKind.i64 (((j + 1 : Nat) : Int) - 1) = (j : Int) := by
                rw [show (((j + 1 : Nat) : Int) - 1) = (j : Int) by omega]
                exact w64 (by omega)
              have hw2 : wrapK IntKind.i64 (((j + 1 : Nat) : Int) + 1) = ((j + 1 : Nat) : Int) + 1 := w64 (by omega)
              have hw3 : wrapK IntKind.i64 (sgn xs[j + 1] * sgn xs[j]) = sgn xs[j + 1] * sgn xs[j] := w64 (by
                rcases sgn_cases xs[j + 1] with h | h | h <;> rcases sgn_cases xs[j] with h' | h' | h' <;> rw [h, h'] <;> decide)
              have hcB : crossB xs (j + 1) = decide (sgn xs[j + 1] * sgn xs[j] < 0) := by
                simp [crossB, hkl, hjl]
              conv => whnf
              repeat' (first
                | (refine codeK_sound good (mu := [33]) ?_; conv => whnf)
                | ((first | rw [wl0] | rw [wl1] | rw [wl2] | rw [wl3] | rw [wl4] | rw [wl5]); conv => whnf)
                | (refine SBool.mk (fun _ => ?_) (fun h => absurd (of_decide_eq_true rfl) h); conv => whnf)
                | (refine SBool.mk (fun h => absurd h (of_decide_eq_false rfl)) (fun _ => ?_); conv => whnf)
                | (refine SBool.mk (fun h => ?_) (fun h => ?_) <;> conv => whnf)
                | (rw [hw1]; conv => whnf)
                | (rw [hw3]; conv => whnf)
                | (refine hdk (j + 1) hkl _ ?_; conv => whnf)
                | (refine hdk j hjl _ ?_; conv => whnf)
                | (refine SEx.mk _ (by first | exact hz | exact hbd (j + 1) hkl | exact hbd j hjl) ?_; conv => whnf)
                | (refine SEx.mk _ (by first | exact rfl | exact ⟨of_decide_eq_true rfl, rfl⟩) ?_; conv => whnf)
                | (refine SAll.mk (fun _ => ?_); conv => whnf)
                | (refine SAnd.mk (by first | exact hz | exact hbd (j + 1) hkl | exact hbd j hjl) ?_; conv => whnf)
                | (refine SAnd.mk ⟨by intro c hc; simp at hc; first | (subst hc; rfl) | ((repeat' (rcases hc with rfl | hc)) <;> first | rfl | (subst hc; rfl)), by (simp; first | done | omega), by (simp; first | done | omega)⟩ ?_; conv => whnf)
                | (refine SAnd.mk (by first | exact rfl | kernel_rfl | omega | decide | exact hz | exact hbd (j + 1) hkl | exact hbd j hjl) ?_; conv => whnf)
                | fail)
              · rw [hw3] at h
                have hP : crossB xs (j + 1) = true := by rw [hcB]; exact decide_eq_true h
                refine ⟨⟨j + 1 + 1, by omega⟩, by simp only; omega, ?_⟩
                skip
                · refine SLe.ofO [(6, 6), (5, 5), (1, 1)] [(0, 0), (7, 35), (8, 8)] [(10, 10), (9, 9), (1, 1), (5, 5), (6, 6)] rfl rfl rfl ?_
                  conv => whnf
                  repeat' (first
                  | exact True.intro
                  | (refine SAnd.mk (show _ = (_ : List (List PV)) from by rw [hw2]; simp [crossP, hP]) ?_; conv => whnf)
                  | (refine SAnd.mk (PLe.of_eq (by simp only [wrapK]; rw [wrap_id (by first | omega | (simp only; done) | (simp only; omega) | simp) (by first | omega | (simp only; done) | (simp only; omega) | simp)]; simp)) ?_; conv => whnf)
                  | (refine SAnd.mk (PLe.refl _) ?_; conv => whnf)
                  | (refine SAnd.mk (PLeL.refl _) ?_; conv => whnf)
                  | (refine SAnd.mk (PLe.of_eq (by simp)) ?_; conv => whnf)
                  | (refine SAnd.mk rfl ?_; conv => whnf)
                  | (refine SAnd.mk ⟨rfl, rfl⟩ ?_; conv => whnf)
                  | (refine SAnd.mk ⟨rfl, rfl, rfl⟩ ?_; conv => whnf))
              · rw [hw3] at h
                have hP : crossB xs (j + 1) = false := by rw [hcB]; exact decide_eq_false h
                refine ⟨⟨j + 1 + 1, by omega⟩, by simp only; omega, ?_⟩
                skip
                · refine SLe.ofO [(6, 6), (5, 5), (1, 1)] [(0, 0), (7, 7), (8, 8)] [(10, 10), (9, 9), (1, 1), (5, 5), (6, 6)] rfl rfl rfl ?_
                  conv => whnf
                  repeat' (first
                  | exact True.intro
                  | (refine SAnd.mk (show _ = (_ : List (List PV)) from by simp [crossP, hP]) ?_; conv => whnf)
                  | (refine SAnd.mk (PLe.of_eq (by simp only [wrapK]; rw [wrap_id (by first | omega | (simp only; done) | (simp only; omega) | simp) (by first | omega | (simp only; done) | (simp only; omega) | simp)]; simp)) ?_; conv => whnf)
                  | (refine SAnd.mk (PLe.refl _) ?_; conv => whnf)
                  | (refine SAnd.mk (PLeL.refl _) ?_; conv => whnf)
                  | (refine SAnd.mk (PLe.of_eq (by simp)) ?_; conv => whnf)
                  | (refine SAnd.mk rfl ?_; conv => whnf)
                  | (refine SAnd.mk ⟨rfl, rfl⟩ ?_; conv => whnf)
                  | (refine SAnd.mk ⟨rfl, rfl, rfl⟩ ?_; conv => whnf))
              · exact absurd (by omega) h
          · refine codeK_sound goodR (mu := [33]) ?_
            have wk : wrapK IntKind.i64 ((k : Int) + 1) = k + 1 := w64 (by omega)
            conv => whnf
            repeat' (first
              | (refine codeK_sound good (mu := [33]) ?_; conv => whnf)
              | ((first | rw [wl0] | rw [wl1] | rw [wl2] | rw [wl3] | rw [wl4] | rw [wl5]); conv => whnf)
              | (refine SBool.mk (fun _ => ?_) (fun h => absurd (of_decide_eq_true rfl) h); conv => whnf)
              | (refine SBool.mk (fun h => absurd h (of_decide_eq_false rfl)) (fun _ => ?_); conv => whnf)
              | (refine SBool.mk (fun h => ?_) (fun h => ?_) <;> conv => whnf)
              | (refine hdk k hkl _ ?_; conv => whnf)
              | (refine SEx.mk _ (by first | exact hbd k hkl) ?_; conv => whnf)
              | (refine SEx.mk _ (by first | exact rfl | exact ⟨of_decide_eq_true rfl, rfl⟩) ?_; conv => whnf)
              | (refine SAll.mk (fun _ => ?_); conv => whnf)
              | (refine SAnd.mk (by first | exact hbd k hkl) ?_; conv => whnf)
              | (refine SAnd.mk ⟨by intro c hc; simp at hc; first | (subst hc; rfl) | ((repeat' (rcases hc with rfl | hc)) <;> first | rfl | (subst hc; rfl)), by (simp; first | done | omega), by (simp; first | done | omega)⟩ ?_; conv => whnf)
              | (refine SAnd.mk (by first | exact rfl | kernel_rfl | omega | decide | exact hbd k hkl) ?_; conv => whnf)
              | fail)
            · have hP : zeroP xs k = true := by simp [zeroP, hkl]; exact h
              obtain ⟨ys, hys⟩ : ∃ ys, ys = spans (zeroP xs) k := ⟨_, rfl⟩
              have hstep : spans (zeroP xs) (k + 1) = joinP ys k := by simp [spans, hP, hys]
              rw [← hys] at hzl
              rw [← hys]
              rcases List.eq_nil_or_concat ys with rfl | ⟨zs, q, rfl⟩
              · have hw0 : wrapK IntKind.i64 ((((143, 2, cellsP []) : Nat × Nat × List (List PV)).snd.snd.length : Int) - 1) = -1 := by kernel_rfl
                refine ACall.inline goodR [] (fn := Tryz.f130) (by kernel_rfl) (by kernel_rfl) rfl rfl (by kernel_rfl) rfl (by kernel_rfl) ?_
                conv => whnf
                rw [hw0]
                conv => whnf
                repeat' (first
                  | (refine codeK_sound good (mu := [33]) ?_; conv => whnf)
                  | ((first | rw [wl0] | rw [wl1] | rw [wl2] | rw [wl3] | rw [wl4] | rw [wl5]); conv => whnf)
                  | (refine SBool.mk (fun _ => ?_) (fun h => absurd (of_decide_eq_true rfl) h); conv => whnf)
                  | (refine SBool.mk (fun h => absurd h (of_decide_eq_false rfl)) (fun _ => ?_); conv => whnf)
                  | (refine SBool.mk (fun h => ?_) (fun h => ?_) <;> conv => whnf)
                  | (refine SEx.mk _ (by first | exact rfl | exact ⟨of_decide_eq_true rfl, rfl⟩) ?_; conv => whnf)
                  | (refine SAll.mk (fun _ => ?_); conv => whnf)
                  | (refine SAnd.mk ⟨by intro c hc; simp at hc; first | (subst hc; rfl) | ((repeat' (rcases hc with rfl | hc)) <;> first | rfl | (subst hc; rfl)), by (simp; first | done | omega), by (simp; first | done | omega)⟩ ?_; conv => whnf)
                  | (refine SAnd.mk (by first | exact rfl | kernel_rfl | omega | decide) ?_; conv => whnf)
                  | fail)
                skip
                · refine SLe.ofO [(12, 12), (6, 6), (5, 5), (1, 1)] [(0, 0), (7, 7), (8, 13)] [(10, 10), (9, 9), (1, 1), (5, 5), (6, 6)] rfl rfl rfl ?_
                  conv => whnf
                  repeat' (first
                  | exact True.intro
                  | (refine SAnd.mk (show _ = (_ : List (List PV)) from by simp only [hstep, wk]; simp [joinP]) ?_; conv => whnf)
                  | (refine SAnd.mk (PLe.of_eq (by simp only [wrapK]; rw [wrap_id (by first | omega | (simp only; done) | (simp only; omega) | simp) (by first | omega | (simp only; done) | (simp only; omega) | simp)]; simp)) ?_; conv => whnf)
                  | (refine SAnd.mk (PLe.refl _) ?_; conv => whnf)
                  | (refine SAnd.mk (PLeL.refl _) ?_; conv => whnf)
                  | (refine SAnd.mk (PLe.of_eq (by simp)) ?_; conv => whnf)
                  | (refine SAnd.mk rfl ?_; conv => whnf)
                  | (refine SAnd.mk ⟨rfl, rfl⟩ ?_; conv => whnf)
                  | (refine SAnd.mk ⟨rfl, rfl, rfl⟩ ?_; conv => whnf))
              · rw [List.concat_eq_append] at *
                have hl1 : (zs ++ [q]).length = zs.length + 1 := by simp
                have hl2 : (cellsP (zs ++ [q])).length = zs.length + 1 := by simp
                have hw1 : wrapK IntKind.i64 ((((143, 2, cellsP (zs ++ [q])) : Nat × Nat × List (List PV)).snd.snd.length : Int) - 1) = zs.length := by
                  show wrapK IntKind.i64 ((((cellsP (zs ++ [q])).length : Nat) : Int) - 1) = zs.length
                  rw [hl2, show (((zs.length + 1 : Nat) : Int) - 1) = zs.length by omega]
                  exact w64 (by omega)
                refine ACall.inline goodR [] (fn := Tryz.f130) (by kernel_rfl) (by kernel_rfl) rfl rfl (by kernel_rfl) rfl (by kernel_rfl) ?_
                conv => whnf
                rw [hw1]
                refine SBool.mk (fun _ => ?_) (fun h => absurd (by omega) h)
                have hin : 0 ≤ (zs.length : Int) ∧ (zs.length : Int) < (((143, 2, cellsP (zs ++ [q])) : Nat × Nat × List (List PV)).snd.snd.length : Int) := ⟨by omega, by
                  show (zs.length : Int) < (((cellsP (zs ++ [q])).length : Nat) : Int)
                  rw [hl2]; omega⟩
                have hdk2 : ∀ K : List PV → Prop, K [I q.2] → dropK ((143, 2, cellsP (zs ++ [q])) : Nat × Nat × List (List PV)).snd.snd.flatten (((zs.length : Int)).toNat * 2 + 1) K := fun K hk => dropK_of (r := [I q.2]) (by show zs.length * 2 + 1 ≤ (cellsP (zs ++ [q])).flatten.length; rw [flatP_len, hl1]; omega) (flatP_drop zs q) hk
                have hsz : zs.length + 1 ≤ 256 := by rw [hl1] at hzl; omega
                conv => whnf
                repeat' (first
                  | (refine codeK_sound good (mu := [33]) ?_; conv => whnf)
                  | ((first | rw [wl0] | rw [wl1] | rw [wl2] | rw [wl3] | rw [wl4] | rw [wl5]); conv => whnf)
                  | (refine SBool.mk (fun _ => ?_) (fun h => absurd (of_decide_eq_true rfl) h); conv => whnf)
                  | (refine SBool.mk (fun h => absurd h (of_decide_eq_false rfl)) (fun _ => ?_); conv => whnf)
                  | (refine SBool.mk (fun h => ?_) (fun h => ?_) <;> conv => whnf)
                  | (refine hdk2 _ ?_; conv => whnf)
                  | (refine SEx.mk _ (by first | exact hin | exact storeP zs q _) ?_; conv => whnf)
                  | (refine SEx.mk _ (by first | exact rfl | exact ⟨of_decide_eq_true rfl, rfl⟩) ?_; conv => whnf)
                  | (refine SAll.mk (fun _ => ?_); conv => whnf)
                  | (refine SAnd.mk (by first | exact hin | exact storeP zs q _) ?_; conv => whnf)
                  | (refine SAnd.mk ⟨by intro c hc; simp at hc; first | (subst hc; rfl) | ((repeat' (rcases hc with rfl | hc)) <;> first | rfl | (subst hc; rfl)), by (simp; first | done | omega), by (simp; first | done | omega)⟩ ?_; conv => whnf)
                  | (refine SAnd.mk (by first | exact rfl | kernel_rfl | omega | decide | exact hin | exact storeP zs q _) ?_; conv => whnf)
                  | fail)
                · have hq : q.2 = (k : Int) := h
                  skip
                  · refine SLe.ofO [(12, 12), (6, 6), (5, 5), (1, 1)] [(0, 0), (7, 7), (8, 8)] [(10, 10), (9, 9), (1, 1), (5, 5), (6, 6)] rfl rfl rfl ?_
                    conv => whnf
                    repeat' (first
                    | exact True.intro
                    | (refine SAnd.mk (show _ = (_ : List (List PV)) from by simp only [hstep, hq, wk]; simp [joinP, hq]) ?_; conv => whnf)
                    | (refine SAnd.mk (PLe.of_eq (by simp only [wrapK]; rw [wrap_id (by first | omega | (simp only; done) | (simp only; omega) | simp) (by first | omega | (simp only; done) | (simp only; omega) | simp)]; simp)) ?_; conv => whnf)
                    | (refine SAnd.mk (PLe.refl _) ?_; conv => whnf)
                    | (refine SAnd.mk (PLeL.refl _) ?_; conv => whnf)
                    | (refine SAnd.mk (PLe.of_eq (by simp)) ?_; conv => whnf)
                    | (refine SAnd.mk rfl ?_; conv => whnf)
                    | (refine SAnd.mk ⟨rfl, rfl⟩ ?_; conv => whnf)
                    | (refine SAnd.mk ⟨rfl, rfl, rfl⟩ ?_; conv => whnf))
                · have hq : ¬ q.2 = (k : Int) := h
                  skip
                  · refine SLe.ofO [(12, 12), (6, 6), (5, 5), (1, 1)] [(0, 0), (7, 7), (8, 13)] [(10, 10), (9, 9), (1, 1), (5, 5), (6, 6)] rfl rfl rfl ?_
                    conv => whnf
                    repeat' (first
                    | exact True.intro
                    | (refine SAnd.mk (show _ = (_ : List (List PV)) from by simp only [hstep, wk]; simp [joinP, hq]) ?_; conv => whnf)
                    | (refine SAnd.mk (PLe.of_eq (by simp only [wrapK]; rw [wrap_id (by first | omega | (simp only; done) | (simp only; omega) | simp) (by first | omega | (simp only; done) | (simp only; omega) | simp)]; simp)) ?_; conv => whnf)
                    | (refine SAnd.mk (PLe.refl _) ?_; conv => whnf)
                    | (refine SAnd.mk (PLeL.refl _) ?_; conv => whnf)
                    | (refine SAnd.mk (PLe.of_eq (by simp)) ?_; conv => whnf)
                    | (refine SAnd.mk rfl ?_; conv => whnf)
                    | (refine SAnd.mk ⟨rfl, rfl⟩ ?_; conv => whnf)
                    | (refine SAnd.mk ⟨rfl, rfl, rfl⟩ ?_; conv => whnf))
            · have hP : zeroP xs k = false := by simp [zeroP, hkl]; exact h
              skip
              · refine SLe.ofO [(12, 12), (6, 6), (5, 5), (1, 1)] [(0, 0), (7, 7), (8, 8)] [(10, 10), (9, 9), (1, 1), (5, 5), (6, 6)] rfl rfl rfl ?_
                conv => whnf
                repeat' (first
                | exact True.intro
                | (refine SAnd.mk (show _ = (_ : List (List PV)) from by simp [spans, hP]) ?_; conv => whnf)
                | (refine SAnd.mk (PLe.of_eq (by simp only [wrapK]; rw [wrap_id (by first | omega | (simp only; done) | (simp only; omega) | simp) (by first | omega | (simp only; done) | (simp only; omega) | simp)]; simp)) ?_; conv => whnf)
                | (refine SAnd.mk (PLe.refl _) ?_; conv => whnf)
                | (refine SAnd.mk (PLeL.refl _) ?_; conv => whnf)
                | (refine SAnd.mk (PLe.of_eq (by simp)) ?_; conv => whnf)
                | (refine SAnd.mk rfl ?_; conv => whnf)
                | (refine SAnd.mk ⟨rfl, rfl⟩ ?_; conv => whnf)
                | (refine SAnd.mk ⟨rfl, rfl, rfl⟩ ?_; conv => whnf))
        · have : k = xs.length := by simp at hc; omega
          subst this
          have hcl := crossP_len xs xs.length
          have hzl := spans_len (zeroP xs) xs.length
          obtain ⟨os, hos⟩ : ∃ os, os = crossP xs xs.length := ⟨_, rfl⟩
          obtain ⟨zs, hzs⟩ : ∃ zs, zs = spans (zeroP xs) xs.length := ⟨_, rfl⟩
          rw [← hos] at hcl
          rw [← hzs] at hzl
          rw [← hos, ← hzs]
          conv => whnf
          refine SAnd.mk rfl ?_
          conv => whnf
          refine ⟨⟨[(7, .box 6 0), (6, .box 5 0)], [], [(7, (143, 2, cellsP os))], 9, [], [(5, .hold g6 94 (.p (seqP zs))), (6, .hold g7 94 (.own 7)), (9, .dfr gd)], [gd]⟩, SLe.shutB 8 ?_, ?_⟩
          · conv => whnf
            skip
            · refine SLe.ofO [(6, 6), (5, 5)] [(7, 7)] [(5, 5), (6, 6), (9, 9)] rfl rfl rfl ?_
              conv => whnf
              repeat' (first
              | exact True.intro
              | (refine SAnd.mk (PLe.of_eq (by simp only [wrapK]; rw [wrap_id (by first | omega | (simp only; done) | (simp only; omega) | simp) (by first | omega | (simp only; done) | (simp only; omega) | simp)]; simp)) ?_; conv => whnf)
              | (refine SAnd.mk (PLe.refl _) ?_; conv => whnf)
              | (refine SAnd.mk (PLeL.refl _) ?_; conv => whnf)
              | (refine SAnd.mk (PLe.of_eq (by simp)) ?_; conv => whnf)
              | (refine SAnd.mk rfl ?_; conv => whnf)
              | (refine SAnd.mk ⟨rfl, rfl⟩ ?_; conv => whnf)
              | (refine SAnd.mk ⟨rfl, rfl, rfl⟩ ?_; conv => whnf))
          · have happ : (∀ c ∈ (cellsP zs).flatten, c.one = true) ∧ ((cellsP os).length + (cellsP zs).length) * 16 ≤ 140737488355328 ∧ (cellsP os).length + (cellsP zs).length ≤ 9223372036854775807 := by
              refine ⟨fun c hc => ?_, ?_, ?_⟩
              · exact cellsP_one zs c hc
              · simp; omega
              · simp; omega
            conv => whnf
            repeat' (first
              | (refine codeK_sound good (mu := [73]) ?_; conv => whnf)
              | ((first | rw [wl0] | rw [wl1] | rw [wl2] | rw [wl3] | rw [wl4] | rw [wl5]); conv => whnf)
              | (refine SBool.mk (fun _ => ?_) (fun h => absurd (of_decide_eq_true rfl) h); conv => whnf)
              | (refine SBool.mk (fun h => absurd h (of_decide_eq_false rfl)) (fun _ => ?_); conv => whnf)
              | (refine SBool.mk (fun h => ?_) (fun h => ?_) <;> conv => whnf)
              | (refine SEx.mk _ (by first | exact happ) ?_; conv => whnf)
              | (refine SEx.mk _ (by first | exact rfl | exact ⟨of_decide_eq_true rfl, rfl⟩) ?_; conv => whnf)
              | (refine SAll.mk (fun _ => ?_); conv => whnf)
              | (refine SAnd.mk (by first | exact happ) ?_; conv => whnf)
              | (refine SAnd.mk ⟨by intro c hc; simp at hc; first | (subst hc; rfl) | ((repeat' (rcases hc with rfl | hc)) <;> first | rfl | (subst hc; rfl)), by (simp; first | done | omega), by (simp; first | done | omega)⟩ ?_; conv => whnf)
              | (refine SAnd.mk (by first | exact rfl | kernel_rfl | omega | decide | exact happ) ?_; conv => whnf)
              | fail)
            refine sort_call (ys := os ++ zs) (by show some _ = some _; simp) (by simp; omega) (fun ys' hperm hsort => ?_)
            conv => whnf
            conv => whnf
            repeat' (first
              | (refine codeK_sound good (mu := []) ?_; conv => whnf)
              | ((first | rw [wl0] | rw [wl1] | rw [wl2] | rw [wl3] | rw [wl4] | rw [wl5]); conv => whnf)
              | (refine SBool.mk (fun _ => ?_) (fun h => absurd (of_decide_eq_true rfl) h); conv => whnf)
              | (refine SBool.mk (fun h => absurd h (of_decide_eq_false rfl)) (fun _ => ?_); conv => whnf)
              | (refine SBool.mk (fun h => ?_) (fun h => ?_) <;> conv => whnf)
              | (refine SEx.mk _ (by first | exact rfl | exact ⟨of_decide_eq_true rfl, rfl⟩) ?_; conv => whnf)
              | (refine SAll.mk (fun _ => ?_); conv => whnf)
              | (refine SAnd.mk ⟨by intro c hc; simp at hc; first | (subst hc; rfl) | ((repeat' (rcases hc with rfl | hc)) <;> first | rfl | (subst hc; rfl)), by (simp; first | done | omega), by (simp; first | done | omega)⟩ ?_; conv => whnf)
              | (refine SAnd.mk (by first | exact rfl | kernel_rfl | omega | decide) ?_; conv => whnf)
              | fail)
            have e := crossL_of (xs := xs) (by rw [← hos, ← hzs]; exact hperm) hsort
            exact ⟨PLe.of_eq (by rw [if_pos h, ← e, h])⟩
  · exact ⟨PLe.of_eq (by rw [if_neg h])⟩
end Go.Proofs.Ab.Tone2
end
section
/- The law's own small functions; lists compared. -/
set_option maxRecDepth 100000
set_option linter.unusedVariables false
set_option linter.unusedSimpArgs false
namespace Go.Proofs.Ab.Tone2
open Go Go.RowKit Go.Proofs.Ab Go.Proofs.Ab.Tone
theorem at_pure {m : Int} (a b : Int) : APure (C m) 70 [I a, I b] (.agg [I a, I b]) := by
  refine APure.of_body good [] (fn := Tryz.f70) (by kernel_rfl) (by kernel_rfl) rfl rfl (by kernel_rfl) rfl (by kernel_rfl) ?_
  conv => whnf
  repeat' (first
    | (refine codeK_sound good (mu := []) ?_; conv => whnf)
    | ((first | rw [wl0] | rw [wl1] | rw [wl2] | rw [wl3] | rw [wl4] | rw [wl5]); conv => whnf)
    | (refine SBool.mk (fun _ => ?_) (fun h => absurd (of_decide_eq_true rfl) h); conv => whnf)
    | (refine SBool.mk (fun h => absurd h (of_decide_eq_false rfl)) (fun _ => ?_); conv => whnf)
    | (refine SBool.mk (fun h => ?_) (fun h => ?_) <;> conv => whnf)
    | (refine SEx.mk _ (by first | exact rfl | exact ⟨of_decide_eq_true rfl, rfl⟩) ?_; conv => whnf)
    | (refine SAll.mk (fun _ => ?_); conv => whnf)
    | (refine SAnd.mk ⟨by intro c hc; simp at hc; first | (subst hc; rfl) | ((repeat' (rcases hc with rfl | hc)) <;> first | rfl | (subst hc; rfl)), by (simp; first | done | omega), by (simp; first | done | omega)⟩ ?_; conv => whnf)
    | (refine SAnd.mk (by first | exact rfl | kernel_rfl | omega | decide) ?_; conv => whnf)
    | fail)
  exact ⟨PLe.refl _⟩
theorem ratio_pure {m : Int} (a b : Int) : APure (C m) 72 [I a, I b] (.agg [I a, I b]) := by
  refine APure.of_body good [] (fn := Tryz.f72) (by kernel_rfl) (by kernel_rfl) rfl rfl (by kernel_rfl) rfl (by kernel_rfl) ?_
  conv => whnf
  repeat' (first
    | (refine codeK_sound good (mu := []) ?_; conv => whnf)
    | ((first | rw [wl0] | rw [wl1] | rw [wl2] | rw [wl3] | rw [wl4] | rw [wl5]); conv => whnf)
    | (refine SBool.mk (fun _ => ?_) (fun h => absurd (of_decide_eq_true rfl) h); conv => whnf)
    | (refine SBool.mk (fun h => absurd h (of_decide_eq_false rfl)) (fun _ => ?_); conv => whnf)
    | (refine SBool.mk (fun h => ?_) (fun h => ?_) <;> conv => whnf)
    | (refine SEx.mk _ (by first | exact rfl | exact ⟨of_decide_eq_true rfl, rfl⟩) ?_; conv => whnf)
    | (refine SAll.mk (fun _ => ?_); conv => whnf)
    | (refine SAnd.mk ⟨by intro c hc; simp at hc; first | (subst hc; rfl) | ((repeat' (rcases hc with rfl | hc)) <;> first | rfl | (subst hc; rfl)), by (simp; first | done | omega), by (simp; first | done | omega)⟩ ?_; conv => whnf)
    | (refine SAnd.mk (by first | exact rfl | kernel_rfl | omega | decide) ?_; conv => whnf)
    | fail)
  exact ⟨PLe.refl _⟩
theorem span_pure {m : Int} (a b : Int) : APure (C m) 84 [I a, I b] (.agg [I a, I b]) := by
  refine APure.of_body good [] (fn := Tryz.f84) (by kernel_rfl) (by kernel_rfl) rfl rfl (by kernel_rfl) rfl (by kernel_rfl) ?_
  conv => whnf
  repeat' (first
    | (refine codeK_sound good (mu := []) ?_; conv => whnf)
    | ((first | rw [wl0] | rw [wl1] | rw [wl2] | rw [wl3] | rw [wl4] | rw [wl5]); conv => whnf)
    | (refine SBool.mk (fun _ => ?_) (fun h => absurd (of_decide_eq_true rfl) h); conv => whnf)
    | (refine SBool.mk (fun h => absurd h (of_decide_eq_false rfl)) (fun _ => ?_); conv => whnf)
    | (refine SBool.mk (fun h => ?_) (fun h => ?_) <;> conv => whnf)
    | (refine SEx.mk _ (by first | exact rfl | exact ⟨of_decide_eq_true rfl, rfl⟩) ?_; conv => whnf)
    | (refine SAll.mk (fun _ => ?_); conv => whnf)
    | (refine SAnd.mk ⟨by intro c hc; simp at hc; first | (subst hc; rfl) | ((repeat' (rcases hc with rfl | hc)) <;> first | rfl | (subst hc; rfl)), by (simp; first | done | omega), by (simp; first | done | omega)⟩ ?_; conv => whnf)
    | (refine SAnd.mk (by first | exact rfl | kernel_rfl | omega | decide) ?_; conv => whnf)
    | fail)
  exact ⟨PLe.refl _⟩
theorem to_pure {m : Int} (a b : Int) : APure (C m) 79 [I a, I b] (.agg [I a, I b]) := by
  refine APure.of_body good [] (fn := Tryz.f79) (by kernel_rfl) (by kernel_rfl) rfl rfl (by kernel_rfl) rfl (by kernel_rfl) ?_
  conv => whnf
  repeat' (first
    | (refine codeK_sound good (mu := []) ?_; conv => whnf)
    | ((first | rw [wl0] | rw [wl1] | rw [wl2] | rw [wl3] | rw [wl4] | rw [wl5]); conv => whnf)
    | (refine SBool.mk (fun _ => ?_) (fun h => absurd (of_decide_eq_true rfl) h); conv => whnf)
    | (refine SBool.mk (fun h => absurd h (of_decide_eq_false rfl)) (fun _ => ?_); conv => whnf)
    | (refine SBool.mk (fun h => ?_) (fun h => ?_) <;> conv => whnf)
    | (refine SEx.mk _ (by first | exact rfl | exact ⟨of_decide_eq_true rfl, rfl⟩) ?_; conv => whnf)
    | (refine SAll.mk (fun _ => ?_); conv => whnf)
    | (refine SAnd.mk ⟨by intro c hc; simp at hc; first | (subst hc; rfl) | ((repeat' (rcases hc with rfl | hc)) <;> first | rfl | (subst hc; rfl)), by (simp; first | done | omega), by (simp; first | done | omega)⟩ ?_; conv => whnf)
    | (refine SAnd.mk (by first | exact rfl | kernel_rfl | omega | decide) ?_; conv => whnf)
    | fail)
  exact ⟨PLe.refl _⟩
theorem of_pure {m : Int} (a b c : Int) : APure (C m) 82 [I a, I b, I c] (.agg [I a, I 0, I b, I 0, I c, I 0]) := by
  refine APure.of_body good [] (fn := Tryz.f82) (by kernel_rfl) (by kernel_rfl) rfl rfl (by kernel_rfl) rfl (by kernel_rfl) ?_
  conv => whnf
  repeat' (first
    | (refine codeK_sound good (mu := []) ?_; conv => whnf)
    | ((first | rw [wl0] | rw [wl1] | rw [wl2] | rw [wl3] | rw [wl4] | rw [wl5]); conv => whnf)
    | (refine SBool.mk (fun _ => ?_) (fun h => absurd (of_decide_eq_true rfl) h); conv => whnf)
    | (refine SBool.mk (fun h => absurd h (of_decide_eq_false rfl)) (fun _ => ?_); conv => whnf)
    | (refine SBool.mk (fun h => ?_) (fun h => ?_) <;> conv => whnf)
    | (refine SEx.mk _ (by first | exact at_pure _ _) ?_; conv => whnf)
    | (refine SEx.mk _ (by first | exact rfl | exact ⟨of_decide_eq_true rfl, rfl⟩) ?_; conv => whnf)
    | (refine SAll.mk (fun _ => ?_); conv => whnf)
    | (refine SAnd.mk ⟨by intro c hc; simp at hc; first | (subst hc; rfl) | ((repeat' (rcases hc with rfl | hc)) <;> first | rfl | (subst hc; rfl)), by (simp; first | done | omega), by (simp; first | done | omega)⟩ ?_; conv => whnf)
    | (refine SAnd.mk (by first | exact rfl | kernel_rfl | omega | decide | exact at_pure _ _) ?_; conv => whnf)
    | fail)
  exact ⟨PLe.refl _⟩
theorem set_pure {m : Int} : APure (C m) 83 [] (.agg [I 100, I 30, I 50, I 200, I 600]) := by
  refine APure.of_body good [] (fn := Tryz.f83) (by kernel_rfl) (by kernel_rfl) rfl rfl (by kernel_rfl) rfl (by kernel_rfl) ?_
  conv => whnf
  repeat' (first
    | (refine codeK_sound good (mu := []) ?_; conv => whnf)
    | ((first | rw [wl0] | rw [wl1] | rw [wl2] | rw [wl3] | rw [wl4] | rw [wl5]); conv => whnf)
    | (refine SBool.mk (fun _ => ?_) (fun h => absurd (of_decide_eq_true rfl) h); conv => whnf)
    | (refine SBool.mk (fun h => absurd h (of_decide_eq_false rfl)) (fun _ => ?_); conv => whnf)
    | (refine SBool.mk (fun h => ?_) (fun h => ?_) <;> conv => whnf)
    | (refine SEx.mk _ (by first | exact to_pure _ _) ?_; conv => whnf)
    | (refine SEx.mk _ (by first | exact rfl | exact ⟨of_decide_eq_true rfl, rfl⟩) ?_; conv => whnf)
    | (refine SAll.mk (fun _ => ?_); conv => whnf)
    | (refine SAnd.mk ⟨by intro c hc; simp at hc; first | (subst hc; rfl) | ((repeat' (rcases hc with rfl | hc)) <;> first | rfl | (subst hc; rfl)), by (simp; first | done | omega), by (simp; first | done | omega)⟩ ?_; conv => whnf)
    | (refine SAnd.mk (by first | exact rfl | kernel_rfl | omega | decide | exact to_pure _ _) ?_; conv => whnf)
    | fail)
  exact ⟨PLe.refl _⟩
theorem PLe.nil (sz : Nat) : PLe nilS (.seq sz []) := fun w ok u h => by
  rw [v_inv h]
  exact .seq sz [] none 0 0 [] rfl (Nat.le_refl _) (Nat.zero_le _) (by simp) rfl (by simp) (by omega)
theorem take_eq_succ {α : Type} {a b : List α} {k : Nat} (ha : k < a.length) (hb : k < b.length) (h : a.take k = b.take k) (he : a[k] = b[k]) : a.take (k + 1) = b.take (k + 1) := by
  rw [List.take_succ_eq_append_getElem ha, List.take_succ_eq_append_getElem hb, h, he]
theorem take_ne {α : Type} {a b : List α} {k : Nat} (ha : k < a.length) (hb : k < b.length) (he : ¬ a[k] = b[k]) : a ≠ b := fun e => he (by subst e; rfl)
theorem sameInts_pure {m : Int} (a b : List Int) (hl : a.length ≤ 1000000) : APure (C m) 46 [.seq 1 (cells1 a), .seq 1 (cells1 b)] (Bo (decide (a = b))) := by
  have ea : (cells1 a).length = a.length := by simp [cells1]
  have eb : (cells1 b).length = b.length := by simp [cells1]
  refine APure.of_body good [] (fn := Tryz.f46) (by kernel_rfl) (by kernel_rfl) rfl rfl (by kernel_rfl) rfl (by kernel_rfl) ?_
  conv => whnf
  repeat' (first
    | (refine codeK_sound good (mu := []) ?_; conv => whnf)
    | ((first | rw [wl0] | rw [wl1] | rw [wl2] | rw [wl3] | rw [wl4] | rw [wl5]); conv => whnf)
    | (refine SBool.mk (fun _ => ?_) (fun h => absurd (of_decide_eq_true rfl) h); conv => whnf)
    | (refine SBool.mk (fun h => absurd h (of_decide_eq_false rfl)) (fun _ => ?_); conv => whnf)
    | (refine SBool.mk (fun h => ?_) (fun h => ?_) <;> conv => whnf)
    | (refine SEx.mk _ (by first | exact rfl | exact ⟨of_decide_eq_true rfl, rfl⟩) ?_; conv => whnf)
    | (refine SAll.mk (fun _ => ?_); conv => whnf)
    | (refine SAnd.mk ⟨by intro c hc; simp at hc; first | (subst hc; rfl) | ((repeat' (rcases hc with rfl | hc)) <;> first | rfl | (subst hc; rfl)), by (simp; first | done | omega), by (simp; first | done | omega)⟩ ?_; conv => whnf)
    | (refine SAnd.mk (by first | exact rfl | kernel_rfl | omega | decide) ?_; conv => whnf)
    | fail)
  · have hab : a.length = b.length := by rw [ea, eb] at h; omega
    refine ⟨AWp.loop (ι := { k : Nat // k ≤ a.length ∧ a.take k = b.take k }) (fun k => ⟨[(5, .p (I k.1)), (1, .p (.seq 1 (cells1 b))), (0, .p (.seq 1 (cells1 a)))], [], [], 0, [], [], []⟩) (fun k => a.length - k.1) ⟨0, by simp⟩ ?_ ?_⟩
    · skip
      · refine SLe.of [] [] rfl rfl ?_
        conv => whnf
        repeat' (first
        | exact True.intro
        | (refine SAnd.mk (PLe.of_eq (by simp only [wrapK]; rw [wrap_id (by first | omega | (simp only; done) | (simp only; omega) | simp) (by first | omega | (simp only; done) | (simp only; omega) | simp)]; simp)) ?_; conv => whnf)
        | (refine SAnd.mk (PLe.refl _) ?_; conv => whnf)
        | (refine SAnd.mk (PLeL.refl _) ?_; conv => whnf)
        | (refine SAnd.mk (PLe.of_eq (by simp)) ?_; conv => whnf)
        | (refine SAnd.mk rfl ?_; conv => whnf)
        | (refine SAnd.mk ⟨rfl, rfl⟩ ?_; conv => whnf)
        | (refine SAnd.mk ⟨rfl, rfl, rfl⟩ ?_; conv => whnf))
    · rintro ⟨k, hk, hab2⟩
      refine codeK_sound good (mu := []) ?_
      conv => whnf
      refine SBool.mk (fun hc => ?_) (fun hc => ?_)
      · have hc' : (k : Int) < ((cells1 a).length : Int) := hc
        have hkl : k < a.length := by rw [ea] at hc'; omega
        have hkb : k < b.length := by omega
        have hea : 0 ≤ (k : Int) ∧ (cells1 a)[((k : Int)).toNat]? = some [I a[k]] := ⟨by omega, by show (cells1 a)[k]? = _; simp [cells1, hkl]⟩
        have heb : 0 ≤ (k : Int) ∧ (cells1 b)[((k : Int)).toNat]? = some [I b[k]] := ⟨by omega, by show (cells1 b)[k]? = _; simp [cells1, hkb]⟩
        have wk : wrapK IntKind.i64 ((k : Int) + 1) = k + 1 := w64 (by omega)
        conv => whnf
        repeat' (first
          | (refine codeK_sound good (mu := []) ?_; conv => whnf)
          | ((first | rw [wl0] | rw [wl1] | rw [wl2] | rw [wl3] | rw [wl4] | rw [wl5]); conv => whnf)
          | (refine SBool.mk (fun _ => ?_) (fun h => absurd (of_decide_eq_true rfl) h); conv => whnf)
          | (refine SBool.mk (fun h => absurd h (of_decide_eq_false rfl)) (fun _ => ?_); conv => whnf)
          | (refine SBool.mk (fun h => ?_) (fun h => ?_) <;> conv => whnf)
          | (refine SEx.mk _ (by first | exact hea | exact heb) ?_; conv => whnf)
          | (refine SEx.mk _ (by first | exact rfl | exact ⟨of_decide_eq_true rfl, rfl⟩) ?_; conv => whnf)
          | (refine SAll.mk (fun _ => ?_); conv => whnf)
          | (refine SAnd.mk (by first | exact hea | exact heb) ?_; conv => whnf)
          | (refine SAnd.mk ⟨by intro c hc; simp at hc; first | (subst hc; rfl) | ((repeat' (rcases hc with rfl | hc)) <;> first | rfl | (subst hc; rfl)), by (simp; first | done | omega), by (simp; first | done | omega)⟩ ?_; conv => whnf)
          | (refine SAnd.mk (by first | exact rfl | kernel_rfl | omega | decide | exact hea | exact heb) ?_; conv => whnf)
          | fail)
        · refine ⟨⟨k + 1, by omega, take_eq_succ hkl hkb hab2 h⟩, by simp only; omega, ?_⟩
          skip
          · refine SLe.of [] [] rfl rfl ?_
            conv => whnf
            repeat' (first
            | exact True.intro
            | (refine SAnd.mk (PLe.of_eq (by simp only [wrapK]; rw [wrap_id (by first | omega | (simp only; done) | (simp only; omega) | simp) (by first | omega | (simp only; done) | (simp only; omega) | simp)]; simp)) ?_; conv => whnf)
            | (refine SAnd.mk (PLe.refl _) ?_; conv => whnf)
            | (refine SAnd.mk (PLeL.refl _) ?_; conv => whnf)
            | (refine SAnd.mk (PLe.of_eq (by simp)) ?_; conv => whnf)
            | (refine SAnd.mk rfl ?_; conv => whnf)
            | (refine SAnd.mk ⟨rfl, rfl⟩ ?_; conv => whnf)
            | (refine SAnd.mk ⟨rfl, rfl, rfl⟩ ?_; conv => whnf))
        · exact ⟨PLe.of_eq (by rw [decide_eq_false (take_ne hkl hkb h)])⟩
      · have hc' : ¬ (k : Int) < ((cells1 a).length : Int) := hc
        have hkl : k = a.length := by rw [ea] at hc'; omega
        have e : a = b := by
          rw [hkl, List.take_length] at hab2
          rw [hab2, hab, List.take_length]
        conv => whnf
        repeat' (first
          | (refine codeK_sound good (mu := []) ?_; conv => whnf)
          | ((first | rw [wl0] | rw [wl1] | rw [wl2] | rw [wl3] | rw [wl4] | rw [wl5]); conv => whnf)
          | (refine SBool.mk (fun _ => ?_) (fun h => absurd (of_decide_eq_true rfl) h); conv => whnf)
          | (refine SBool.mk (fun h => absurd h (of_decide_eq_false rfl)) (fun _ => ?_); conv => whnf)
          | (refine SBool.mk (fun h => ?_) (fun h => ?_) <;> conv => whnf)
          | (refine SEx.mk _ (by first | exact rfl | exact ⟨of_decide_eq_true rfl, rfl⟩) ?_; conv => whnf)
          | (refine SAll.mk (fun _ => ?_); conv => whnf)
          | (refine SAnd.mk ⟨by intro c hc; simp at hc; first | (subst hc; rfl) | ((repeat' (rcases hc with rfl | hc)) <;> first | rfl | (subst hc; rfl)), by (simp; first | done | omega), by (simp; first | done | omega)⟩ ?_; conv => whnf)
          | (refine SAnd.mk (by first | exact rfl | kernel_rfl | omega | decide) ?_; conv => whnf)
          | fail)
        exact ⟨PLe.of_eq (by rw [decide_eq_true e])⟩
  · have hab : a ≠ b := fun e => by subst e; exact h rfl
    exact ⟨PLe.of_eq (by rw [decide_eq_false hab])⟩
theorem eq_span (a b c d : Int) : EqAgg Tone.C 143 [I a, I b] [I c, I d] (decide (a = c ∧ b = d)) :=
  eqAgg2 (f1 := ⟨ "From", 3, 0, false, "", "", 0⟩) (f2 := ⟨ "To", 3, 1, false, "", "", 8⟩) (by kernel_rfl) (by kernel_rfl) (by kernel_rfl) (by decide) (by decide) (by kernel_rfl) (by kernel_rfl) rfl rfl (by kernel_rfl) a b c d
theorem sameSpans_pure {m : Int} (a b : List Sp) (hl : a.length ≤ 1000000) : APure (C m) 62 [seqP a, seqP b] (Bo (decide (a = b))) := by
  have ea : (cellsP a).length = a.length := by simp [cellsP]
  have eb : (cellsP b).length = b.length := by simp [cellsP]
  refine APure.of_body good [] (fn := Tryz.f62) (by kernel_rfl) (by kernel_rfl) rfl rfl (by kernel_rfl) rfl (by kernel_rfl) ?_
  conv => whnf
  repeat' (first
    | (refine codeK_sound good (mu := []) ?_; conv => whnf)
    | ((first | rw [wl0] | rw [wl1] | rw [wl2] | rw [wl3] | rw [wl4] | rw [wl5]); conv => whnf)
    | (refine SBool.mk (fun _ => ?_) (fun h => absurd (of_decide_eq_true rfl) h); conv => whnf)
    | (refine SBool.mk (fun h => absurd h (of_decide_eq_false rfl)) (fun _ => ?_); conv => whnf)
    | (refine SBool.mk (fun h => ?_) (fun h => ?_) <;> conv => whnf)
    | (refine SEx.mk _ (by first | exact rfl | exact ⟨of_decide_eq_true rfl, rfl⟩) ?_; conv => whnf)
    | (refine SAll.mk (fun _ => ?_); conv => whnf)
    | (refine SAnd.mk ⟨by intro c hc; simp at hc; first | (subst hc; rfl) | ((repeat' (rcases hc with rfl | hc)) <;> first | rfl | (subst hc; rfl)), by (simp; first | done | omega), by (simp; first | done | omega)⟩ ?_; conv => whnf)
    | (refine SAnd.mk (by first | exact rfl | kernel_rfl | omega | decide) ?_; conv => whnf)
    | fail)
  · have hab : a.length = b.length := by rw [ea, eb] at h; omega
    refine ⟨AWp.loop (ι := { k : Nat // k ≤ a.length ∧ a.take k = b.take k }) (fun k => ⟨[(5, .p (I k.1)), (1, .p (seqP b)), (0, .p (seqP a))], [], [], 0, [], [], []⟩) (fun k => a.length - k.1) ⟨0, by simp⟩ ?_ ?_⟩
    · skip
      · refine SLe.of [] [] rfl rfl ?_
        conv => whnf
        repeat' (first
        | exact True.intro
        | (refine SAnd.mk (PLe.of_eq (by simp only [wrapK]; rw [wrap_id (by first | omega | (simp only; done) | (simp only; omega) | simp) (by first | omega | (simp only; done) | (simp only; omega) | simp)]; simp)) ?_; conv => whnf)
        | (refine SAnd.mk (PLe.refl _) ?_; conv => whnf)
        | (refine SAnd.mk (PLeL.refl _) ?_; conv => whnf)
        | (refine SAnd.mk (PLe.of_eq (by simp)) ?_; conv => whnf)
        | (refine SAnd.mk rfl ?_; conv => whnf)
        | (refine SAnd.mk ⟨rfl, rfl⟩ ?_; conv => whnf)
        | (refine SAnd.mk ⟨rfl, rfl, rfl⟩ ?_; conv => whnf))
    · rintro ⟨k, hk, hab2⟩
      refine codeK_sound good (mu := []) ?_
      conv => whnf
      refine SBool.mk (fun hc => ?_) (fun hc => ?_)
      · have hc' : (k : Int) < ((cellsP a).length : Int) := hc
        have hkl : k < a.length := by rw [ea] at hc'; omega
        have hkb : k < b.length := by omega
        have hea : 0 ≤ (k : Int) ∧ (cellsP a)[((k : Int)).toNat]? = some [I a[k].1, I a[k].2] := ⟨by omega, by show (cellsP a)[k]? = _; simp [cellsP, hkl]⟩
        have heb : 0 ≤ (k : Int) ∧ (cellsP b)[((k : Int)).toNat]? = some [I b[k].1, I b[k].2] := ⟨by omega, by show (cellsP b)[k]? = _; simp [cellsP, hkb]⟩
        have wk : wrapK IntKind.i64 ((k : Int) + 1) = k + 1 := w64 (by omega)
        conv => whnf
        repeat' (first
          | (refine codeK_sound good (mu := []) ?_; conv => whnf)
          | ((first | rw [wl0] | rw [wl1] | rw [wl2] | rw [wl3] | rw [wl4] | rw [wl5]); conv => whnf)
          | (refine SBool.mk (fun _ => ?_) (fun h => absurd (of_decide_eq_true rfl) h); conv => whnf)
          | (refine SBool.mk (fun h => absurd h (of_decide_eq_false rfl)) (fun _ => ?_); conv => whnf)
          | (refine SBool.mk (fun h => ?_) (fun h => ?_) <;> conv => whnf)
          | (refine SEx.mk _ (by first | exact hea | exact heb | exact eq_span _ _ _ _) ?_; conv => whnf)
          | (refine SEx.mk _ (by first | exact rfl | exact ⟨of_decide_eq_true rfl, rfl⟩) ?_; conv => whnf)
          | (refine SAll.mk (fun _ => ?_); conv => whnf)
          | (refine SAnd.mk (by first | exact hea | exact heb) ?_; conv => whnf)
          | (refine SAnd.mk ⟨by intro c hc; simp at hc; first | (subst hc; rfl) | ((repeat' (rcases hc with rfl | hc)) <;> first | rfl | (subst hc; rfl)), by (simp; first | done | omega), by (simp; first | done | omega)⟩ ?_; conv => whnf)
          | (refine SAnd.mk (by first | exact rfl | kernel_rfl | omega | decide | exact hea | exact heb | exact eq_span _ _ _ _) ?_; conv => whnf)
          | fail)
        · have he : a[k] = b[k] := by
            have := of_decide_eq_true h
            exact Prod.ext this.1 this.2
          refine ⟨⟨k + 1, by omega, take_eq_succ hkl hkb hab2 he⟩, by simp only; omega, ?_⟩
          skip
          · refine SLe.of [] [] rfl rfl ?_
            conv => whnf
            repeat' (first
            | exact True.intro
            | (refine SAnd.mk (PLe.of_eq (by simp only [wrapK]; rw [wrap_id (by first | omega | (simp only; done) | (simp only; omega) | simp) (by first | omega | (simp only; done) | (simp only; omega) | simp)]; simp)) ?_; conv => whnf)
            | (refine SAnd.mk (PLe.refl _) ?_; conv => whnf)
            | (refine SAnd.mk (PLeL.refl _) ?_; conv => whnf)
            | (refine SAnd.mk (PLe.of_eq (by simp)) ?_; conv => whnf)
            | (refine SAnd.mk rfl ?_; conv => whnf)
            | (refine SAnd.mk ⟨rfl, rfl⟩ ?_; conv => whnf)
            | (refine SAnd.mk ⟨rfl, rfl, rfl⟩ ?_; conv => whnf))
        · have he : ¬ a[k] = b[k] := fun e => h (by simp [e])
          exact ⟨PLe.of_eq (by rw [decide_eq_false (take_ne hkl hkb he)])⟩
      · have hc' : ¬ (k : Int) < ((cellsP a).length : Int) := hc
        have hkl : k = a.length := by rw [ea] at hc'; omega
        have e : a = b := by
          rw [hkl, List.take_length] at hab2
          rw [hab2, hab, List.take_length]
        conv => whnf
        repeat' (first
          | (refine codeK_sound good (mu := []) ?_; conv => whnf)
          | ((first | rw [wl0] | rw [wl1] | rw [wl2] | rw [wl3] | rw [wl4] | rw [wl5]); conv => whnf)
          | (refine SBool.mk (fun _ => ?_) (fun h => absurd (of_decide_eq_true rfl) h); conv => whnf)
          | (refine SBool.mk (fun h => absurd h (of_decide_eq_false rfl)) (fun _ => ?_); conv => whnf)
          | (refine SBool.mk (fun h => ?_) (fun h => ?_) <;> conv => whnf)
          | (refine SEx.mk _ (by first | exact rfl | exact ⟨of_decide_eq_true rfl, rfl⟩) ?_; conv => whnf)
          | (refine SAll.mk (fun _ => ?_); conv => whnf)
          | (refine SAnd.mk ⟨by intro c hc; simp at hc; first | (subst hc; rfl) | ((repeat' (rcases hc with rfl | hc)) <;> first | rfl | (subst hc; rfl)), by (simp; first | done | omega), by (simp; first | done | omega)⟩ ?_; conv => whnf)
          | (refine SAnd.mk (by first | exact rfl | kernel_rfl | omega | decide) ?_; conv => whnf)
          | fail)
        exact ⟨PLe.of_eq (by rw [decide_eq_true e])⟩
  · have hab : a ≠ b := fun e => by subst e; exact h rfl
    exact ⟨PLe.of_eq (by rw [decide_eq_false hab])⟩
end Go.Proofs.Ab.Tone2
end
section
/- Samples of a signal. -/
set_option maxRecDepth 100000
set_option linter.unusedVariables false
set_option linter.unusedSimpArgs false
namespace Go.Proofs.Ab.Tone
open Go Go.RowKit Go.Proofs.Ab
def smps (s : Sg) : List PV := [cf (smp s 1 1), cf (smp s 1 (-1)), cf (smp s (-1) 1), cf (smp s (-1) (-1))]
def outK (s : Sg) : Nat → List PV
  | 0 => [zc, zc, zc, zc]
  | 1 => [cf (smp s 1 1), zc, zc, zc]
  | 2 => [cf (smp s 1 1), cf (smp s 1 (-1)), zc, zc]
  | 3 => [cf (smp s 1 1), cf (smp s 1 (-1)), cf (smp s (-1) 1), zc]
  | _ => smps s
theorem le4 {k : Nat} (h : k ≤ 4) : k = 0 ∨ k = 1 ∨ k = 2 ∨ k = 3 ∨ k = 4 := by omega
set_option maxHeartbeats 2000000 in
theorem Sampled_pure (s : Sg) : APure C 73 [.agg (sc s)] (.tup [.agg (sampledV s), I (checkE s)]) := by
  refine APure.of_body good [] (fn := Tryz.f73) (by kernel_rfl) (by kernel_rfl) rfl rfl (by kernel_rfl) rfl (by kernel_rfl) ?_
  conv => whnf
  repeat' (first
    | (refine codeK_sound good (mu := []) ?_; conv => whnf)
    | ((first | rw [wl0] | rw [wl1] | rw [wl2] | rw [wl3] | rw [wl4] | rw [wl5]); conv => whnf)
    | (refine SBool.mk (fun _ => ?_) (fun h => absurd (of_decide_eq_true rfl) h); conv => whnf)
    | (refine SBool.mk (fun h => absurd h (of_decide_eq_false rfl)) (fun _ => ?_); conv => whnf)
    | (refine SBool.mk (fun h => ?_) (fun h => ?_) <;> conv => whnf)
    | (refine SEx.mk _ (by first | exact CheckSignal_pure _) ?_; conv => whnf)
    | (refine SEx.mk _ (by first | exact rfl | exact ⟨of_decide_eq_true rfl, rfl⟩) ?_; conv => whnf)
    | (refine SAll.mk (fun _ => ?_); conv => whnf)
    | (refine SAnd.mk ⟨by intro c hc; simp at hc; first | (subst hc; rfl) | ((repeat' (rcases hc with rfl | hc)) <;> first | rfl | (subst hc; rfl)), by (simp; first | done | omega), by (simp; first | done | omega)⟩ ?_; conv => whnf)
    | (refine SAnd.mk (by first | exact rfl | kernel_rfl | omega | decide | exact CheckSignal_pure _) ?_; conv => whnf)
    | fail)
  · have hv := checkE_zero.1 h
    have hf := hv.fit
    have u1 : G.Fit ⟨1, 0⟩ 1000000 := ⟨by decide, by decide⟩
    have u2 : G.Fit ⟨-1, 0⟩ 1000000 := ⟨by decide, by decide⟩
    have l1 := times_fit s.l ⟨1, 0⟩ (hf.l.mono (by decide)) u1
    have l2 := times_fit s.l ⟨-1, 0⟩ (hf.l.mono (by decide)) u2
    have h1 := times_fit s.h ⟨1, 0⟩ (hf.h.mono (by decide)) u1
    have h2 := times_fit s.h ⟨-1, 0⟩ (hf.h.mono (by decide)) u2
    have fl1 := mul_fit hf.l (σ := 1) (.inl rfl)
    have fl2 := mul_fit hf.l (σ := -1) (.inr rfl)
    have fh1 := mul_fit hf.h (σ := 1) (.inl rfl)
    have fh2 := mul_fit hf.h (σ := -1) (.inr rfl)
    have p1 := plus_fit s.c (s.l.mul ⟨1, 0⟩) 10000 (by decide) hf.c fl1
    have p2 := plus_fit s.c (s.l.mul ⟨-1, 0⟩) 10000 (by decide) hf.c fl2
    have fp1 := hf.c.add fl1
    have fp2 := hf.c.add fl2
    have q1 := plus_fit (s.c.add (s.l.mul ⟨1, 0⟩)) (s.h.mul ⟨1, 0⟩) 20000 (by decide) fp1 (fh1.mono (by decide))
    have q2 := plus_fit (s.c.add (s.l.mul ⟨1, 0⟩)) (s.h.mul ⟨-1, 0⟩) 20000 (by decide) fp1 (fh2.mono (by decide))
    have q3 := plus_fit (s.c.add (s.l.mul ⟨-1, 0⟩)) (s.h.mul ⟨1, 0⟩) 20000 (by decide) fp2 (fh1.mono (by decide))
    have q4 := plus_fit (s.c.add (s.l.mul ⟨-1, 0⟩)) (s.h.mul ⟨-1, 0⟩) 20000 (by decide) fp2 (fh2.mono (by decide))
    refine ⟨AWp.loop (ι := { k : Nat // k ≤ 4 }) (fun k => ⟨[(16, .p (I k.1)), (4, .box 1 0), (2, .box 0 0), (1, .p (.ref (sc s)))], [(0, (120, [zc, zc, zc, zc])), (1, (120, outK s k.1))], [], 2, [], [], []⟩) (fun k => 4 - k.1) ⟨0, by omega⟩ ?_ ?_⟩
    · refine SLe.of [(0, 0), (1, 1)] [] rfl rfl ?_
      conv => whnf
      repeat' (first
      | exact True.intro
      | (refine SAnd.mk (PLe.of_eq (by simp only [wrapK]; rw [wrap_id (by first | omega | (simp only; done) | (simp only; omega) | simp) (by first | omega | (simp only; done) | (simp only; omega) | simp)]; simp)) ?_; conv => whnf)
      | (refine SAnd.mk (PLe.refl _) ?_; conv => whnf)
      | (refine SAnd.mk (PLeL.refl _) ?_; conv => whnf)
      | (refine SAnd.mk (PLe.of_eq (by simp)) ?_; conv => whnf)
      | (refine SAnd.mk rfl ?_; conv => whnf)
      | (refine SAnd.mk ⟨rfl, rfl⟩ ?_; conv => whnf)
      | (refine SAnd.mk ⟨rfl, rfl, rfl⟩ ?_; conv => whnf))
    · rintro ⟨k, hk⟩
      rcases le4 hk with rfl | rfl | rfl | rfl | rfl
      · as_aux_lemma =>
          conv => whnf
          repeat' (first
            | (refine codeK_sound good (mu := []) ?_; conv => whnf)
            | ((first | rw [wl0] | rw [wl1] | rw [wl2] | rw [wl3] | rw [wl4] | rw [wl5]); conv => whnf)
            | (refine SBool.mk (fun _ => ?_) (fun h => absurd (of_decide_eq_true rfl) h); conv => whnf)
            | (refine SBool.mk (fun h => absurd h (of_decide_eq_false rfl)) (fun _ => ?_); conv => whnf)
            | (refine SBool.mk (fun h => ?_) (fun h => ?_) <;> conv => whnf)
            | refine SCode.mk (AWp.rounds 3 ?_)
            | (refine SEx.mk _ (by first | exact tones_pure | exact tones1_pure s | exact tones2_pure s | exact l1 | exact h1 | exact p1 | exact q1 | exact sample_pure _) ?_; conv => whnf)
            | (refine SEx.mk _ (by first | exact rfl | exact ⟨of_decide_eq_true rfl, rfl⟩) ?_; conv => whnf)
            | (refine SAll.mk (fun _ => ?_); conv => whnf)
            | (refine SAnd.mk (by first | exact h1) ?_; conv => whnf)
            | (refine SAnd.mk ⟨by intro c hc; simp at hc; first | (subst hc; rfl) | ((repeat' (rcases hc with rfl | hc)) <;> first | rfl | (subst hc; rfl)), by (simp; first | done | omega), by (simp; first | done | omega)⟩ ?_; conv => whnf)
            | (refine SAnd.mk (by first | exact rfl | kernel_rfl | omega | decide | exact tones_pure | exact tones1_pure s | exact tones2_pure s | exact l1 | exact h1 | exact p1 | exact q1 | exact sample_pure _) ?_; conv => whnf)
            | fail)
          refine ⟨⟨1, by omega⟩, by simp only; omega, ?_⟩
          · refine SLe.of [(0, 0), (1, 1)] [] rfl rfl ?_
            conv => whnf
            repeat' (first
            | exact True.intro
            | (refine SAnd.mk (PLe.of_eq (by simp only [wrapK]; rw [wrap_id (by first | omega | (simp only; done) | (simp only; omega) | simp) (by first | omega | (simp only; done) | (simp only; omega) | simp)]; simp)) ?_; conv => whnf)
            | (refine SAnd.mk (PLe.refl _) ?_; conv => whnf)
            | (refine SAnd.mk (PLeL.refl _) ?_; conv => whnf)
            | (refine SAnd.mk (PLe.of_eq (by simp)) ?_; conv => whnf)
            | (refine SAnd.mk rfl ?_; conv => whnf)
            | (refine SAnd.mk ⟨rfl, rfl⟩ ?_; conv => whnf)
            | (refine SAnd.mk ⟨rfl, rfl, rfl⟩ ?_; conv => whnf))
      · as_aux_lemma =>
          conv => whnf
          repeat' (first
            | (refine codeK_sound good (mu := []) ?_; conv => whnf)
            | ((first | rw [wl0] | rw [wl1] | rw [wl2] | rw [wl3] | rw [wl4] | rw [wl5]); conv => whnf)
            | (refine SBool.mk (fun _ => ?_) (fun h => absurd (of_decide_eq_true rfl) h); conv => whnf)
            | (refine SBool.mk (fun h => absurd h (of_decide_eq_false rfl)) (fun _ => ?_); conv => whnf)
            | (refine SBool.mk (fun h => ?_) (fun h => ?_) <;> conv => whnf)
            | refine SCode.mk (AWp.rounds 3 ?_)
            | (refine SEx.mk _ (by first | exact tones_pure | exact tones1_pure s | exact tones2_pure s | exact l1 | exact h2 | exact p1 | exact q2 | exact sample_pure _) ?_; conv => whnf)
            | (refine SEx.mk _ (by first | exact rfl | exact ⟨of_decide_eq_true rfl, rfl⟩) ?_; conv => whnf)
            | (refine SAll.mk (fun _ => ?_); conv => whnf)
            | (refine SAnd.mk (by first | exact h2) ?_; conv => whnf)
            | (refine SAnd.mk ⟨by intro c hc; simp at hc; first | (subst hc; rfl) | ((repeat' (rcases hc with rfl | hc)) <;> first | rfl | (subst hc; rfl)), by (simp; first | done | omega), by (simp; first | done | omega)⟩ ?_; conv => whnf)
            | (refine SAnd.mk (by first | exact rfl | kernel_rfl | omega | decide | exact tones_pure | exact tones1_pure s | exact tones2_pure s | exact l1 | exact h2 | exact p1 | exact q2 | exact sample_pure _) ?_; conv => whnf)
            | fail)
          refine ⟨⟨2, by omega⟩, by simp only; omega, ?_⟩
          · refine SLe.of [(0, 0), (1, 1)] [] rfl rfl ?_
            conv => whnf
            repeat' (first
            | exact True.intro
            | (refine SAnd.mk (PLe.of_eq (by simp only [wrapK]; rw [wrap_id (by first | omega | (simp only; done) | (simp only; omega) | simp) (by first | omega | (simp only; done) | (simp only; omega) | simp)]; simp)) ?_; conv => whnf)
            | (refine SAnd.mk (PLe.refl _) ?_; conv => whnf)
            | (refine SAnd.mk (PLeL.refl _) ?_; conv => whnf)
            | (refine SAnd.mk (PLe.of_eq (by simp)) ?_; conv => whnf)
            | (refine SAnd.mk rfl ?_; conv => whnf)
            | (refine SAnd.mk ⟨rfl, rfl⟩ ?_; conv => whnf)
            | (refine SAnd.mk ⟨rfl, rfl, rfl⟩ ?_; conv => whnf))
      · as_aux_lemma =>
          conv => whnf
          repeat' (first
            | (refine codeK_sound good (mu := []) ?_; conv => whnf)
            | ((first | rw [wl0] | rw [wl1] | rw [wl2] | rw [wl3] | rw [wl4] | rw [wl5]); conv => whnf)
            | (refine SBool.mk (fun _ => ?_) (fun h => absurd (of_decide_eq_true rfl) h); conv => whnf)
            | (refine SBool.mk (fun h => absurd h (of_decide_eq_false rfl)) (fun _ => ?_); conv => whnf)
            | (refine SBool.mk (fun h => ?_) (fun h => ?_) <;> conv => whnf)
            | refine SCode.mk (AWp.rounds 3 ?_)
            | (refine SEx.mk _ (by first | exact tones_pure | exact tones1_pure s | exact tones2_pure s | exact l2 | exact h1 | exact p2 | exact q3 | exact sample_pure _) ?_; conv => whnf)
            | (refine SEx.mk _ (by first | exact rfl | exact ⟨of_decide_eq_true rfl, rfl⟩) ?_; conv => whnf)
            | (refine SAll.mk (fun _ => ?_); conv => whnf)
            | (refine SAnd.mk (by first | exact h1) ?_; conv => whnf)
            | (refine SAnd.mk ⟨by intro c hc; simp at hc; first | (subst hc; rfl) | ((repeat' (rcases hc with rfl | hc)) <;> first | rfl | (subst hc; rfl)), by (simp; first | done | omega), by (simp; first | done | omega)⟩ ?_; conv => whnf)
            | (refine SAnd.mk (by first | exact rfl | kernel_rfl | omega | decide | exact tones_pure | exact tones1_pure s | exact tones2_pure s | exact l2 | exact h1 | exact p2 | exact q3 | exact sample_pure _) ?_; conv => whnf)
            | fail)
          refine ⟨⟨3, by omega⟩, by simp only; omega, ?_⟩
          · refine SLe.of [(0, 0), (1, 1)] [] rfl rfl ?_
            conv => whnf
            repeat' (first
            | exact True.intro
            | (refine SAnd.mk (PLe.of_eq (by simp only [wrapK]; rw [wrap_id (by first | omega | (simp only; done) | (simp only; omega) | simp) (by first | omega | (simp only; done) | (simp only; omega) | simp)]; simp)) ?_; conv => whnf)
            | (refine SAnd.mk (PLe.refl _) ?_; conv => whnf)
            | (refine SAnd.mk (PLeL.refl _) ?_; conv => whnf)
            | (refine SAnd.mk (PLe.of_eq (by simp)) ?_; conv => whnf)
            | (refine SAnd.mk rfl ?_; conv => whnf)
            | (refine SAnd.mk ⟨rfl, rfl⟩ ?_; conv => whnf)
            | (refine SAnd.mk ⟨rfl, rfl, rfl⟩ ?_; conv => whnf))
      · as_aux_lemma =>
          conv => whnf
          repeat' (first
            | (refine codeK_sound good (mu := []) ?_; conv => whnf)
            | ((first | rw [wl0] | rw [wl1] | rw [wl2] | rw [wl3] | rw [wl4] | rw [wl5]); conv => whnf)
            | (refine SBool.mk (fun _ => ?_) (fun h => absurd (of_decide_eq_true rfl) h); conv => whnf)
            | (refine SBool.mk (fun h => absurd h (of_decide_eq_false rfl)) (fun _ => ?_); conv => whnf)
            | (refine SBool.mk (fun h => ?_) (fun h => ?_) <;> conv => whnf)
            | refine SCode.mk (AWp.rounds 3 ?_)
            | (refine SEx.mk _ (by first | exact tones_pure | exact tones1_pure s | exact tones2_pure s | exact l2 | exact h2 | exact p2 | exact q4 | exact sample_pure _) ?_; conv => whnf)
            | (refine SEx.mk _ (by first | exact rfl | exact ⟨of_decide_eq_true rfl, rfl⟩) ?_; conv => whnf)
            | (refine SAll.mk (fun _ => ?_); conv => whnf)
            | (refine SAnd.mk (by first | exact h2) ?_; conv => whnf)
            | (refine SAnd.mk ⟨by intro c hc; simp at hc; first | (subst hc; rfl) | ((repeat' (rcases hc with rfl | hc)) <;> first | rfl | (subst hc; rfl)), by (simp; first | done | omega), by (simp; first | done | omega)⟩ ?_; conv => whnf)
            | (refine SAnd.mk (by first | exact rfl | kernel_rfl | omega | decide | exact tones_pure | exact tones1_pure s | exact tones2_pure s | exact l2 | exact h2 | exact p2 | exact q4 | exact sample_pure _) ?_; conv => whnf)
            | fail)
          refine ⟨⟨4, by omega⟩, by simp only; omega, ?_⟩
          · refine SLe.of [(0, 0), (1, 1)] [] rfl rfl ?_
            conv => whnf
            repeat' (first
            | exact True.intro
            | (refine SAnd.mk (PLe.of_eq (by simp only [wrapK]; rw [wrap_id (by first | omega | (simp only; done) | (simp only; omega) | simp) (by first | omega | (simp only; done) | (simp only; omega) | simp)]; simp)) ?_; conv => whnf)
            | (refine SAnd.mk (PLe.refl _) ?_; conv => whnf)
            | (refine SAnd.mk (PLeL.refl _) ?_; conv => whnf)
            | (refine SAnd.mk (PLe.of_eq (by simp)) ?_; conv => whnf)
            | (refine SAnd.mk rfl ?_; conv => whnf)
            | (refine SAnd.mk ⟨rfl, rfl⟩ ?_; conv => whnf)
            | (refine SAnd.mk ⟨rfl, rfl, rfl⟩ ?_; conv => whnf))
      · as_aux_lemma =>
          conv => whnf
          repeat' (first
            | (refine codeK_sound good (mu := []) ?_; conv => whnf)
            | ((first | rw [wl0] | rw [wl1] | rw [wl2] | rw [wl3] | rw [wl4] | rw [wl5]); conv => whnf)
            | (refine SBool.mk (fun _ => ?_) (fun h => absurd (of_decide_eq_true rfl) h); conv => whnf)
            | (refine SBool.mk (fun h => absurd h (of_decide_eq_false rfl)) (fun _ => ?_); conv => whnf)
            | (refine SBool.mk (fun h => ?_) (fun h => ?_) <;> conv => whnf)
            | (refine SEx.mk _ (by first | exact rfl | exact ⟨of_decide_eq_true rfl, rfl⟩) ?_; conv => whnf)
            | (refine SAll.mk (fun _ => ?_); conv => whnf)
            | (refine SAnd.mk ⟨by intro c hc; simp at hc; first | (subst hc; rfl) | ((repeat' (rcases hc with rfl | hc)) <;> first | rfl | (subst hc; rfl)), by (simp; first | done | omega), by (simp; first | done | omega)⟩ ?_; conv => whnf)
            | (refine SAnd.mk (by first | exact rfl | kernel_rfl | omega | decide) ?_; conv => whnf)
            | fail)
          exact ⟨PLe.of_eq (by unfold sampledV; rw [if_pos h, h])⟩
  · exact ⟨PLe.of_eq (by unfold sampledV; rw [if_neg h])⟩
end Go.Proofs.Ab.Tone
end
section
/- Floating point on integers: the operations, run. -/
set_option linter.unusedVariables false
set_option linter.unusedSimpArgs false
namespace Go.Proofs.Ab
open Go Ieee
theorem ord_eq (a b : Int) : (some (compare a b) == some Ordering.eq) = decide (a = b) := by
  simp only [compare, compareOfLessAndEq]
  by_cases h : a < b
  · have : ¬ a = b := by omega
    simp [h, this]
  · by_cases e : a = b <;> simp [h, e]
theorem ord_lt (a b : Int) : (some (compare a b) == some Ordering.lt) = decide (a < b) := by
  simp only [compare, compareOfLessAndEq]
  by_cases h : a < b
  · simp [h]
  · by_cases e : a = b <;> simp [h, e]
theorem ord_gt (a b : Int) : (some (compare a b) == some Ordering.gt) = decide (b < a) := by
  simp only [compare, compareOfLessAndEq]
  by_cases h : a < b
  · have : ¬ b < a := by omega
    simp [h, this]
  · by_cases e : a = b
    · simp [e]
    · have : b < a := by omega
      simp [h, e, this]
section
variable {P : Program} {k : FloatKind} {x y : Nat} {a b : Int} (hx : FInt k x a) (hy : FInt k y b) (t : TypeId)
include hx hy
theorem run_fneq (w : World) : (binOp .neq t (.float k x) (.float k y)).run P w = .ok (.bool (decide (a ≠ b))) w := by
  rw [binOp_float_cmp_neq, hx.order hy, bne, ord_eq]
  by_cases h : a = b <;> simp [h]
theorem run_flss (w : World) : (binOp .lss t (.float k x) (.float k y)).run P w = .ok (.bool (decide (a < b))) w := by
  rw [binOp_float_cmp_lss, hx.order hy, ord_lt]; rfl
theorem run_fgtr (w : World) : (binOp .gtr t (.float k x) (.float k y)).run P w = .ok (.bool (decide (b < a))) w := by
  rw [binOp_float_cmp_gtr, hx.order hy, ord_gt]; rfl
theorem run_fmax : ∃ r, FInt k r (max a b) ∧ ∀ w, (Builtin.max2 (.float k x) (.float k y)).run P w = .ok (.float k r) w := by
  have ho := hx.order hy
  rcases Int.lt_trichotomy a b with h | h | h
  · refine ⟨y, by rw [Int.max_eq_right (by omega)]; exact hy, fun w => ?_⟩
    have hc : compare a b = .lt := by simp [compare, compareOfLessAndEq, h]
    simp [Builtin.max2, ho, hc]
  · subst h
    refine ⟨if (k.decode x).neg then y else x, ?_, fun w => ?_⟩
    · rw [Int.max_self]
      split
      · exact hy
      · exact hx
    · have hc : compare a a = .eq := by simp [compare, compareOfLessAndEq]
      simp [Builtin.max2, ho, hc]
  · refine ⟨x, by rw [Int.max_eq_left (by omega)]; exact hx, fun w => ?_⟩
    have hc : compare a b = .gt := by
      have h1 : ¬ a < b := by omega
      have h2 : ¬ a = b := by omega
      simp [compare, compareOfLessAndEq, h1, h2]
    simp [Builtin.max2, ho, hc]
end
theorem run_fneg {P : Program} (k : FloatKind) (x : Nat) (w : World) : (Op.unary .neg (.float k x)).run P w = .ok (.float k (Op.negFloat k x)) w := rfl
theorem floatEq_int {k : FloatKind} {x y : Nat} {a b : Int} (hx : FInt k x a) (hy : FInt k y b) : Op.floatEq k x y = decide (a = b) := by
  unfold Op.floatEq
  rw [hx.order hy, ord_eq]
theorem FInt.zero32 : FInt .f32 0 0 := (by decide +kernel : floatOfInt .f32 0 = 0) ▸ FInt.ofInt32 (n := 0) (by decide)
theorem FInt.zero64 : FInt .f64 0 0 := (by decide +kernel : floatOfInt .f64 0 = 0) ▸ FInt.ofInt (n := 0) (by decide)
end Go.Proofs.Ab
end
section
/- Panels whose parts are integers. -/
set_option maxRecDepth 100000
set_option linter.unusedVariables false
set_option linter.unusedSimpArgs false
namespace Go.Proofs.Ab.Tone
open Go Go.RowKit Go.Proofs.Ab
theorem f40 : FInt .f64 4787326403894837248 1099511627776 := (by decide +kernel : floatOfInt .f64 1099511627776 = 4787326403894837248) ▸ FInt.ofInt (n := 1099511627776) (by decide)
theorem fmost : FInt .f64 4675730371722084352 40000 := (by decide +kernel : floatOfInt .f64 40000 = 4675730371722084352) ▸ FInt.ofInt (n := 40000) (by decide)
theorem fleast : FInt .f64 13899102408576860160 (-40000) := (by decide +kernel : floatOfInt .f64 (-40000) = 13899102408576860160) ▸ FInt.ofInt (n := -40000) (by decide)
abbrev fp (x : Nat) : PV := .v (.float .f32 x)
abbrev cz (x y : Nat) : PV := .v (.complex .f32 x y)
theorem checkPart_pure {x : Nat} {n : Int} (hx : FInt .f32 x n) (hn : n.natAbs < 16777216) : APure C 183 [fp x] (I (within n (-40000) 40000)) := by
  obtain ⟨y, hy, fy⟩ := hx.wide (by omega)
  obtain ⟨z, hz, fz⟩ := fy.sub fy (by omega)
  have fng := fy.neg
  obtain ⟨m, fm, hm⟩ := run_fmax (P := C.P) fy fng
  have hi := fy.int (by omega) (by omega)
  have fo := FInt.ofInt (n := n) (by omega)
  have c1 : ∀ w, (binOp .neq 227 (.float .f64 z) (.float .f64 0)).run C.P w = .ok (.bool false) w := fun w => by
    rw [run_fneq fz FInt.zero64 227 w]; simp
  have c2 : ∀ w, (binOp .lss 227 (.float .f64 m) (.float .f64 4787326403894837248)).run C.P w = .ok (.bool true) w := fun w => by
    rw [run_flss fm f40 227 w]
    have : max n (-n) < 1099511627776 := by omega
    simp [this]
  have c3 : ∀ w, (binOp .neq 227 (.float .f64 (floatOfInt .f64 n)) (.float .f64 y)).run C.P w = .ok (.bool false) w := fun w => by
    rw [run_fneq fo fy 227 w]; simp
  refine APure.of_body good [] (fn := Tryz.f183) (by kernel_rfl) (by kernel_rfl) rfl rfl (by kernel_rfl) rfl (by kernel_rfl) ?_
  conv => whnf
  repeat' (first
    | (refine codeK_sound good (mu := []) ?_; conv => whnf)
    | ((first | rw [wl0] | rw [wl1] | rw [wl2] | rw [wl3] | rw [wl4] | rw [wl5]); conv => whnf)
    | (refine SBool.mk (fun _ => ?_) (fun h => absurd (of_decide_eq_true rfl) h); conv => whnf)
    | (refine SBool.mk (fun h => absurd h (of_decide_eq_false rfl)) (fun _ => ?_); conv => whnf)
    | (refine SBool.mk (fun h => ?_) (fun h => ?_) <;> conv => whnf)
    | (refine SEx.mk _ (by first | exact (fun w => run_convert_float_float w 125 227 .f32 .f64 x y (by kernel_rfl) (by kernel_rfl) hy) | exact (fun w => run_float_arith w .sub 227 .f64 y y z hz) | exact c1 | exact (fun w => run_fneg .f64 y w) | exact hm | exact c2 | exact (fun w => run_convert_float_int w 227 3 .f64 .i64 y n (by kernel_rfl) (by kernel_rfl) hi) | exact (fun w => run_convert_int_float w 3 227 .i64 .f64 n (by kernel_rfl) (by kernel_rfl)) | exact c3 | exact (fun w => run_fgtr fy fmost 227 w) | exact (fun w => run_flss fy fleast 227 w) | exact when_pure _ _) ?_; conv => whnf)
    | (refine SEx.mk _ (by first | exact rfl | exact ⟨of_decide_eq_true rfl, rfl⟩) ?_; conv => whnf)
    | (refine SAll.mk (fun _ => ?_); conv => whnf)
    | (refine SAnd.mk (by first | exact hm) ?_; conv => whnf)
    | (refine SAnd.mk ⟨by intro c hc; simp at hc; first | (subst hc; rfl) | ((repeat' (rcases hc with rfl | hc)) <;> first | rfl | (subst hc; rfl)), by (simp; first | done | omega), by (simp; first | done | omega)⟩ ?_; conv => whnf)
    | (refine SAnd.mk (by first | exact rfl | kernel_rfl | omega | decide | exact (fun w => run_convert_float_float w 125 227 .f32 .f64 x y (by kernel_rfl) (by kernel_rfl) hy) | exact (fun w => run_float_arith w .sub 227 .f64 y y z hz) | exact c1 | exact (fun w => run_fneg .f64 y w) | exact hm | exact c2 | exact (fun w => run_convert_float_int w 227 3 .f64 .i64 y n (by kernel_rfl) (by kernel_rfl) hi) | exact (fun w => run_convert_int_float w 3 227 .i64 .f64 n (by kernel_rfl) (by kernel_rfl)) | exact c3 | exact (fun w => run_fgtr fy fmost 227 w) | exact (fun w => run_flss fy fleast 227 w) | exact when_pure _ _) ?_; conv => whnf)
    | fail)
  all_goals simp only [decide_eq_true_eq] at *
  all_goals first
    | exact ⟨PLe.of_eq (by rw [show within n (-40000) 40000 = 3 from if_pos (by omega)]; rfl)⟩
    | exact ⟨PLe.of_eq (by rw [show within n (-40000) 40000 = 0 from if_neg (by omega)]; rfl)⟩
/-- Four samples that stand for complex integers. -/
structure FG (x y : Nat) (a : G) : Prop where
  re : FInt .f32 x a.re
  im : FInt .f32 y a.im
structure Pn where
  x0 : Nat
  y0 : Nat
  x1 : Nat
  y1 : Nat
  x2 : Nat
  y2 : Nat
  x3 : Nat
  y3 : Nat
  a0 : G
  a1 : G
  a2 : G
  a3 : G
abbrev pc (p : Pn) : List PV := [cz p.x0 p.y0, cz p.x1 p.y1, cz p.x2 p.y2, cz p.x3 p.y3]
abbrev p4 (p : Pn) : List PV := [I p.a0.re, I p.a0.im, I p.a1.re, I p.a1.im, I p.a2.re, I p.a2.im, I p.a3.re, I p.a3.im]
structure Pn.Is (p : Pn) : Prop where
  g0 : FG p.x0 p.y0 p.a0
  g1 : FG p.x1 p.y1 p.a1
  g2 : FG p.x2 p.y2 p.a2
  g3 : FG p.x3 p.y3 p.a3
  f0 : p.a0.Fit 1000000
  f1 : p.a1.Fit 1000000
  f2 : p.a2.Fit 1000000
  f3 : p.a3.Fit 1000000
def sampE (a : G) : Int := firstOf [within a.re (-40000) 40000, within a.im (-40000) 40000]
theorem checkPanel1_pure {x y : Nat} {a : G} (h : FG x y a) (hf : a.Fit 1000000) : APure C 182 [cz x y] (I (sampE a)) := by
  have h1 := hf.re; have h2 := hf.im
  refine APure.of_body good [] (fn := Tryz.f182) (by kernel_rfl) (by kernel_rfl) rfl rfl (by kernel_rfl) rfl (by kernel_rfl) ?_
  conv => whnf
  repeat' (first
    | (refine codeK_sound good (mu := []) ?_; conv => whnf)
    | ((first | rw [wl0] | rw [wl1] | rw [wl2] | rw [wl3] | rw [wl4] | rw [wl5]); conv => whnf)
    | (refine SBool.mk (fun _ => ?_) (fun h => absurd (of_decide_eq_true rfl) h); conv => whnf)
    | (refine SBool.mk (fun h => absurd h (of_decide_eq_false rfl)) (fun _ => ?_); conv => whnf)
    | (refine SBool.mk (fun h => ?_) (fun h => ?_) <;> conv => whnf)
    | (refine SEx.mk _ (by first | exact checkPart_pure h.re (by omega) | exact checkPart_pure h.im (by omega) | exact first2_pure _ _) ?_; conv => whnf)
    | (refine SEx.mk _ (by first | exact rfl | exact ⟨of_decide_eq_true rfl, rfl⟩) ?_; conv => whnf)
    | (refine SAll.mk (fun _ => ?_); conv => whnf)
    | (refine SAnd.mk ⟨by intro c hc; simp at hc; first | (subst hc; rfl) | ((repeat' (rcases hc with rfl | hc)) <;> first | rfl | (subst hc; rfl)), by (simp; first | done | omega), by (simp; first | done | omega)⟩ ?_; conv => whnf)
    | (refine SAnd.mk (by first | exact rfl | kernel_rfl | omega | decide | exact checkPart_pure h.re (by omega) | exact checkPart_pure h.im (by omega) | exact first2_pure _ _) ?_; conv => whnf)
    | fail)
  exact ⟨PLe.refl _⟩
def panelE (p : Pn) : Int := firstOf [sampE p.a0, sampE p.a1, sampE p.a2, sampE p.a3]
theorem checkPanel_pure (p : Pn) (h : p.Is) : APure C 147 [.agg (pc p)] (I (panelE p)) := by
  have m : APure C 181 [.seq 1 [[cz p.x0 p.y0], [cz p.x1 p.y1], [cz p.x2 p.y2], [cz p.x3 p.y3]], .fn 182 []] (.seq 1 [[I (sampE p.a0)], [I (sampE p.a1)], [I (sampE p.a2)], [I (sampE p.a3)]]) := by
    refine APure.of_body good [] (fn := Tryz.f181) (by kernel_rfl) (by kernel_rfl) rfl rfl (by kernel_rfl) rfl (by kernel_rfl) ?_
    conv => whnf
    repeat' (first
      | (refine codeK_sound good (mu := []) ?_; conv => whnf)
      | ((first | rw [wl0] | rw [wl1] | rw [wl2] | rw [wl3] | rw [wl4] | rw [wl5]); conv => whnf)
      | (refine SBool.mk (fun _ => ?_) (fun h => absurd (of_decide_eq_true rfl) h); conv => whnf)
      | (refine SBool.mk (fun h => absurd h (of_decide_eq_false rfl)) (fun _ => ?_); conv => whnf)
      | (refine SBool.mk (fun h => ?_) (fun h => ?_) <;> conv => whnf)
      | refine SCode.mk (AWp.rounds 5 ?_)
      | (refine SEx.mk _ (by first | exact checkPanel1_pure h.g0 h.f0 | exact checkPanel1_pure h.g1 h.f1 | exact checkPanel1_pure h.g2 h.f2 | exact checkPanel1_pure h.g3 h.f3) ?_; conv => whnf)
      | (refine SEx.mk _ (by first | exact rfl | exact ⟨of_decide_eq_true rfl, rfl⟩) ?_; conv => whnf)
      | (refine SAll.mk (fun _ => ?_); conv => whnf)
      | (refine SAnd.mk ⟨by intro c hc; simp at hc; first | (subst hc; rfl) | ((repeat' (rcases hc with rfl | hc)) <;> first | rfl | (subst hc; rfl)), by (simp; first | done | omega), by (simp; first | done | omega)⟩ ?_; conv => whnf)
      | (refine SAnd.mk (by first | exact rfl | kernel_rfl | omega | decide | exact checkPanel1_pure h.g0 h.f0 | exact checkPanel1_pure h.g1 h.f1 | exact checkPanel1_pure h.g2 h.f2 | exact checkPanel1_pure h.g3 h.f3) ?_; conv => whnf)
      | fail)
    all_goals exact ⟨PLe.refl _⟩
  refine APure.of_body good [] (fn := Tryz.f147) (by kernel_rfl) (by kernel_rfl) rfl rfl (by kernel_rfl) rfl (by kernel_rfl) ?_
  conv => whnf
  repeat' (first
    | (refine codeK_sound good (mu := []) ?_; conv => whnf)
    | ((first | rw [wl0] | rw [wl1] | rw [wl2] | rw [wl3] | rw [wl4] | rw [wl5]); conv => whnf)
    | (refine SBool.mk (fun _ => ?_) (fun h => absurd (of_decide_eq_true rfl) h); conv => whnf)
    | (refine SBool.mk (fun h => absurd h (of_decide_eq_false rfl)) (fun _ => ?_); conv => whnf)
    | (refine SBool.mk (fun h => ?_) (fun h => ?_) <;> conv => whnf)
    | (refine SEx.mk _ (by first | exact m | exact first4_pure _ _ _ _) ?_; conv => whnf)
    | (refine SEx.mk _ (by first | exact rfl | exact ⟨of_decide_eq_true rfl, rfl⟩) ?_; conv => whnf)
    | (refine SAll.mk (fun _ => ?_); conv => whnf)
    | (refine SAnd.mk ⟨by intro c hc; simp at hc; first | (subst hc; rfl) | ((repeat' (rcases hc with rfl | hc)) <;> first | rfl | (subst hc; rfl)), by (simp; first | done | omega), by (simp; first | done | omega)⟩ ?_; conv => whnf)
    | (refine SAnd.mk (by first | exact rfl | kernel_rfl | omega | decide | exact m | exact first4_pure _ _ _ _) ?_; conv => whnf)
    | fail)
  exact ⟨PLe.refl _⟩
theorem nothing_pure : APure C 148 [] (.agg [zc, zc, zc, zc]) := by
  refine APure.of_body good [] (fn := Tryz.f148) (by kernel_rfl) (by kernel_rfl) rfl rfl (by kernel_rfl) rfl (by kernel_rfl) ?_
  conv => whnf
  repeat' (first
    | (refine codeK_sound good (mu := []) ?_; conv => whnf)
    | ((first | rw [wl0] | rw [wl1] | rw [wl2] | rw [wl3] | rw [wl4] | rw [wl5]); conv => whnf)
    | (refine SBool.mk (fun _ => ?_) (fun h => absurd (of_decide_eq_true rfl) h); conv => whnf)
    | (refine SBool.mk (fun h => absurd h (of_decide_eq_false rfl)) (fun _ => ?_); conv => whnf)
    | (refine SBool.mk (fun h => ?_) (fun h => ?_) <;> conv => whnf)
    | (refine SEx.mk _ (by first | exact rfl | exact ⟨of_decide_eq_true rfl, rfl⟩) ?_; conv => whnf)
    | (refine SAll.mk (fun _ => ?_); conv => whnf)
    | (refine SAnd.mk ⟨by intro c hc; simp at hc; first | (subst hc; rfl) | ((repeat' (rcases hc with rfl | hc)) <;> first | rfl | (subst hc; rfl)), by (simp; first | done | omega), by (simp; first | done | omega)⟩ ?_; conv => whnf)
    | (refine SAnd.mk (by first | exact rfl | kernel_rfl | omega | decide) ?_; conv => whnf)
    | fail)
  exact ⟨PLe.refl _⟩
end Go.Proofs.Ab.Tone
end
