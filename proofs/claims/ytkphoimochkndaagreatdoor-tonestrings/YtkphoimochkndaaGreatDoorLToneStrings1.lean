/- The proof of ToneStrings (see the last theorem): for every input that can be read the law returns true; the listed package-level variables are as the program's text lays them. -/
import Derived.Test.YtkphoimochkndaaGreatDoorK6
section
/- A body that is cut into pieces. -/
set_option linter.unusedVariables false
set_option linter.unusedSimpArgs false
namespace Go.Proofs.Ab
open Go Go.RowKit

/-- Where the evaluation is cut. -/
structure SCut (p : Prop) : Prop where
  h : p
/-- The code up to its n-th piece; from there on, what the rest comes to. -/
def codeN (C : Cx) (nt : Nat) (mu : List Nat) : Nat → Code → AS → (Out → AS → Prop) → Prop
  | 0, c, s, Q => SCut (AWp C nt c Q s)
  | n + 1, .seq c d, s, Q => codeK C nt mu c s fun e s' => match e with
    | .normal => codeN C nt mu n d s' Q
    | e => Q e s'
  | _ + 1, c, s, Q => codeK C nt mu c s Q
theorem codeN_sound {C : Cx} {nt : Nat} (hC : C.Good) {mu : List Nat} : ∀ {n : Nat} {c : Code} {s : AS} {Q : Out → AS → Prop}, codeN C nt mu n c s Q → AWp C nt c Q s
  | 0, c, s, Q, h => h.h
  | n + 1, .seq c d, s, Q, h => .seq ((codeK_sound hC (mu := mu) h).mono fun e s' hq => by
      cases e with
      | normal => exact codeN_sound hC hq
      | ret => exact hq
      | exit i => exact hq)
  | n + 1, .skip, s, Q, h => codeK_sound hC h
  | n + 1, .region _ _ _, s, Q, h => codeK_sound hC h
  | n + 1, .cond _ _ _, s, Q, h => codeK_sound hC h
  | n + 1, .block _ _, s, Q, h => codeK_sound hC h
  | n + 1, .exit _, s, Q, h => codeK_sound hC h
  | n + 1, .ret, s, Q, h => codeK_sound hC h
  | n + 1, .loop _, s, Q, h => codeK_sound hC h
  | n + 1, .rangeFunc _ _ _ _, s, Q, h => codeK_sound hC h
  | n + 1, .scope _, s, Q, h => codeK_sound hC h
  | n + 1, .label _, s, Q, h => codeK_sound hC h
  | n + 1, .goto _, s, Q, h => codeK_sound hC h
  | n + 1, .refuse _, s, Q, h => codeK_sound hC h
/-- A contract, out of what the body's code comes to. -/
theorem APure.of_wp {C : Cx} (hC : C.Good) {f : FuncId} {fn : Func} {c : Code} {rs : List ResultVar} {nt : Nat} {xs : List PV} {v : PV} (hf : C.P.funcs[f]? = some fn) (hn : (fn.name == "runtime.NumGoroutine") = false) (hb : fn.body = some c)
    (hnt : fn.ntmps = nt) (hx : Nat.ble xs.length nt = true) (hrs : fn.results = rs.toArray) (hl : Nat.ble rs.length 4 = true)
    (h : AWp C nt c (fun e s => match e with | .exit _ => False | _ => endK C rs s v) (initS xs)) : APure C f xs v := by
  refine ⟨⟨fn, c, hf, hn, hb⟩, fun w ok us hlt hg hr => ?_⟩
  refine (callsIn_wide (n := 0)).1 (callsIn_of_wp_marks hf hb trivial ?_)
  have hxl : us.length ≤ nt := by rw [hr.1]; exact Nat.le_of_ble_eq_true hx
  have hS : Sat C nt (initS xs) w.heap.size ⟨ok, fun _ => undef⟩ w { tmps := us.toArray ++ Array.replicate (fn.ntmps - us.toArray.size) undef, defers := [] } w ⟨ok, fun _ => none, fun _ => none⟩ := by
    refine ⟨rfl, by simp [hnt]; omega, fun t v ht => ?_, ⟨fun n T cs hn => (by cases hn), fun n e sz xs hn => (by cases hn), fun n o hn => (by cases hn)⟩, fun n m x y g hn => (by cases hn), fun n m x y g v hn => (by cases hn), fun n m x y g v v' hn => (by cases hn), fun n _ => ⟨rfl, rfl⟩, hlt, fun b hb => .inl hb, fun b hb => hb, rfl, Below.refl _ _, hg, fun t v ht => (by cases ht), ⟨fun n m x y hn => (nomatch hn), fun n m x y hn => (nomatch hn), fun n m x y v hn => (nomatch hn)⟩⟩
    obtain ⟨j, x, rfl, hj, rfl⟩ := initFr_look ht
    have hjl : j < us.length := by rw [hr.1]; exact (List.getElem?_eq_some_iff.1 hj).1
    rw [Nat.zero_add]
    refine ⟨by omega, ?_⟩
    have : (us.toArray ++ Array.replicate (fn.ntmps - us.toArray.size) undef).getD j undef = us[j] := by
      have h1 : j < us.length + (fn.ntmps - us.length) := by omega
      simp [Array.getD, h1, Array.getElem_append, hjl]
    simp only [this]
    exact hr.2 j x us[j] hj (List.getElem?_eq_getElem hjl)
  have hFW : FW C Fence.wide := ⟨fun _ => trivial, rfl, rfl, fun _ => rfl⟩
  refine h.wp Fence.wide 0 hFW _ _ w _ w _ _ hS (fun e s a w' E hq hS' => ?_)
  have fin : endK C rs s v → LeavesInM Fence.wide 0 C.P fn a.tmps (fun e w' => ∃ u, e = .returned u ∧ Below w.heap.size w w' ∧ Rep w' (grow ok w w') v u) a.defers .returning w' := by
    intro hq
    obtain ⟨s1, hq, h1⟩ := sealOpsK_sound (C := C) (nt := nt) hq
    obtain ⟨s2, hq, h2⟩ := freezeOpsK_sound (C := C) (nt := nt) hq
    obtain ⟨E1, hS1⟩ := h1 hS'
    obtain ⟨E2, hS2⟩ := h2 hS1
    rw [hS2.defs]
    refine leaveK_sound (s := s2) (K := fun o' => resK C { s2 with ob := o' } rs fun xs => match xs with
      | [x] => SEnd x v
      | xs => SEnd (.tup xs) v) hq hS2 (fun ob' w' hq hS2 => ?_)
    obtain ⟨ys, hq, hyl, hys⟩ := resK_sound (nt := nt) hC hq
    obtain ⟨vs, hrv, ho⟩ := hys hS2
    refine ⟨_, results_run hrs (Nat.le_of_ble_eq_true hl) ho, _, rfl, hS2.below, ?_⟩
    have hgr : ∀ b, E2.ok b → grow ok w w' b := fun b hb => by
      rcases hS2.ok_from b hb with h | h
      · exact .inl h
      · exact .inr ⟨h, hS2.ok_lt b hb⟩
    have hrv' : RepL w' (grow ok w w') ys vs := hrv.ext hgr (fun _ _ => rfl)
    have hvl := hrv.1
    split at hq
    · rename_i x
      obtain ⟨u, us', rfl, hu, hn⟩ := hrv'.uncons
      obtain rfl := hn.unnil
      exact hq.h _ _ _ hu
    · rename_i hne
      have : Rep w' (grow ok w w') (.tup ys) (.tuple vs.toArray) := .tup ys vs hrv'.1 hrv'.2
      split
      · rename_i u
        obtain ⟨y, rfl⟩ : ∃ y, ys = [y] := List.length_eq_one_iff.1 (by simpa using hvl.symm)
        exact absurd rfl (hne y)
      · exact hq.h _ _ _ this
  cases e with
  | normal => exact fin hq
  | ret => exact fin hq
  | exit i => exact hq.elim

end Go.Proofs.Ab
end
section
/- The reference's digits and signed numbers. -/
set_option maxRecDepth 100000
set_option linter.unusedVariables false
set_option linter.unusedSimpArgs false
namespace Go.Proofs.Ab.Tone2
open Go Go.RowKit Go.Proofs.Ab Go.Proofs.Ab.Tone
noncomputable def c207 : Code := Tryz.f207.body.getD .skip
abbrev endV (m : Int) (rs : List ResultVar) (v : PV) : Out → AS → Prop := fun e s => match e with
  | .exit _ => False
  | _ => endK (C m) rs s v
theorem byte_at {l : List UInt8} {k : Nat} (h : k < l.length) : byteAt ⟨l.toArray⟩ ((k : Int)).toNat = (l[k].toNat : Int) := by
  show byteAt ⟨l.toArray⟩ k = _
  have hs : k < (⟨l.toArray⟩ : ByteArray).size := by simpa [ByteArray.size] using h
  unfold byteAt
  rw [getElem?_pos (⟨l.toArray⟩ : ByteArray) k hs]
  rfl
theorem dig_loop {m : Int} (l : List UInt8) (h9 : l.length ≤ 9) (hv : intV l false = if ∀ c ∈ l, dig c then (digV l, true) else (0, false)) : AWp (C m) Tryz.f207.ntmps (codeAt [1,1,1] c207) (endV m [ResultVar.tmp 2, ResultVar.tmp 3] (.tup [I (intV l false).1, Bo (intV l false).2])) ⟨[(0, .p (St ⟨l.toArray⟩)), (4, .p (I 0))], [], [], 0, [], [], []⟩ := by
  have hbs : (⟨l.toArray⟩ : ByteArray).size = l.length := by simp [ByteArray.size]
  refine codeK_sound good (mu := []) ?_
  conv => whnf
  refine ⟨AWp.loop (ι := { k : Nat // k ≤ l.length ∧ (∀ c ∈ l.take k, dig c) }) (fun k => ⟨[(0, .p (St ⟨l.toArray⟩)), (4, .p (I (digV (l.take k.1)))), (5, .p (I k.1))], [], [], 0, [], [], []⟩) (fun k => l.length - k.1) ⟨0, by simp, by simp⟩ ?_ ?_⟩
  · skip
    · refine SLe.of [] [] rfl rfl ?_
      conv => whnf
      repeat' (first
      | exact True.intro
      | (refine SAnd.mk (PLe.of_eq (by simp only [wrapK]; rw [wrap_id (by first | omega | (simp only; done) | (simp only; omega) | simp) (by first | omega | (simp only; done) | (simp only; omega) | simp)]; simp)) ?_; conv => whnf)
      | (refine SAnd.mk (PLe.refl _) ?_; conv => whnf)
      | (refine SAnd.mk (PLeL.refl _) ?_; conv => whnf)
      | (refine SAnd.mk (PLe.of_eq (by simp)) ?_; conv => whnf)
      | (refine SAnd.mk rfl ?_; conv => whnf)
      | (refine SAnd.mk ⟨rfl, rfl⟩ ?_; conv => whnf)
      | (refine SAnd.mk ⟨rfl, rfl, rfl⟩ ?_; conv => whnf))
  · rintro ⟨k, hk, hd⟩
    refine codeK_sound good (mu := []) ?_
    conv => whnf
    refine SBool.mk (fun hc => ?_) (fun hc => ?_)
    · have hc' : (k : Int) < (((⟨l.toArray⟩ : ByteArray).size : Nat) : Int) := hc
      rw [hbs] at hc'
      have hkl : k < l.length := by omega
      have hs0 : (0 : Int) ≤ (k : Int) ∧ (k : Int) < ((⟨l.toArray⟩ : ByteArray).size : Int) := ⟨by omega, by rw [hbs]; omega⟩
      have hby := byte_at hkl
      have hbd := digV_bound k l hd hk
      have hp : 10 ^ k ≤ 10 ^ 8 := Nat.pow_le_pow_right (by decide) (by omega)
      have wk : wrapK IntKind.i64 ((k : Int) + 1) = k + 1 := w64 (by omega)
      have hc255 : l[k].toNat ≤ 255 := by have := l[k].toNat_lt; omega
      have hbad : ¬ dig l[k] → intV l false = (0, false) := fun h => by rw [hv, if_neg (fun h' => h (h' _ (List.getElem_mem hkl)))]
      have hw : dig l[k] → wrapK IntKind.i64 (wrapK IntKind.i64 (10 * digV (l.take k)) + wrapK IntKind.i64 (wrapK IntKind.u8 ((l[k].toNat : Int) - 48))) = digV (l.take (k + 1)) := fun hdk => by
        have h1 := hdk.1
        have h2 := hdk.2
        have e0 : wrapK IntKind.u8 ((l[k].toNat : Int) - 48) = (l[k].toNat : Int) - 48 := IntWalk.u8_in _ (by omega)
        have e1 : wrapK IntKind.i64 (10 * digV (l.take k)) = 10 * digV (l.take k) := w64 (by omega)
        have e2 : wrapK IntKind.i64 ((l[k].toNat : Int) - 48) = (l[k].toNat : Int) - 48 := w64 (by omega)
        rw [digV_succ l hkl, e0, e1, e2]
        exact w64 (by omega)
      have hds : dig l[k] → ∀ c ∈ l.take (k + 1), dig c := fun hdk c hc => by
        rw [List.take_succ_eq_append_getElem hkl] at hc
        rcases List.mem_append.1 hc with hc | hc
        · exact hd c hc
        · simp at hc
          rw [hc]
          exact hdk
      have m1 : k + 1 ≤ l.length := hkl
      have m2 : l.length - (k + 1) < l.length - k := by omega
      conv => whnf
      conv => whnf
      repeat' (first
        | (refine codeK_sound good (mu := []) ?_; conv => whnf)
        | ((first | rw [wl0] | rw [wl1] | rw [wl2] | rw [wl3] | rw [wl4] | rw [wl5]); conv => whnf)
        | (rw [wk]; conv => whnf)
        | (rw [hby]; conv => whnf)
        | (refine SBool.mk (fun _ => ?_) (fun h => absurd (of_decide_eq_true rfl) h); conv => whnf)
        | (refine SBool.mk (fun h => absurd h (of_decide_eq_false rfl)) (fun _ => ?_); conv => whnf)
        | (refine SBool.mk (fun h => ?_) (fun h => ?_) <;> conv => whnf)
        | (refine SEx.mk _ (by first | exact hs0) ?_; conv => whnf)
        | (refine SEx.mk _ (by first | exact rfl | exact ⟨of_decide_eq_true rfl, rfl⟩) ?_; conv => whnf)
        | (refine SAll.mk (fun _ => ?_); conv => whnf)
        | (refine SAnd.mk (by first | exact hs0) ?_; conv => whnf)
        | (refine SAnd.mk ⟨by intro c hc; simp at hc; first | (subst hc; rfl) | ((repeat' (rcases hc with rfl | hc)) <;> first | rfl | (subst hc; rfl)), by (simp; first | done | omega), by (simp; first | done | omega)⟩ ?_; conv => whnf)
        | (refine SAnd.mk (by first | exact rfl | kernel_rfl | omega | decide | exact hs0) ?_; conv => whnf)
        | fail)
      · have hx : (l[k].toNat : Int) < 48 := h
        exact ⟨PLe.of_eq (by rw [hbad (fun hd => by have := hd.1; omega)])⟩
      · have hx : 57 < (l[k].toNat : Int) := h
        exact ⟨PLe.of_eq (by rw [hbad (fun hd => by have := hd.2; omega)])⟩
      · rename_i h1
        have h1 : ¬ (l[k].toNat : Int) < 48 := h1
        have h2 : ¬ 57 < (l[k].toNat : Int) := h
        have hdk : dig l[k] := ⟨by clear hw hc hby wk; omega, by clear hw hc hby wk; omega⟩
        refine ⟨⟨k + 1, m1, hds hdk⟩, m2, ?_⟩
        have hw := hw hdk
        skip
        · refine SLe.of [] [] rfl rfl ?_
          conv => whnf
          repeat' (first
          | exact True.intro
          | (refine SAnd.mk (PLe.of_eq (congrArg I hw)) ?_; conv => whnf)
          | (refine SAnd.mk (PLe.of_eq (by simp only [wrapK]; rw [wrap_id (by first | omega | (simp only; done) | (simp only; omega) | simp) (by first | omega | (simp only; done) | (simp only; omega) | simp)]; simp)) ?_; conv => whnf)
          | (refine SAnd.mk (PLe.refl _) ?_; conv => whnf)
          | (refine SAnd.mk (PLeL.refl _) ?_; conv => whnf)
          | (refine SAnd.mk (PLe.of_eq (by simp)) ?_; conv => whnf)
          | (refine SAnd.mk rfl ?_; conv => whnf)
          | (refine SAnd.mk ⟨rfl, rfl⟩ ?_; conv => whnf)
          | (refine SAnd.mk ⟨rfl, rfl, rfl⟩ ?_; conv => whnf))
    · conv => whnf
      have : k = l.length := by
        have hc' : ¬ (k : Int) < (((⟨l.toArray⟩ : ByteArray).size : Nat) : Int) := hc
        rw [hbs] at hc'
        omega
      subst this
      rw [List.take_length] at hd
      exact ⟨PLe.of_eq (by rw [hv, if_pos hd, List.take_length])⟩
theorem Digits_pure {m : Int} (l : List UInt8) : APure (C m) 207 [St ⟨l.toArray⟩] (.tup [I (intV l false).1, Bo (intV l false).2]) := by
  have hbs : (⟨l.toArray⟩ : ByteArray).size = l.length := by simp [ByteArray.size]
  rcases l with _ | ⟨c, l⟩
  · refine APure.of_body good [] (fn := Tryz.f207) (by kernel_rfl) (by kernel_rfl) rfl rfl (by kernel_rfl) rfl (by kernel_rfl) ?_
    conv => whnf
    repeat' (first
      | (refine codeK_sound good (mu := []) ?_; conv => whnf)
      | ((first | rw [wl0] | rw [wl1] | rw [wl2] | rw [wl3] | rw [wl4] | rw [wl5]); conv => whnf)
      | (refine SBool.mk (fun _ => ?_) (fun h => absurd (of_decide_eq_true rfl) h); conv => whnf)
      | (refine SBool.mk (fun h => absurd h (of_decide_eq_false rfl)) (fun _ => ?_); conv => whnf)
      | (refine SBool.mk (fun h => ?_) (fun h => ?_) <;> conv => whnf)
      | (refine SEx.mk _ (by first | exact eql_string _ _ _) ?_; conv => whnf)
      | (refine SEx.mk _ (by first | exact rfl | exact ⟨of_decide_eq_true rfl, rfl⟩) ?_; conv => whnf)
      | (refine SAll.mk (fun _ => ?_); conv => whnf)
      | (refine SAnd.mk ⟨by intro c hc; simp at hc; first | (subst hc; rfl) | ((repeat' (rcases hc with rfl | hc)) <;> first | rfl | (subst hc; rfl)), by (simp; first | done | omega), by (simp; first | done | omega)⟩ ?_; conv => whnf)
      | (refine SAnd.mk (by first | exact rfl | kernel_rfl | omega | decide | exact eql_string _ _ _) ?_; conv => whnf)
      | fail)
    exact ⟨PLe.of_eq (by simp [intV])⟩
  · have hne : decide ((⟨(c :: l).toArray⟩ : ByteArray) = ⟨#[]⟩) = false := decide_eq_false (fun e => by injection e with e; simp at e)
    have heq : ∀ w, (binOp .eql 9 (.string ⟨(c :: l).toArray⟩) (.string ⟨#[]⟩)).run (C m).P w = .ok (.bool false) w := fun w => by
      have := eql_string 9 ⟨(c :: l).toArray⟩ ⟨#[]⟩ w
      rw [hne] at this
      exact this
    have hs0 : (0 : Int) ≤ 0 ∧ (0 : Int) < ((⟨(c :: l).toArray⟩ : ByteArray).size : Int) := ⟨by omega, by rw [hbs]; simp only [List.length_cons]; omega⟩
    have hby : byteAt ⟨(c :: l).toArray⟩ (Int.toNat 0) = (c.toNat : Int) := rfl
    have b9 : 9 < (((⟨(c :: l).toArray⟩ : ByteArray).size : Nat) : Int) → intV (c :: l) false = (0, false) := fun h => by
      rw [hbs] at h
      unfold intV
      rw [if_neg (fun ⟨_, h2, _⟩ => by omega)]
    have bz : 1 < (((⟨(c :: l).toArray⟩ : ByteArray).size : Nat) : Int) → (c.toNat : Int) = 48 → intV (c :: l) false = (0, false) := fun h hc => by
      rw [hbs] at h
      unfold intV
      have hc48 : c = 48 := UInt8.toNat_inj.1 (by simpa using (by omega : c.toNat = 48))
      rw [if_neg (fun ⟨_, _, _, h4⟩ => h4 ⟨by simp [hc48], .inl (by omega)⟩)]
    have go : ¬ 9 < (((⟨(c :: l).toArray⟩ : ByteArray).size : Nat) : Int) → ¬ (1 < (((⟨(c :: l).toArray⟩ : ByteArray).size : Nat) : Int) ∧ (c.toNat : Int) = 48) →
        AWp (C m) Tryz.f207.ntmps (codeAt [1,1,1] c207) (endV m [ResultVar.tmp 2, ResultVar.tmp 3] (.tup [I (intV (c :: l) false).1, Bo (intV (c :: l) false).2])) ⟨[(0, .p (St ⟨(c :: l).toArray⟩)), (4, .p (I 0))], [], [], 0, [], [], []⟩ := fun h1 h2 => by
      rw [hbs] at h1 h2
      refine dig_loop (c :: l) (by omega) ?_
      unfold intV
      by_cases ha : ∀ x ∈ c :: l, dig x
      · have hx : ¬ ((c :: l).head? = some 48 ∧ (1 < (c :: l).length ∨ false = true)) := fun h => by
          have h3 := h.1
          simp only [List.head?_cons, Option.some.injEq] at h3
          have h4 : 1 < (c :: l).length := by
            rcases h.2 with h4 | h4
            · exact h4
            · cases h4
          exact h2 ⟨by omega, by rw [h3]; rfl⟩
        rw [if_pos ha, if_pos ⟨ha, by omega, by simp, hx⟩]
        rfl
      · rw [if_neg ha, if_neg (fun h => ha h.1)]
    refine APure.of_wp good (fn := Tryz.f207) (by kernel_rfl) (by kernel_rfl) rfl rfl (by kernel_rfl) rfl (by kernel_rfl) ?_
    refine codeN_sound good (mu := []) (n := 3) ?_
    conv => whnf
    repeat' (first
      | (refine codeK_sound good (mu := []) ?_; conv => whnf)
      | ((first | rw [wl0] | rw [wl1] | rw [wl2] | rw [wl3] | rw [wl4] | rw [wl5]); conv => whnf)
      | (rw [hby]; conv => whnf)
      | (refine SBool.mk (fun _ => ?_) (fun h => absurd (of_decide_eq_true rfl) h); conv => whnf)
      | (refine SBool.mk (fun h => absurd h (of_decide_eq_false rfl)) (fun _ => ?_); conv => whnf)
      | (refine SBool.mk (fun h => ?_) (fun h => ?_) <;> conv => whnf)
      | (refine SEx.mk _ (by first | exact heq | exact hs0) ?_; conv => whnf)
      | (refine SEx.mk _ (by first | exact rfl | exact ⟨of_decide_eq_true rfl, rfl⟩) ?_; conv => whnf)
      | (refine SAll.mk (fun _ => ?_); conv => whnf)
      | (refine SAnd.mk (by first | exact heq | exact hs0) ?_; conv => whnf)
      | (refine SAnd.mk ⟨by intro c hc; simp at hc; first | (subst hc; rfl) | ((repeat' (rcases hc with rfl | hc)) <;> first | rfl | (subst hc; rfl)), by (simp; first | done | omega), by (simp; first | done | omega)⟩ ?_; conv => whnf)
      | (refine SAnd.mk (by first | exact rfl | kernel_rfl | omega | decide | exact heq | exact hs0) ?_; conv => whnf)
      | fail)
    · exact ⟨PLe.of_eq (by rw [b9 h])⟩
    · exact ⟨PLe.of_eq (by rw [bz (by assumption) h])⟩
    all_goals
      refine ⟨AWp.le ?_ (go (by assumption) (fun h => by first | exact absurd h.2 (by assumption) | exact absurd h.1 (by assumption)))⟩
      skip
      · refine SLe.of [] [] rfl rfl ?_
        conv => whnf
        repeat' (first
        | exact True.intro
        | (refine SAnd.mk (PLe.of_eq (by simp only [wrapK]; rw [wrap_id (by first | omega | (simp only; done) | (simp only; omega) | simp) (by first | omega | (simp only; done) | (simp only; omega) | simp)]; simp)) ?_; conv => whnf)
        | (refine SAnd.mk (PLe.refl _) ?_; conv => whnf)
        | (refine SAnd.mk (PLeL.refl _) ?_; conv => whnf)
        | (refine SAnd.mk (PLe.of_eq (by simp)) ?_; conv => whnf)
        | (refine SAnd.mk rfl ?_; conv => whnf)
        | (refine SAnd.mk ⟨rfl, rfl⟩ ?_; conv => whnf)
        | (refine SAnd.mk ⟨rfl, rfl, rfl⟩ ?_; conv => whnf))
theorem digV_pos {c : UInt8} {l : List UInt8} (h : ∀ x ∈ c :: l, dig x) (hc : ¬ c = 48) : 0 < digV (c :: l) := by
  suffices H : ∀ (n : Int) (l : List UInt8), 0 < n → (∀ x ∈ l, dig x) → 0 < l.foldl (fun n c => 10 * n + ((c.toNat : Int) - 48)) n by
    have h1 := (h c List.mem_cons_self).1
    have h2 : c.toNat ≠ 48 := fun e => hc (UInt8.toNat_inj.1 (by simpa using e))
    exact H (10 * 0 + ((c.toNat : Int) - 48)) l (by omega) fun x hx => h x (List.mem_cons_of_mem _ hx)
  intro n l
  induction l generalizing n with
  | nil => intro h _; exact h
  | cons a l ih =>
    intro h1 h2
    have := (h2 a List.mem_cons_self).1
    exact ih (10 * n + ((a.toNat : Int) - 48)) (by omega) fun x hx => h2 x (List.mem_cons_of_mem _ hx)
theorem signed_neg (l : List UInt8) : (intV l true).1 = 0 - (intV l false).1 ∧ (intV l true).2 = ((intV l false).2 && decide (0 < (intV l false).1)) := by
  by_cases h : (∀ c ∈ l, dig c) ∧ l.length ≤ 9 ∧ l ≠ [] ∧ ¬ (l.head? = some 48 ∧ (1 < l.length ∨ false = true))
  · by_cases h0 : l.head? = some 48
    · obtain ⟨h1, h2, h3, h4⟩ := h
      rcases l with _ | ⟨c, l⟩
      · simp at h0
      · have hc : c = 48 := by simpa using h0
        have hl : l = [] := by
          rcases l with _ | ⟨d, l⟩
          · rfl
          · exact absurd ⟨h0, .inl (by simp)⟩ h4
        subst hc hl
        exact ⟨by decide, by decide⟩
    · have e1 : intV l true = (0 - digV l, true) := by
        unfold intV
        rw [if_pos ⟨h.1, h.2.1, h.2.2.1, fun h' => h0 h'.1⟩]
        rfl
      have e2 : intV l false = (digV l, true) := by
        unfold intV
        rw [if_pos h]
        rfl
      rw [e1, e2]
      refine ⟨rfl, ?_⟩
      obtain ⟨h1, _, h3, _⟩ := h
      rcases l with _ | ⟨c, l⟩
      · exact absurd rfl h3
      · have := digV_pos h1 (by simpa using h0)
        simp [this]
  · have e2 : intV l false = (0, false) := by
      unfold intV
      rw [if_neg h]
    have e1 : intV l true = (0, false) := by
      unfold intV
      rw [if_neg (fun h' => h ⟨h'.1, h'.2.1, h'.2.2.1, fun h4 => h'.2.2.2 ⟨h4.1, .inr rfl⟩⟩)]
    rw [e1, e2]
    exact ⟨rfl, rfl⟩
theorem intV_bound (l : List UInt8) : 0 ≤ (intV l false).1 ∧ (intV l false).1 ≤ 1000000000 := by
  unfold intV
  split
  · rename_i h
    have := digV_bound l.length l (by rw [List.take_length]; exact h.1) (Nat.le_refl _)
    rw [List.take_length] at this
    have hp : 10 ^ l.length ≤ 10 ^ 9 := Nat.pow_le_pow_right (by decide) h.2.1
    simp only [Bool.false_eq_true, if_false]
    omega
  · simp
theorem trim45 (l : List UInt8) : Lib.trimPrefix (45 :: l) [45] = l ∧ Lib.hasPrefix (45 :: l) [45] = true := ⟨by simp [Lib.trimPrefix, Lib.hasPrefix], by simp [Lib.hasPrefix]⟩
theorem trim45' {c : UInt8} (l : List UInt8) (h : ¬ c = 45) : Lib.trimPrefix (c :: l) [45] = c :: l ∧ Lib.hasPrefix (c :: l) [45] = false := by
  have e : Lib.hasPrefix (c :: l) [45] = false := by
    show ((45 == c) && List.isPrefixOf [] l) = false
    rw [show ((45 : UInt8) == c) = false from beq_false_of_ne (Ne.symm h)]
    rfl
  refine ⟨?_, e⟩
  unfold Lib.trimPrefix
  rw [e]
  rfl
theorem Signed_pure {m : Int} (l : List UInt8) : APure (C m) 180 [St ⟨l.toArray⟩] (.tup [I (intB ⟨l.toArray⟩).1, Bo (intB ⟨l.toArray⟩).2]) := by
  have hbs : (⟨l.toArray⟩ : ByteArray).size = l.length := by simp [ByteArray.size]
  rcases l with _ | ⟨c, l⟩
  · have hd := Digits_pure (m := m) []
    refine APure.of_body good [] (fn := Tryz.f180) (by kernel_rfl) (by kernel_rfl) rfl rfl (by kernel_rfl) rfl (by kernel_rfl) ?_
    conv => whnf
    repeat' (first
      | (refine codeK_sound good (mu := []) ?_; conv => whnf)
      | ((first | rw [wl0] | rw [wl1] | rw [wl2] | rw [wl3] | rw [wl4] | rw [wl5]); conv => whnf)
      | (refine SBool.mk (fun _ => ?_) (fun h => absurd (of_decide_eq_true rfl) h); conv => whnf)
      | (refine SBool.mk (fun h => absurd h (of_decide_eq_false rfl)) (fun _ => ?_); conv => whnf)
      | (refine SBool.mk (fun h => ?_) (fun h => ?_) <;> conv => whnf)
      | (refine SEx.mk _ (by first | exact neq_string _ _ _ | exact hd) ?_; conv => whnf)
      | (refine SEx.mk _ (by first | exact rfl | exact ⟨of_decide_eq_true rfl, rfl⟩) ?_; conv => whnf)
      | (refine SAll.mk (fun _ => ?_); conv => whnf)
      | (refine SAnd.mk (by first | exact hd) ?_; conv => whnf)
      | (refine SAnd.mk ⟨by intro c hc; simp at hc; first | (subst hc; rfl) | ((repeat' (rcases hc with rfl | hc)) <;> first | rfl | (subst hc; rfl)), by (simp; first | done | omega), by (simp; first | done | omega)⟩ ?_; conv => whnf)
      | (refine SAnd.mk (by first | exact rfl | kernel_rfl | omega | decide | exact neq_string _ _ _ | exact hd) ?_; conv => whnf)
      | fail)
    all_goals first
      | exact ⟨PLe.of_eq (by kernel_rfl)⟩


  · have hne : decide ((⟨(c :: l).toArray⟩ : ByteArray) ≠ ⟨#[]⟩) = true := decide_eq_true (fun e => by injection e with e; simp at e)
    have heq : ∀ w, (binOp .neq 9 (.string ⟨(c :: l).toArray⟩) (.string ⟨#[]⟩)).run (C m).P w = .ok (.bool true) w := fun w => by
      have := neq_string 9 ⟨(c :: l).toArray⟩ ⟨#[]⟩ w
      rw [hne] at this
      exact this
    have hs0 : (0 : Int) ≤ 0 ∧ (0 : Int) < ((⟨(c :: l).toArray⟩ : ByteArray).size : Int) := ⟨by omega, by rw [hbs]; simp only [List.length_cons]; omega⟩
    have hs1 : (0 : Int) ≤ 1 ∧ (1 : Int) ≤ ((⟨(c :: l).toArray⟩ : ByteArray).size : Int) := ⟨by omega, by rw [hbs]; simp only [List.length_cons]; omega⟩
    have hby : byteAt ⟨(c :: l).toArray⟩ (Int.toNat 0) = (c.toNat : Int) := rfl
    have hx : (⟨(c :: l).toArray⟩ : ByteArray).extract (Int.toNat 1) (⟨(c :: l).toArray⟩ : ByteArray).size = ⟨l.toArray⟩ := ext_drop (c :: l) 1
    have hd1 := Digits_pure (m := m) l
    have hd2 := Digits_pure (m := m) (c :: l)
    have sg := signed_neg l
    have hbd := intV_bound l
    by_cases h45 : c = 45
    · have e1 : intB ⟨(c :: l).toArray⟩ = intV l true := by
        show intV (Lib.trimPrefix (c :: l) [45]) (Lib.hasPrefix (c :: l) [45]) = _
        rw [h45, (trim45 l).1, (trim45 l).2]
      rw [e1, sg.1, sg.2]
      have hc : (c.toNat : Int) = 45 := by rw [h45]; rfl
      clear e1 sg
      generalize intV l false = z at *
      obtain ⟨v, b⟩ := z
      have hw : wrapK IntKind.i64 (0 - v) = 0 - v := w64 (by simp only at hbd; omega)
      cases b
      · refine APure.of_body good [] (fn := Tryz.f180) (by kernel_rfl) (by kernel_rfl) rfl rfl (by kernel_rfl) rfl (by kernel_rfl) ?_
        conv => whnf
        repeat' (first
          | (refine codeK_sound good (mu := []) ?_; conv => whnf)
          | ((first | rw [wl0] | rw [wl1] | rw [wl2] | rw [wl3] | rw [wl4] | rw [wl5]); conv => whnf)
          | (rw [hw]; conv => whnf)
          | (rw [hx]; conv => whnf)
          | (rw [hby]; conv => whnf)
          | (refine SBool.mk (fun _ => ?_) (fun h => absurd (of_decide_eq_true rfl) h); conv => whnf)
          | (refine SBool.mk (fun h => absurd h (of_decide_eq_false rfl)) (fun _ => ?_); conv => whnf)
          | (refine SBool.mk (fun h => ?_) (fun h => ?_) <;> conv => whnf)
          | (refine SEx.mk _ (by first | exact heq | exact hs0 | exact hs1 | exact hd1) ?_; conv => whnf)
          | (refine SEx.mk _ (by first | exact rfl | exact ⟨of_decide_eq_true rfl, rfl⟩) ?_; conv => whnf)
          | (refine SAll.mk (fun _ => ?_); conv => whnf)
          | (refine SAnd.mk (by first | exact heq | exact hs0 | exact hs1 | exact hd1) ?_; conv => whnf)
          | (refine SAnd.mk ⟨by intro c hc; simp at hc; first | (subst hc; rfl) | ((repeat' (rcases hc with rfl | hc)) <;> first | rfl | (subst hc; rfl)), by (simp; first | done | omega), by (simp; first | done | omega)⟩ ?_; conv => whnf)
          | (refine SAnd.mk (by first | exact rfl | kernel_rfl | omega | decide | exact heq | exact hs0 | exact hs1 | exact hd1) ?_; conv => whnf)
          | fail)
        all_goals first
          | exact absurd hc (by assumption)
          | exact ⟨PLe.refl _⟩
      · refine APure.of_body good [] (fn := Tryz.f180) (by kernel_rfl) (by kernel_rfl) rfl rfl (by kernel_rfl) rfl (by kernel_rfl) ?_
        conv => whnf
        repeat' (first
          | (refine codeK_sound good (mu := []) ?_; conv => whnf)
          | ((first | rw [wl0] | rw [wl1] | rw [wl2] | rw [wl3] | rw [wl4] | rw [wl5]); conv => whnf)
          | (rw [hw]; conv => whnf)
          | (rw [hx]; conv => whnf)
          | (rw [hby]; conv => whnf)
          | (refine SBool.mk (fun _ => ?_) (fun h => absurd (of_decide_eq_true rfl) h); conv => whnf)
          | (refine SBool.mk (fun h => absurd h (of_decide_eq_false rfl)) (fun _ => ?_); conv => whnf)
          | (refine SBool.mk (fun h => ?_) (fun h => ?_) <;> conv => whnf)
          | (refine SEx.mk _ (by first | exact heq | exact hs0 | exact hs1 | exact hd1) ?_; conv => whnf)
          | (refine SEx.mk _ (by first | exact rfl | exact ⟨of_decide_eq_true rfl, rfl⟩) ?_; conv => whnf)
          | (refine SAll.mk (fun _ => ?_); conv => whnf)
          | (refine SAnd.mk (by first | exact heq | exact hs0 | exact hs1 | exact hd1) ?_; conv => whnf)
          | (refine SAnd.mk ⟨by intro c hc; simp at hc; first | (subst hc; rfl) | ((repeat' (rcases hc with rfl | hc)) <;> first | rfl | (subst hc; rfl)), by (simp; first | done | omega), by (simp; first | done | omega)⟩ ?_; conv => whnf)
          | (refine SAnd.mk (by first | exact rfl | kernel_rfl | omega | decide | exact heq | exact hs0 | exact hs1 | exact hd1) ?_; conv => whnf)
          | fail)
        all_goals first
          | exact absurd hc (by assumption)
          | exact ⟨PLe.refl _⟩
          | exact ⟨PLe.of_eq (by rw [decide_eq_true (by assumption)]; rfl)⟩
          | exact ⟨PLe.of_eq (by rw [decide_eq_false (by assumption)]; rfl)⟩
    · have e1 : intB ⟨(c :: l).toArray⟩ = intV (c :: l) false := by
        show intV (Lib.trimPrefix (c :: l) [45]) (Lib.hasPrefix (c :: l) [45]) = _
        rw [(trim45' l h45).1, (trim45' l h45).2]
      rw [e1]
      have hc : ¬ (c.toNat : Int) = 45 := fun h => h45 (UInt8.toNat_inj.1 (by simpa using (by omega : c.toNat = 45)))
      clear e1 sg
      refine APure.of_body good [] (fn := Tryz.f180) (by kernel_rfl) (by kernel_rfl) rfl rfl (by kernel_rfl) rfl (by kernel_rfl) ?_
      conv => whnf
      repeat' (first
        | (refine codeK_sound good (mu := []) ?_; conv => whnf)
        | ((first | rw [wl0] | rw [wl1] | rw [wl2] | rw [wl3] | rw [wl4] | rw [wl5]); conv => whnf)
        | (rw [hx]; conv => whnf)
        | (rw [hby]; conv => whnf)
        | (refine SBool.mk (fun _ => ?_) (fun h => absurd (of_decide_eq_true rfl) h); conv => whnf)
        | (refine SBool.mk (fun h => absurd h (of_decide_eq_false rfl)) (fun _ => ?_); conv => whnf)
        | (refine SBool.mk (fun h => ?_) (fun h => ?_) <;> conv => whnf)
        | (refine SEx.mk _ (by first | exact heq | exact hs0 | exact hs1 | exact hd2) ?_; conv => whnf)
        | (refine SEx.mk _ (by first | exact rfl | exact ⟨of_decide_eq_true rfl, rfl⟩) ?_; conv => whnf)
        | (refine SAll.mk (fun _ => ?_); conv => whnf)
        | (refine SAnd.mk (by first | exact heq | exact hs0 | exact hs1 | exact hd2) ?_; conv => whnf)
        | (refine SAnd.mk ⟨by intro c hc; simp at hc; first | (subst hc; rfl) | ((repeat' (rcases hc with rfl | hc)) <;> first | rfl | (subst hc; rfl)), by (simp; first | done | omega), by (simp; first | done | omega)⟩ ?_; conv => whnf)
        | (refine SAnd.mk (by first | exact rfl | kernel_rfl | omega | decide | exact heq | exact hs0 | exact hs1 | exact hd2) ?_; conv => whnf)
        | fail)
      all_goals first
        | exact absurd (by assumption) hc
        | exact ⟨PLe.refl _⟩
end Go.Proofs.Ab.Tone2
end
section
/- The reference's Split. -/
set_option maxRecDepth 100000
set_option linter.unusedVariables false
set_option linter.unusedSimpArgs false
namespace Go.Proofs.Ab.Tone2
open Go Go.RowKit Go.Proofs.Ab Go.Proofs.Ab.Tone
/-- The parts between separators. -/
def splitG (b : UInt8) : List UInt8 → List (List UInt8)
  | [] => [[]]
  | c :: l => if c = b then [] :: splitG b l else match splitG b l with
    | w :: ws => (c :: w) :: ws
    | [] => [[c]]
theorem splitG_sep {b : UInt8} : ∀ (p r : List UInt8), (∀ c ∈ p, ¬ c = b) → splitG b (p ++ b :: r) = p :: splitG b r
  | [], r, _ => by simp [splitG]
  | c :: p, r, h => by
    have ih := splitG_sep p r fun x hx => h x (List.mem_cons_of_mem _ hx)
    simp only [List.cons_append, splitG, if_neg (h c List.mem_cons_self), ih]
theorem splitG_end {b : UInt8} : ∀ (p : List UInt8), (∀ c ∈ p, ¬ c = b) → splitG b p = [p]
  | [], _ => rfl
  | c :: p, h => by
    have ih := splitG_end p fun x hx => h x (List.mem_cons_of_mem _ hx)
    simp only [splitG, if_neg (h c List.mem_cons_self), ih]
abbrev bytesL (ws : List (List UInt8)) : List ByteArray := ws.map fun w => ⟨w.toArray⟩
theorem ext_mid (r : List UInt8) {i j : Nat} (h : i ≤ j) : (⟨r.toArray⟩ : ByteArray).extract i j = ⟨((r.drop i).take (j - i)).toArray⟩ := by
  apply ByteArray.ext
  simp [List.take_drop, Nat.add_sub_cancel' h]
structure SpI (b : UInt8) (l : List UInt8) (k fr : Nat) (outs : List (List UInt8)) : Prop where
  h1 : fr ≤ k
  h2 : k ≤ l.length
  h3 : splitG b l = outs ++ splitG b (l.drop fr)
  h4 : ∀ c ∈ (l.drop fr).take (k - fr), ¬ c = b
  h5 : outs.length ≤ fr
theorem SpI.sep {b : UInt8} {l : List UInt8} {k fr : Nat} {outs : List (List UInt8)} (h : SpI b l k fr outs) (hk : k < l.length) (hb : l[k] = b) : SpI b l (k + 1) (k + 1) (outs ++ [(l.drop fr).take (k - fr)]) := by
  have h1 := h.h1
  refine ⟨Nat.le_refl _, hk, ?_, fun c hc => by simp at hc, by have := h.h5; simp; omega⟩
  have e : l.drop fr = (l.drop fr).take (k - fr) ++ b :: l.drop (k + 1) := by
    have e1 : (l.drop fr).drop (k - fr) = b :: l.drop (k + 1) := by
      rw [List.drop_drop, show fr + (k - fr) = k by omega, List.drop_eq_getElem_cons hk, hb]
    rw [← e1, List.take_append_drop]
  rw [h.h3, List.append_assoc]
  congr 1
  conv => lhs; rw [e]
  exact splitG_sep _ _ h.h4
theorem SpI.next {b : UInt8} {l : List UInt8} {k fr : Nat} {outs : List (List UInt8)} (h : SpI b l k fr outs) (hk : k < l.length) (hb : ¬ l[k] = b) : SpI b l (k + 1) fr outs := by
  have h1 := h.h1
  refine ⟨by omega, hk, h.h3, fun c hc => ?_, h.h5⟩
  rw [show k + 1 - fr = (k - fr) + 1 by omega, List.take_add_one, List.mem_append] at hc
  rcases hc with hc | hc
  · exact h.h4 c hc
  · rw [List.getElem?_drop, show fr + (k - fr) = k by omega, List.getElem?_eq_getElem hk] at hc
    simp at hc
    rw [hc]
    exact hb
theorem SpI.fin {b : UInt8} {l : List UInt8} {fr : Nat} {outs : List (List UInt8)} (h : SpI b l l.length fr outs) : splitG b l = outs ++ [l.drop fr] := by
  have h1 := h.h1
  rw [h.h3, splitG_end]
  intro c hc
  refine h.h4 c ?_
  rw [List.take_of_length_le (by simp)]
  exact hc
theorem app_one (outs : List (List UInt8)) (s : ByteArray) (h : outs.length ≤ 1000000) : (∀ c ∈ ([[St s]] : List (List PV)).flatten, c.one = true) ∧ ((cellsS (bytesL outs)).length + 1) * 16 ≤ 140737488355328 ∧ (cellsS (bytesL outs)).length + 1 ≤ 9223372036854775807 := by
  refine ⟨fun c hc => ?_, by simp only [List.length_map]; omega, by simp only [List.length_map]; omega⟩
  simp at hc
  rw [hc]
  rfl
theorem Split_pure {m : Int} (l : List UInt8) (b : UInt8) (hl : l.length ≤ 1000000) : APure (C m) 78 [St ⟨l.toArray⟩, .v (.int .u8 b.toNat)] (.seq 1 (cellsS (bytesL (splitG b l)))) := by
  have hbs : (⟨l.toArray⟩ : ByteArray).size = l.length := by simp [ByteArray.size]
  refine APure.of_body good [] (fn := Tryz.f78) (by kernel_rfl) (by kernel_rfl) rfl rfl (by kernel_rfl) rfl (by kernel_rfl) ?_
  conv => whnf
  repeat' (first
    | (refine codeK_sound good (mu := []) ?_; conv => whnf)
    | ((first | rw [wl0] | rw [wl1] | rw [wl2] | rw [wl3] | rw [wl4] | rw [wl5]); conv => whnf)
    | (refine SBool.mk (fun _ => ?_) (fun h => absurd (of_decide_eq_true rfl) h); conv => whnf)
    | (refine SBool.mk (fun h => absurd h (of_decide_eq_false rfl)) (fun _ => ?_); conv => whnf)
    | (refine SBool.mk (fun h => ?_) (fun h => ?_) <;> conv => whnf)
    | (refine SEx.mk _ (by first | exact rfl | exact ⟨of_decide_eq_true rfl, rfl⟩) ?_; conv => whnf)
    | (refine SAll.mk (fun _ => ?_); conv => whnf)
    | (refine SAnd.mk ⟨by intro c hc; simp at hc; first | (subst hc; rfl) | ((repeat' (rcases hc with rfl | hc)) <;> first | rfl | (subst hc; rfl)), by (simp; first | done | omega), by (simp; first | done | omega)⟩ ?_; conv => whnf)
    | (refine SAnd.mk (by first | exact rfl | kernel_rfl | omega | decide) ?_; conv => whnf)
    | fail)
  refine ⟨AWp.loop (ι := { p : Nat × Nat × List (List UInt8) // SpI b l p.1 p.2.1 p.2.2 }) (fun p => ⟨[(7, .p (I p.1.1)), (0, .p (St ⟨l.toArray⟩)), (1, .p (.v (.int .u8 b.toNat))), (6, .p (I p.1.2.1)), (5, .own 0)], [], [(0, (9, 1, cellsS (bytesL p.1.2.2)))], 1, [], [], []⟩) (fun p => l.length - p.1.1) ⟨(0, 0, []), ⟨Nat.le_refl _, Nat.zero_le _, by simp, fun c hc => by simp at hc, Nat.le_refl _⟩⟩ ?_ ?_⟩
  · refine SLe.row 5 9 1 ?_
    conv => whnf
    skip
    · refine SLe.of [] [(0, 0)] rfl rfl ?_
      conv => whnf
      repeat' (first
      | exact True.intro
      | (refine SAnd.mk (PLe.of_eq (by simp only [wrapK]; rw [wrap_id (by first | omega | (simp only; done) | (simp only; omega) | simp) (by first | omega | (simp only; done) | (simp only; omega) | simp)]; simp)) ?_; conv => whnf)
      | (refine SAnd.mk (PLe.refl _) ?_; conv => whnf)
      | (refine SAnd.mk (PLeL.refl _) ?_; conv => whnf)
      | (refine SAnd.mk (PLe.of_eq (by simp)) ?_; conv => whnf)
      | (refine SAnd.mk rfl ?_; conv => whnf)
      | (refine SAnd.mk ⟨rfl, rfl⟩ ?_; conv => whnf)
      | (refine SAnd.mk ⟨rfl, rfl, rfl⟩ ?_; conv => whnf))
  · rintro ⟨⟨k, fr, outs⟩, hI⟩
    have hI : SpI b l k fr outs := hI
    have hfk := hI.h1
    have hk := hI.h2
    have h5 := hI.h5
    refine codeK_sound good (mu := []) ?_
    conv => whnf
    refine SBool.mk (fun hc => ?_) (fun hc => ?_)
    · have hc' : (k : Int) < (((⟨l.toArray⟩ : ByteArray).size : Nat) : Int) := hc
      rw [hbs] at hc'
      have hkl : k < l.length := by omega
      have hs0 : (0 : Int) ≤ (k : Int) ∧ (k : Int) < ((⟨l.toArray⟩ : ByteArray).size : Int) := ⟨by omega, by rw [hbs]; omega⟩
      have hs1 : (0 : Int) ≤ (fr : Int) ∧ (fr : Int) ≤ (k : Int) ∧ (k : Int) ≤ ((⟨l.toArray⟩ : ByteArray).size : Int) := ⟨by omega, by omega, by rw [hbs]; omega⟩
      have wk : wrapK IntKind.i64 ((k : Int) + 1) = k + 1 := w64 (by omega)
      have m2 : l.length - (k + 1) < l.length - k := by omega
      have hby := byte_at hkl
      have hx : (⟨l.toArray⟩ : ByteArray).extract ((fr : Int)).toNat ((k : Int)).toNat = ⟨((l.drop fr).take (k - fr)).toArray⟩ := ext_mid l hfk
      have hap : (∀ c ∈ ([[St ⟨((l.drop fr).take (k - fr)).toArray⟩]] : List (List PV)).flatten, c.one = true) ∧ ((cellsS (bytesL outs)).length + 1) * 16 ≤ 140737488355328 ∧ (cellsS (bytesL outs)).length + 1 ≤ 9223372036854775807 := app_one outs _ (by omega)
      have ec : cellsS (bytesL outs) ++ [[St ⟨((l.drop fr).take (k - fr)).toArray⟩]] = cellsS (bytesL (outs ++ [(l.drop fr).take (k - fr)])) := by simp
      conv => whnf
      conv => whnf
      repeat' (first
        | (refine codeK_sound good (mu := []) ?_; conv => whnf)
        | ((first | rw [wl0] | rw [wl1] | rw [wl2] | rw [wl3] | rw [wl4] | rw [wl5]); conv => whnf)
        | (rw [hx]; conv => whnf)
        | (rw [wk]; conv => whnf)
        | (rw [hby]; conv => whnf)
        | (refine SBool.mk (fun _ => ?_) (fun h => absurd (of_decide_eq_true rfl) h); conv => whnf)
        | (refine SBool.mk (fun h => absurd h (of_decide_eq_false rfl)) (fun _ => ?_); conv => whnf)
        | (refine SBool.mk (fun h => ?_) (fun h => ?_) <;> conv => whnf)
        | (refine SEx.mk _ (by first | exact hs0 | exact hs1 | exact hap) ?_; conv => whnf)
        | (refine SEx.mk _ (by first | exact rfl | exact ⟨of_decide_eq_true rfl, rfl⟩) ?_; conv => whnf)
        | (refine SAll.mk (fun _ => ?_); conv => whnf)
        | (refine SAnd.mk (by first | exact hs0 | exact hs1 | exact hap) ?_; conv => whnf)
        | (refine SAnd.mk ⟨by intro c hc; simp at hc; first | (subst hc; rfl) | ((repeat' (rcases hc with rfl | hc)) <;> first | rfl | (subst hc; rfl)), by (simp; first | done | omega), by (simp; first | done | omega)⟩ ?_; conv => whnf)
        | (refine SAnd.mk (by first | exact rfl | kernel_rfl | omega | decide | exact hs0 | exact hs1 | exact hap) ?_; conv => whnf)
        | fail)
      · have hb : l[k] = b := UInt8.toNat_inj.1 (by have h : (l[k].toNat : Int) = b.toNat := h; clear hby hx; omega)
        refine ⟨⟨(k + 1, k + 1, outs ++ [(l.drop fr).take (k - fr)]), hI.sep hkl hb⟩, m2, ?_⟩
        skip
        · refine SLe.of [] [(0, 1)] rfl rfl ?_
          conv => whnf
          repeat' (first
          | exact True.intro
          | (refine SAnd.mk (show _ = (_ : List (List PV)) from ec) ?_; conv => whnf)
          | (refine SAnd.mk (PLe.of_eq (by simp only [wrapK]; rw [wrap_id (by first | omega | (simp only; done) | (simp only; omega) | simp) (by first | omega | (simp only; done) | (simp only; omega) | simp)]; simp)) ?_; conv => whnf)
          | (refine SAnd.mk (PLe.refl _) ?_; conv => whnf)
          | (refine SAnd.mk (PLeL.refl _) ?_; conv => whnf)
          | (refine SAnd.mk (PLe.of_eq (by simp)) ?_; conv => whnf)
          | (refine SAnd.mk rfl ?_; conv => whnf)
          | (refine SAnd.mk ⟨rfl, rfl⟩ ?_; conv => whnf)
          | (refine SAnd.mk ⟨rfl, rfl, rfl⟩ ?_; conv => whnf))
      · have hb : ¬ l[k] = b := fun e => by
          have h : ¬ (l[k].toNat : Int) = b.toNat := h
          exact h (by rw [e])
        refine ⟨⟨(k + 1, fr, outs), hI.next hkl hb⟩, m2, ?_⟩
        skip
        · refine SLe.of [] [(0, 0)] rfl rfl ?_
          conv => whnf
          repeat' (first
          | exact True.intro
          | (refine SAnd.mk (PLe.of_eq (by simp only [wrapK]; rw [wrap_id (by first | omega | (simp only; done) | (simp only; omega) | simp) (by first | omega | (simp only; done) | (simp only; omega) | simp)]; simp)) ?_; conv => whnf)
          | (refine SAnd.mk (PLe.refl _) ?_; conv => whnf)
          | (refine SAnd.mk (PLeL.refl _) ?_; conv => whnf)
          | (refine SAnd.mk (PLe.of_eq (by simp)) ?_; conv => whnf)
          | (refine SAnd.mk rfl ?_; conv => whnf)
          | (refine SAnd.mk ⟨rfl, rfl⟩ ?_; conv => whnf)
          | (refine SAnd.mk ⟨rfl, rfl, rfl⟩ ?_; conv => whnf))
    · have hc' : ¬ (k : Int) < (((⟨l.toArray⟩ : ByteArray).size : Nat) : Int) := hc
      rw [hbs] at hc'
      have hkl : k = l.length := by omega
      subst hkl
      have hx : (⟨l.toArray⟩ : ByteArray).extract ((fr : Int)).toNat (⟨l.toArray⟩ : ByteArray).size = ⟨(l.drop fr).toArray⟩ := ext_drop l fr
      have hs1 : (0 : Int) ≤ (fr : Int) ∧ (fr : Int) ≤ ((⟨l.toArray⟩ : ByteArray).size : Int) := ⟨by omega, by rw [hbs]; omega⟩
      have hap : (∀ c ∈ ([[St ⟨(l.drop fr).toArray⟩]] : List (List PV)).flatten, c.one = true) ∧ ((cellsS (bytesL outs)).length + 1) * 16 ≤ 140737488355328 ∧ (cellsS (bytesL outs)).length + 1 ≤ 9223372036854775807 := app_one outs _ (by omega)
      have ec : cellsS (bytesL outs) ++ [[St ⟨(l.drop fr).toArray⟩]] = cellsS (bytesL (splitG b l)) := by rw [hI.fin]; simp
      conv => whnf
      conv => whnf
      repeat' (first
        | (refine codeK_sound good (mu := []) ?_; conv => whnf)
        | ((first | rw [wl0] | rw [wl1] | rw [wl2] | rw [wl3] | rw [wl4] | rw [wl5]); conv => whnf)
        | (rw [hx]; conv => whnf)
        | (refine SBool.mk (fun _ => ?_) (fun h => absurd (of_decide_eq_true rfl) h); conv => whnf)
        | (refine SBool.mk (fun h => absurd h (of_decide_eq_false rfl)) (fun _ => ?_); conv => whnf)
        | (refine SBool.mk (fun h => ?_) (fun h => ?_) <;> conv => whnf)
        | (refine SEx.mk _ (by first | exact hs1 | exact hap) ?_; conv => whnf)
        | (refine SEx.mk _ (by first | exact rfl | exact ⟨of_decide_eq_true rfl, rfl⟩) ?_; conv => whnf)
        | (refine SAll.mk (fun _ => ?_); conv => whnf)
        | (refine SAnd.mk (by first | exact hs1 | exact hap) ?_; conv => whnf)
        | (refine SAnd.mk ⟨by intro c hc; simp at hc; first | (subst hc; rfl) | ((repeat' (rcases hc with rfl | hc)) <;> first | rfl | (subst hc; rfl)), by (simp; first | done | omega), by (simp; first | done | omega)⟩ ?_; conv => whnf)
        | (refine SAnd.mk (by first | exact rfl | kernel_rfl | omega | decide | exact hs1 | exact hap) ?_; conv => whnf)
        | fail)
      exact ⟨PLe.of_eq (congrArg (PV.seq 1) ec)⟩
end Go.Proofs.Ab.Tone2
end
section
/- The reference's parseSignal. -/
set_option maxRecDepth 100000
set_option linter.unusedVariables false
set_option linter.unusedSimpArgs false
namespace Go.Proofs.Ab.Tone2
open Go Go.RowKit Go.Proofs.Ab Go.Proofs.Ab.Tone
abbrev sigL : List UInt8 := [115, 105, 103, 110, 97, 108]
abbrev inB (w : List UInt8) : Int × Bool := intB ⟨w.toArray⟩
/-- The signal of a line's words. -/
def refSgW : List (List UInt8) → Sg × Bool
  | [w0, w1, w2, w3, w4, w5, w6] => if w0 = sigL ∧ (inB w1).2 = true ∧ (inB w2).2 = true ∧ (inB w3).2 = true ∧ (inB w4).2 = true ∧ (inB w5).2 = true ∧ (inB w6).2 = true then (⟨⟨(inB w1).1, (inB w2).1⟩, ⟨(inB w3).1, (inB w4).1⟩, ⟨(inB w5).1, (inB w6).1⟩⟩, true) else (S0, false)
  | _ => (S0, false)
def refSg (l : List UInt8) : Sg × Bool := refSgW (splitG 32 l)
theorem refSgW_len {ws : List (List UInt8)} (h : ¬ ws.length = 7) : refSgW ws = (S0, false) := by
  unfold refSgW
  split
  · exact absurd rfl h
  · rfl
theorem seven {ws : List (List UInt8)} (h : ws.length = 7) : ∃ w0 w1 w2 w3 w4 w5 w6, ws = [w0, w1, w2, w3, w4, w5, w6] := by
  match ws, h with
  | [w0, w1, w2, w3, w4, w5, w6], _ => exact ⟨_, _, _, _, _, _, _, rfl⟩
abbrev seven7 (w0 w1 w2 w3 w4 w5 w6 : List UInt8) : PV := .seq 1 [[St ⟨w0.toArray⟩], [St ⟨w1.toArray⟩], [St ⟨w2.toArray⟩], [St ⟨w3.toArray⟩], [St ⟨w4.toArray⟩], [St ⟨w5.toArray⟩], [St ⟨w6.toArray⟩]]
set_option maxHeartbeats 8000000 in
theorem parseSignal0 {m : Int} (l w1 w2 w3 w4 w5 w6 : List UInt8) (v1 v2 v3 v4 v5 v6 : Int) (hsp : APure (C m) 78 [St ⟨l.toArray⟩, .v (.int .u8 32)] (seven7 sigL w1 w2 w3 w4 w5 w6)) (s1 : APure (C m) 180 [St ⟨w1.toArray⟩] (.tup [I v1, Bo true])) (s2 : APure (C m) 180 [St ⟨w2.toArray⟩] (.tup [I v2, Bo true])) (s3 : APure (C m) 180 [St ⟨w3.toArray⟩] (.tup [I v3, Bo true])) (s4 : APure (C m) 180 [St ⟨w4.toArray⟩] (.tup [I v4, Bo true])) (s5 : APure (C m) 180 [St ⟨w5.toArray⟩] (.tup [I v5, Bo true])) (s6 : APure (C m) 180 [St ⟨w6.toArray⟩] (.tup [I v6, Bo true])) :
    APure (C m) 144 [St ⟨l.toArray⟩] (.tup [.agg [I v1, I v2, I v3, I v4, I v5, I v6], Bo true]) := by
  have e10 : wrapK IntKind.i64 (1 + 0) = 1 := by kernel_rfl
  have e01 : wrapK IntKind.i64 (0 + 1) = 1 := by kernel_rfl
  have e11 : wrapK IntKind.i64 (1 + 1) = 2 := by kernel_rfl
  have e12 : wrapK IntKind.i64 (1 + 2) = 3 := by kernel_rfl
  have e21 : wrapK IntKind.i64 (2 + 1) = 3 := by kernel_rfl
  have e13 : wrapK IntKind.i64 (1 + 3) = 4 := by kernel_rfl
  have e31 : wrapK IntKind.i64 (3 + 1) = 4 := by kernel_rfl
  have e14 : wrapK IntKind.i64 (1 + 4) = 5 := by kernel_rfl
  have e41 : wrapK IntKind.i64 (4 + 1) = 5 := by kernel_rfl
  have e15 : wrapK IntKind.i64 (1 + 5) = 6 := by kernel_rfl
  have e51 : wrapK IntKind.i64 (5 + 1) = 6 := by kernel_rfl
  refine APure.of_body good [2, 5] (fn := Tryz.f144) (by kernel_rfl) (by kernel_rfl) rfl rfl (by kernel_rfl) rfl (by kernel_rfl) ?_
  conv => whnf
  repeat' (first
    | (refine codeK_sound good (mu := [2, 5]) ?_; conv => whnf)
    | ((first | rw [wl0] | rw [wl1] | rw [wl2] | rw [wl3] | rw [wl4] | rw [wl5]); conv => whnf)
    | (rw [e51]; conv => whnf)
    | (rw [e15]; conv => whnf)
    | (rw [e41]; conv => whnf)
    | (rw [e14]; conv => whnf)
    | (rw [e31]; conv => whnf)
    | (rw [e13]; conv => whnf)
    | (rw [e21]; conv => whnf)
    | (rw [e12]; conv => whnf)
    | (rw [e11]; conv => whnf)
    | (rw [e01]; conv => whnf)
    | (rw [e10]; conv => whnf)
    | (refine SBool.mk (fun _ => ?_) (fun h => absurd (of_decide_eq_true rfl) h); conv => whnf)
    | (refine SBool.mk (fun h => absurd h (of_decide_eq_false rfl)) (fun _ => ?_); conv => whnf)
    | (refine SBool.mk (fun h => ?_) (fun h => ?_) <;> conv => whnf)
    | refine SCode.mk (AWp.rounds 7 ?_)
    | (refine SEx.mk _ (by first | exact hsp | exact neq_string 9 ⟨sigL.toArray⟩ _ | exact s1 | exact s2 | exact s3 | exact s4 | exact s5 | exact s6) ?_; conv => whnf)
    | (refine SEx.mk _ (by first | exact rfl | exact ⟨of_decide_eq_true rfl, rfl⟩) ?_; conv => whnf)
    | (refine SAll.mk (fun _ => ?_); conv => whnf)
    | (refine SAnd.mk (by first | exact hsp) ?_; conv => whnf)
    | (refine SAnd.mk ⟨by intro c hc; simp at hc; first | (subst hc; rfl) | ((repeat' (rcases hc with rfl | hc)) <;> first | rfl | (subst hc; rfl)), by (simp; first | done | omega), by (simp; first | done | omega)⟩ ?_; conv => whnf)
    | (refine SAnd.mk (by first | exact rfl | kernel_rfl | omega | decide | exact hsp | exact neq_string 9 ⟨sigL.toArray⟩ _ | exact s1 | exact s2 | exact s3 | exact s4 | exact s5 | exact s6) ?_; conv => whnf)
    | fail)
  exact ⟨PLe.refl _⟩
set_option maxHeartbeats 8000000 in
theorem parseSignal1 {m : Int} (l w1 w2 w3 w4 w5 w6 : List UInt8) (v1 v2 v3 v4 v5 v6 : Int) (hsp : APure (C m) 78 [St ⟨l.toArray⟩, .v (.int .u8 32)] (seven7 sigL w1 w2 w3 w4 w5 w6)) (s1 : APure (C m) 180 [St ⟨w1.toArray⟩] (.tup [I v1, Bo false])) :
    APure (C m) 144 [St ⟨l.toArray⟩] (.tup [.agg (sc S0), Bo false]) := by
  have e10 : wrapK IntKind.i64 (1 + 0) = 1 := by kernel_rfl
  have e01 : wrapK IntKind.i64 (0 + 1) = 1 := by kernel_rfl
  refine APure.of_body good [2, 5] (fn := Tryz.f144) (by kernel_rfl) (by kernel_rfl) rfl rfl (by kernel_rfl) rfl (by kernel_rfl) ?_
  conv => whnf
  repeat' (first
    | (refine codeK_sound good (mu := [2, 5]) ?_; conv => whnf)
    | ((first | rw [wl0] | rw [wl1] | rw [wl2] | rw [wl3] | rw [wl4] | rw [wl5]); conv => whnf)
    | (rw [e01]; conv => whnf)
    | (rw [e10]; conv => whnf)
    | (refine SBool.mk (fun _ => ?_) (fun h => absurd (of_decide_eq_true rfl) h); conv => whnf)
    | (refine SBool.mk (fun h => absurd h (of_decide_eq_false rfl)) (fun _ => ?_); conv => whnf)
    | (refine SBool.mk (fun h => ?_) (fun h => ?_) <;> conv => whnf)
    | refine SCode.mk (AWp.rounds 7 ?_)
    | (refine SEx.mk _ (by first | exact hsp | exact neq_string 9 ⟨sigL.toArray⟩ _ | exact s1) ?_; conv => whnf)
    | (refine SEx.mk _ (by first | exact rfl | exact ⟨of_decide_eq_true rfl, rfl⟩) ?_; conv => whnf)
    | (refine SAll.mk (fun _ => ?_); conv => whnf)
    | (refine SAnd.mk (by first | exact hsp) ?_; conv => whnf)
    | (refine SAnd.mk ⟨by intro c hc; simp at hc; first | (subst hc; rfl) | ((repeat' (rcases hc with rfl | hc)) <;> first | rfl | (subst hc; rfl)), by (simp; first | done | omega), by (simp; first | done | omega)⟩ ?_; conv => whnf)
    | (refine SAnd.mk (by first | exact rfl | kernel_rfl | omega | decide | exact hsp | exact neq_string 9 ⟨sigL.toArray⟩ _ | exact s1) ?_; conv => whnf)
    | fail)
  exact ⟨PLe.refl _⟩
set_option maxHeartbeats 8000000 in
theorem parseSignal2 {m : Int} (l w1 w2 w3 w4 w5 w6 : List UInt8) (v1 v2 v3 v4 v5 v6 : Int) (hsp : APure (C m) 78 [St ⟨l.toArray⟩, .v (.int .u8 32)] (seven7 sigL w1 w2 w3 w4 w5 w6)) (s1 : APure (C m) 180 [St ⟨w1.toArray⟩] (.tup [I v1, Bo true])) (s2 : APure (C m) 180 [St ⟨w2.toArray⟩] (.tup [I v2, Bo false])) :
    APure (C m) 144 [St ⟨l.toArray⟩] (.tup [.agg (sc S0), Bo false]) := by
  have e10 : wrapK IntKind.i64 (1 + 0) = 1 := by kernel_rfl
  have e01 : wrapK IntKind.i64 (0 + 1) = 1 := by kernel_rfl
  have e11 : wrapK IntKind.i64 (1 + 1) = 2 := by kernel_rfl
  refine APure.of_body good [2, 5] (fn := Tryz.f144) (by kernel_rfl) (by kernel_rfl) rfl rfl (by kernel_rfl) rfl (by kernel_rfl) ?_
  conv => whnf
  repeat' (first
    | (refine codeK_sound good (mu := [2, 5]) ?_; conv => whnf)
    | ((first | rw [wl0] | rw [wl1] | rw [wl2] | rw [wl3] | rw [wl4] | rw [wl5]); conv => whnf)
    | (rw [e11]; conv => whnf)
    | (rw [e01]; conv => whnf)
    | (rw [e10]; conv => whnf)
    | (refine SBool.mk (fun _ => ?_) (fun h => absurd (of_decide_eq_true rfl) h); conv => whnf)
    | (refine SBool.mk (fun h => absurd h (of_decide_eq_false rfl)) (fun _ => ?_); conv => whnf)
    | (refine SBool.mk (fun h => ?_) (fun h => ?_) <;> conv => whnf)
    | refine SCode.mk (AWp.rounds 7 ?_)
    | (refine SEx.mk _ (by first | exact hsp | exact neq_string 9 ⟨sigL.toArray⟩ _ | exact s1 | exact s2) ?_; conv => whnf)
    | (refine SEx.mk _ (by first | exact rfl | exact ⟨of_decide_eq_true rfl, rfl⟩) ?_; conv => whnf)
    | (refine SAll.mk (fun _ => ?_); conv => whnf)
    | (refine SAnd.mk (by first | exact hsp) ?_; conv => whnf)
    | (refine SAnd.mk ⟨by intro c hc; simp at hc; first | (subst hc; rfl) | ((repeat' (rcases hc with rfl | hc)) <;> first | rfl | (subst hc; rfl)), by (simp; first | done | omega), by (simp; first | done | omega)⟩ ?_; conv => whnf)
    | (refine SAnd.mk (by first | exact rfl | kernel_rfl | omega | decide | exact hsp | exact neq_string 9 ⟨sigL.toArray⟩ _ | exact s1 | exact s2) ?_; conv => whnf)
    | fail)
  exact ⟨PLe.refl _⟩
set_option maxHeartbeats 8000000 in
theorem parseSignal3 {m : Int} (l w1 w2 w3 w4 w5 w6 : List UInt8) (v1 v2 v3 v4 v5 v6 : Int) (hsp : APure (C m) 78 [St ⟨l.toArray⟩, .v (.int .u8 32)] (seven7 sigL w1 w2 w3 w4 w5 w6)) (s1 : APure (C m) 180 [St ⟨w1.toArray⟩] (.tup [I v1, Bo true])) (s2 : APure (C m) 180 [St ⟨w2.toArray⟩] (.tup [I v2, Bo true])) (s3 : APure (C m) 180 [St ⟨w3.toArray⟩] (.tup [I v3, Bo false])) :
    APure (C m) 144 [St ⟨l.toArray⟩] (.tup [.agg (sc S0), Bo false]) := by
  have e10 : wrapK IntKind.i64 (1 + 0) = 1 := by kernel_rfl
  have e01 : wrapK IntKind.i64 (0 + 1) = 1 := by kernel_rfl
  have e11 : wrapK IntKind.i64 (1 + 1) = 2 := by kernel_rfl
  have e12 : wrapK IntKind.i64 (1 + 2) = 3 := by kernel_rfl
  have e21 : wrapK IntKind.i64 (2 + 1) = 3 := by kernel_rfl
  refine APure.of_body good [2, 5] (fn := Tryz.f144) (by kernel_rfl) (by kernel_rfl) rfl rfl (by kernel_rfl) rfl (by kernel_rfl) ?_
  conv => whnf
  repeat' (first
    | (refine codeK_sound good (mu := [2, 5]) ?_; conv => whnf)
    | ((first | rw [wl0] | rw [wl1] | rw [wl2] | rw [wl3] | rw [wl4] | rw [wl5]); conv => whnf)
    | (rw [e21]; conv => whnf)
    | (rw [e12]; conv => whnf)
    | (rw [e11]; conv => whnf)
    | (rw [e01]; conv => whnf)
    | (rw [e10]; conv => whnf)
    | (refine SBool.mk (fun _ => ?_) (fun h => absurd (of_decide_eq_true rfl) h); conv => whnf)
    | (refine SBool.mk (fun h => absurd h (of_decide_eq_false rfl)) (fun _ => ?_); conv => whnf)
    | (refine SBool.mk (fun h => ?_) (fun h => ?_) <;> conv => whnf)
    | refine SCode.mk (AWp.rounds 7 ?_)
    | (refine SEx.mk _ (by first | exact hsp | exact neq_string 9 ⟨sigL.toArray⟩ _ | exact s1 | exact s2 | exact s3) ?_; conv => whnf)
    | (refine SEx.mk _ (by first | exact rfl | exact ⟨of_decide_eq_true rfl, rfl⟩) ?_; conv => whnf)
    | (refine SAll.mk (fun _ => ?_); conv => whnf)
    | (refine SAnd.mk (by first | exact hsp) ?_; conv => whnf)
    | (refine SAnd.mk ⟨by intro c hc; simp at hc; first | (subst hc; rfl) | ((repeat' (rcases hc with rfl | hc)) <;> first | rfl | (subst hc; rfl)), by (simp; first | done | omega), by (simp; first | done | omega)⟩ ?_; conv => whnf)
    | (refine SAnd.mk (by first | exact rfl | kernel_rfl | omega | decide | exact hsp | exact neq_string 9 ⟨sigL.toArray⟩ _ | exact s1 | exact s2 | exact s3) ?_; conv => whnf)
    | fail)
  exact ⟨PLe.refl _⟩
set_option maxHeartbeats 8000000 in
theorem parseSignal4 {m : Int} (l w1 w2 w3 w4 w5 w6 : List UInt8) (v1 v2 v3 v4 v5 v6 : Int) (hsp : APure (C m) 78 [St ⟨l.toArray⟩, .v (.int .u8 32)] (seven7 sigL w1 w2 w3 w4 w5 w6)) (s1 : APure (C m) 180 [St ⟨w1.toArray⟩] (.tup [I v1, Bo true])) (s2 : APure (C m) 180 [St ⟨w2.toArray⟩] (.tup [I v2, Bo true])) (s3 : APure (C m) 180 [St ⟨w3.toArray⟩] (.tup [I v3, Bo true])) (s4 : APure (C m) 180 [St ⟨w4.toArray⟩] (.tup [I v4, Bo false])) :
    APure (C m) 144 [St ⟨l.toArray⟩] (.tup [.agg (sc S0), Bo false]) := by
  have e10 : wrapK IntKind.i64 (1 + 0) = 1 := by kernel_rfl
  have e01 : wrapK IntKind.i64 (0 + 1) = 1 := by kernel_rfl
  have e11 : wrapK IntKind.i64 (1 + 1) = 2 := by kernel_rfl
  have e12 : wrapK IntKind.i64 (1 + 2) = 3 := by kernel_rfl
  have e21 : wrapK IntKind.i64 (2 + 1) = 3 := by kernel_rfl
  have e13 : wrapK IntKind.i64 (1 + 3) = 4 := by kernel_rfl
  have e31 : wrapK IntKind.i64 (3 + 1) = 4 := by kernel_rfl
  refine APure.of_body good [2, 5] (fn := Tryz.f144) (by kernel_rfl) (by kernel_rfl) rfl rfl (by kernel_rfl) rfl (by kernel_rfl) ?_
  conv => whnf
  repeat' (first
    | (refine codeK_sound good (mu := [2, 5]) ?_; conv => whnf)
    | ((first | rw [wl0] | rw [wl1] | rw [wl2] | rw [wl3] | rw [wl4] | rw [wl5]); conv => whnf)
    | (rw [e31]; conv => whnf)
    | (rw [e13]; conv => whnf)
    | (rw [e21]; conv => whnf)
    | (rw [e12]; conv => whnf)
    | (rw [e11]; conv => whnf)
    | (rw [e01]; conv => whnf)
    | (rw [e10]; conv => whnf)
    | (refine SBool.mk (fun _ => ?_) (fun h => absurd (of_decide_eq_true rfl) h); conv => whnf)
    | (refine SBool.mk (fun h => absurd h (of_decide_eq_false rfl)) (fun _ => ?_); conv => whnf)
    | (refine SBool.mk (fun h => ?_) (fun h => ?_) <;> conv => whnf)
    | refine SCode.mk (AWp.rounds 7 ?_)
    | (refine SEx.mk _ (by first | exact hsp | exact neq_string 9 ⟨sigL.toArray⟩ _ | exact s1 | exact s2 | exact s3 | exact s4) ?_; conv => whnf)
    | (refine SEx.mk _ (by first | exact rfl | exact ⟨of_decide_eq_true rfl, rfl⟩) ?_; conv => whnf)
    | (refine SAll.mk (fun _ => ?_); conv => whnf)
    | (refine SAnd.mk (by first | exact hsp) ?_; conv => whnf)
    | (refine SAnd.mk ⟨by intro c hc; simp at hc; first | (subst hc; rfl) | ((repeat' (rcases hc with rfl | hc)) <;> first | rfl | (subst hc; rfl)), by (simp; first | done | omega), by (simp; first | done | omega)⟩ ?_; conv => whnf)
    | (refine SAnd.mk (by first | exact rfl | kernel_rfl | omega | decide | exact hsp | exact neq_string 9 ⟨sigL.toArray⟩ _ | exact s1 | exact s2 | exact s3 | exact s4) ?_; conv => whnf)
    | fail)
  exact ⟨PLe.refl _⟩
set_option maxHeartbeats 8000000 in
theorem parseSignal5 {m : Int} (l w1 w2 w3 w4 w5 w6 : List UInt8) (v1 v2 v3 v4 v5 v6 : Int) (hsp : APure (C m) 78 [St ⟨l.toArray⟩, .v (.int .u8 32)] (seven7 sigL w1 w2 w3 w4 w5 w6)) (s1 : APure (C m) 180 [St ⟨w1.toArray⟩] (.tup [I v1, Bo true])) (s2 : APure (C m) 180 [St ⟨w2.toArray⟩] (.tup [I v2, Bo true])) (s3 : APure (C m) 180 [St ⟨w3.toArray⟩] (.tup [I v3, Bo true])) (s4 : APure (C m) 180 [St ⟨w4.toArray⟩] (.tup [I v4, Bo true])) (s5 : APure (C m) 180 [St ⟨w5.toArray⟩] (.tup [I v5, Bo false])) :
    APure (C m) 144 [St ⟨l.toArray⟩] (.tup [.agg (sc S0), Bo false]) := by
  have e10 : wrapK IntKind.i64 (1 + 0) = 1 := by kernel_rfl
  have e01 : wrapK IntKind.i64 (0 + 1) = 1 := by kernel_rfl
  have e11 : wrapK IntKind.i64 (1 + 1) = 2 := by kernel_rfl
  have e12 : wrapK IntKind.i64 (1 + 2) = 3 := by kernel_rfl
  have e21 : wrapK IntKind.i64 (2 + 1) = 3 := by kernel_rfl
  have e13 : wrapK IntKind.i64 (1 + 3) = 4 := by kernel_rfl
  have e31 : wrapK IntKind.i64 (3 + 1) = 4 := by kernel_rfl
  have e14 : wrapK IntKind.i64 (1 + 4) = 5 := by kernel_rfl
  have e41 : wrapK IntKind.i64 (4 + 1) = 5 := by kernel_rfl
  refine APure.of_body good [2, 5] (fn := Tryz.f144) (by kernel_rfl) (by kernel_rfl) rfl rfl (by kernel_rfl) rfl (by kernel_rfl) ?_
  conv => whnf
  repeat' (first
    | (refine codeK_sound good (mu := [2, 5]) ?_; conv => whnf)
    | ((first | rw [wl0] | rw [wl1] | rw [wl2] | rw [wl3] | rw [wl4] | rw [wl5]); conv => whnf)
    | (rw [e41]; conv => whnf)
    | (rw [e14]; conv => whnf)
    | (rw [e31]; conv => whnf)
    | (rw [e13]; conv => whnf)
    | (rw [e21]; conv => whnf)
    | (rw [e12]; conv => whnf)
    | (rw [e11]; conv => whnf)
    | (rw [e01]; conv => whnf)
    | (rw [e10]; conv => whnf)
    | (refine SBool.mk (fun _ => ?_) (fun h => absurd (of_decide_eq_true rfl) h); conv => whnf)
    | (refine SBool.mk (fun h => absurd h (of_decide_eq_false rfl)) (fun _ => ?_); conv => whnf)
    | (refine SBool.mk (fun h => ?_) (fun h => ?_) <;> conv => whnf)
    | refine SCode.mk (AWp.rounds 7 ?_)
    | (refine SEx.mk _ (by first | exact hsp | exact neq_string 9 ⟨sigL.toArray⟩ _ | exact s1 | exact s2 | exact s3 | exact s4 | exact s5) ?_; conv => whnf)
    | (refine SEx.mk _ (by first | exact rfl | exact ⟨of_decide_eq_true rfl, rfl⟩) ?_; conv => whnf)
    | (refine SAll.mk (fun _ => ?_); conv => whnf)
    | (refine SAnd.mk (by first | exact hsp) ?_; conv => whnf)
    | (refine SAnd.mk ⟨by intro c hc; simp at hc; first | (subst hc; rfl) | ((repeat' (rcases hc with rfl | hc)) <;> first | rfl | (subst hc; rfl)), by (simp; first | done | omega), by (simp; first | done | omega)⟩ ?_; conv => whnf)
    | (refine SAnd.mk (by first | exact rfl | kernel_rfl | omega | decide | exact hsp | exact neq_string 9 ⟨sigL.toArray⟩ _ | exact s1 | exact s2 | exact s3 | exact s4 | exact s5) ?_; conv => whnf)
    | fail)
  exact ⟨PLe.refl _⟩
set_option maxHeartbeats 8000000 in
theorem parseSignal6 {m : Int} (l w1 w2 w3 w4 w5 w6 : List UInt8) (v1 v2 v3 v4 v5 v6 : Int) (hsp : APure (C m) 78 [St ⟨l.toArray⟩, .v (.int .u8 32)] (seven7 sigL w1 w2 w3 w4 w5 w6)) (s1 : APure (C m) 180 [St ⟨w1.toArray⟩] (.tup [I v1, Bo true])) (s2 : APure (C m) 180 [St ⟨w2.toArray⟩] (.tup [I v2, Bo true])) (s3 : APure (C m) 180 [St ⟨w3.toArray⟩] (.tup [I v3, Bo true])) (s4 : APure (C m) 180 [St ⟨w4.toArray⟩] (.tup [I v4, Bo true])) (s5 : APure (C m) 180 [St ⟨w5.toArray⟩] (.tup [I v5, Bo true])) (s6 : APure (C m) 180 [St ⟨w6.toArray⟩] (.tup [I v6, Bo false])) :
    APure (C m) 144 [St ⟨l.toArray⟩] (.tup [.agg (sc S0), Bo false]) := by
  have e10 : wrapK IntKind.i64 (1 + 0) = 1 := by kernel_rfl
  have e01 : wrapK IntKind.i64 (0 + 1) = 1 := by kernel_rfl
  have e11 : wrapK IntKind.i64 (1 + 1) = 2 := by kernel_rfl
  have e12 : wrapK IntKind.i64 (1 + 2) = 3 := by kernel_rfl
  have e21 : wrapK IntKind.i64 (2 + 1) = 3 := by kernel_rfl
  have e13 : wrapK IntKind.i64 (1 + 3) = 4 := by kernel_rfl
  have e31 : wrapK IntKind.i64 (3 + 1) = 4 := by kernel_rfl
  have e14 : wrapK IntKind.i64 (1 + 4) = 5 := by kernel_rfl
  have e41 : wrapK IntKind.i64 (4 + 1) = 5 := by kernel_rfl
  have e15 : wrapK IntKind.i64 (1 + 5) = 6 := by kernel_rfl
  have e51 : wrapK IntKind.i64 (5 + 1) = 6 := by kernel_rfl
  refine APure.of_body good [2, 5] (fn := Tryz.f144) (by kernel_rfl) (by kernel_rfl) rfl rfl (by kernel_rfl) rfl (by kernel_rfl) ?_
  conv => whnf
  repeat' (first
    | (refine codeK_sound good (mu := [2, 5]) ?_; conv => whnf)
    | ((first | rw [wl0] | rw [wl1] | rw [wl2] | rw [wl3] | rw [wl4] | rw [wl5]); conv => whnf)
    | (rw [e51]; conv => whnf)
    | (rw [e15]; conv => whnf)
    | (rw [e41]; conv => whnf)
    | (rw [e14]; conv => whnf)
    | (rw [e31]; conv => whnf)
    | (rw [e13]; conv => whnf)
    | (rw [e21]; conv => whnf)
    | (rw [e12]; conv => whnf)
    | (rw [e11]; conv => whnf)
    | (rw [e01]; conv => whnf)
    | (rw [e10]; conv => whnf)
    | (refine SBool.mk (fun _ => ?_) (fun h => absurd (of_decide_eq_true rfl) h); conv => whnf)
    | (refine SBool.mk (fun h => absurd h (of_decide_eq_false rfl)) (fun _ => ?_); conv => whnf)
    | (refine SBool.mk (fun h => ?_) (fun h => ?_) <;> conv => whnf)
    | refine SCode.mk (AWp.rounds 7 ?_)
    | (refine SEx.mk _ (by first | exact hsp | exact neq_string 9 ⟨sigL.toArray⟩ _ | exact s1 | exact s2 | exact s3 | exact s4 | exact s5 | exact s6) ?_; conv => whnf)
    | (refine SEx.mk _ (by first | exact rfl | exact ⟨of_decide_eq_true rfl, rfl⟩) ?_; conv => whnf)
    | (refine SAll.mk (fun _ => ?_); conv => whnf)
    | (refine SAnd.mk (by first | exact hsp) ?_; conv => whnf)
    | (refine SAnd.mk ⟨by intro c hc; simp at hc; first | (subst hc; rfl) | ((repeat' (rcases hc with rfl | hc)) <;> first | rfl | (subst hc; rfl)), by (simp; first | done | omega), by (simp; first | done | omega)⟩ ?_; conv => whnf)
    | (refine SAnd.mk (by first | exact rfl | kernel_rfl | omega | decide | exact hsp | exact neq_string 9 ⟨sigL.toArray⟩ _ | exact s1 | exact s2 | exact s3 | exact s4 | exact s5 | exact s6) ?_; conv => whnf)
    | fail)
  exact ⟨PLe.refl _⟩
theorem parseSignal_pure {m : Int} (l : List UInt8) (hl : l.length ≤ 1000000) : APure (C m) 144 [St ⟨l.toArray⟩] (.tup [.agg (sc (refSg l).1), Bo (refSg l).2]) := by
  have hsp := Split_pure (m := m) l 32 hl
  have sg : ∀ w : List UInt8, APure (C m) 180 [St ⟨w.toArray⟩] (.tup [I (inB w).1, Bo (inB w).2]) := fun w => Signed_pure w
  unfold refSg
  generalize splitG 32 l = ws at hsp
  by_cases h7 : ws.length = 7
  · obtain ⟨w0, w1, w2, w3, w4, w5, w6, rfl⟩ := seven h7
    by_cases h0 : w0 = sigL
    · subst h0
      have key : ∀ w, ∃ v b, inB w = (v, b) := fun w => ⟨_, _, rfl⟩
      obtain ⟨v1, b1, i1⟩ := key w1
      obtain ⟨v2, b2, i2⟩ := key w2
      obtain ⟨v3, b3, i3⟩ := key w3
      obtain ⟨v4, b4, i4⟩ := key w4
      obtain ⟨v5, b5, i5⟩ := key w5
      obtain ⟨v6, b6, i6⟩ := key w6
      have s1 := sg w1; have s2 := sg w2; have s3 := sg w3; have s4 := sg w4; have s5 := sg w5; have s6 := sg w6
      rw [i1] at s1; rw [i2] at s2; rw [i3] at s3; rw [i4] at s4; rw [i5] at s5; rw [i6] at s6
      unfold refSgW
      simp only [i1, i2, i3, i4, i5, i6]
      cases b1
      · exact parseSignal1 l w1 w2 w3 w4 w5 w6 v1 v2 v3 v4 v5 v6 hsp s1
      cases b2
      · exact parseSignal2 l w1 w2 w3 w4 w5 w6 v1 v2 v3 v4 v5 v6 hsp s1 s2
      cases b3
      · exact parseSignal3 l w1 w2 w3 w4 w5 w6 v1 v2 v3 v4 v5 v6 hsp s1 s2 s3
      cases b4
      · exact parseSignal4 l w1 w2 w3 w4 w5 w6 v1 v2 v3 v4 v5 v6 hsp s1 s2 s3 s4
      cases b5
      · exact parseSignal5 l w1 w2 w3 w4 w5 w6 v1 v2 v3 v4 v5 v6 hsp s1 s2 s3 s4 s5
      cases b6
      · exact parseSignal6 l w1 w2 w3 w4 w5 w6 v1 v2 v3 v4 v5 v6 hsp s1 s2 s3 s4 s5 s6
      · exact parseSignal0 l w1 w2 w3 w4 w5 w6 v1 v2 v3 v4 v5 v6 hsp s1 s2 s3 s4 s5 s6
    · have hne : ∀ w, (binOp .neq 9 (.string ⟨w0.toArray⟩) (.string ⟨sigL.toArray⟩)).run (C m).P w = .ok (.bool true) w := fun w => by
        have := neq_string 9 ⟨w0.toArray⟩ ⟨sigL.toArray⟩ w
        have hx : decide ((⟨w0.toArray⟩ : ByteArray) ≠ ⟨sigL.toArray⟩) = true := decide_eq_true (fun e => h0 (by injection e with e; simpa using congrArg Array.toList e))
        rw [hx] at this
        exact this
      have e : refSgW [w0, w1, w2, w3, w4, w5, w6] = (S0, false) := by
        exact if_neg (fun h => h0 h.1)
      rw [e]
      refine APure.of_body good [2, 5] (fn := Tryz.f144) (by kernel_rfl) (by kernel_rfl) rfl rfl (by kernel_rfl) rfl (by kernel_rfl) ?_
      conv => whnf
      repeat' (first
        | (refine codeK_sound good (mu := [2, 5]) ?_; conv => whnf)
        | ((first | rw [wl0] | rw [wl1] | rw [wl2] | rw [wl3] | rw [wl4] | rw [wl5]); conv => whnf)
        | (refine SBool.mk (fun _ => ?_) (fun h => absurd (of_decide_eq_true rfl) h); conv => whnf)
        | (refine SBool.mk (fun h => absurd h (of_decide_eq_false rfl)) (fun _ => ?_); conv => whnf)
        | (refine SBool.mk (fun h => ?_) (fun h => ?_) <;> conv => whnf)
        | (refine SEx.mk _ (by first | exact hsp | exact hne) ?_; conv => whnf)
        | (refine SEx.mk _ (by first | exact rfl | exact ⟨of_decide_eq_true rfl, rfl⟩) ?_; conv => whnf)
        | (refine SAll.mk (fun _ => ?_); conv => whnf)
        | (refine SAnd.mk (by first | exact hsp | exact hne) ?_; conv => whnf)
        | (refine SAnd.mk ⟨by intro c hc; simp at hc; first | (subst hc; rfl) | ((repeat' (rcases hc with rfl | hc)) <;> first | rfl | (subst hc; rfl)), by (simp; first | done | omega), by (simp; first | done | omega)⟩ ?_; conv => whnf)
        | (refine SAnd.mk (by first | exact rfl | kernel_rfl | omega | decide | exact hsp | exact hne) ?_; conv => whnf)
        | fail)
      exact ⟨PLe.refl _⟩
  · rw [refSgW_len h7]
    have hn : ¬ (((cellsS (bytesL ws)).length : Nat) : Int) = 7 := by simp only [List.length_map]; omega
    refine APure.of_body good [2, 5] (fn := Tryz.f144) (by kernel_rfl) (by kernel_rfl) rfl rfl (by kernel_rfl) rfl (by kernel_rfl) ?_
    conv => whnf
    repeat' (first
      | (refine codeK_sound good (mu := [2, 5]) ?_; conv => whnf)
      | ((first | rw [wl0] | rw [wl1] | rw [wl2] | rw [wl3] | rw [wl4] | rw [wl5]); conv => whnf)
      | (refine SBool.mk (fun _ => ?_) (fun h => absurd (of_decide_eq_true rfl) h); conv => whnf)
      | (refine SBool.mk (fun h => absurd h (of_decide_eq_false rfl)) (fun _ => ?_); conv => whnf)
      | (refine SBool.mk (fun h => ?_) (fun h => ?_) <;> conv => whnf)
      | (refine SEx.mk _ (by first | exact hsp) ?_; conv => whnf)
      | (refine SEx.mk _ (by first | exact rfl | exact ⟨of_decide_eq_true rfl, rfl⟩) ?_; conv => whnf)
      | (refine SAll.mk (fun _ => ?_); conv => whnf)
      | (refine SAnd.mk (by first | exact hsp) ?_; conv => whnf)
      | (refine SAnd.mk ⟨by intro c hc; simp at hc; first | (subst hc; rfl) | ((repeat' (rcases hc with rfl | hc)) <;> first | rfl | (subst hc; rfl)), by (simp; first | done | omega), by (simp; first | done | omega)⟩ ?_; conv => whnf)
      | (refine SAnd.mk (by first | exact rfl | kernel_rfl | omega | decide | exact hsp) ?_; conv => whnf)
      | fail)
    all_goals first
      | exact ⟨PLe.refl _⟩
      | exact absurd (by assumption) hn
end Go.Proofs.Ab.Tone2
end
section
/- The reference's signals and its follower; the law's lists. -/
set_option maxRecDepth 100000
set_option linter.unusedVariables false
set_option linter.unusedSimpArgs false
namespace Go.Proofs.Ab.Tone2
open Go Go.RowKit Go.Proofs.Ab Go.Proofs.Ab.Tone
theorem checks_drop {xs : List Sg} {k : Nat} (h : k < xs.length) : firstOf ((xs.drop k).map checkE) = if checkE xs[k] = 0 then firstOf ((xs.drop (k + 1)).map checkE) else checkE xs[k] := by
  rw [List.drop_eq_getElem_cons h]
  rfl
theorem refCheckSignal_pure' (s : Sg) : APure Tone.C 18 [.agg (sc s)] (I (checkE s)) := refCheckE_eq s ▸ refCheckSignal_pure s
theorem checkL_small {xs : List Sg} (h0 : ¬ ((xs.map sc).length : Int) = 0) (h1 : ¬ 256 < ((xs.map sc).length : Int)) : checkL xs = firstOf (xs.map checkE) := by
  have e0 : (xs.map sc).length = xs.length := by simp
  rw [e0] at h0 h1
  have hz : sizedE xs.length 256 = 0 := by
    unfold sizedE
    rw [if_neg (by omega), if_neg (by omega)]
  unfold checkL
  rw [hz]
  simp only [firstOf]
  by_cases h : firstOf (xs.map checkE) = 0 <;> simp [h]
theorem checkL_big {xs : List Sg} (h1 : 256 < ((xs.map sc).length : Int)) : checkL xs = 5 := by
  have e0 : (xs.map sc).length = xs.length := by simp
  rw [e0] at h1
  have hz : sizedE xs.length 256 = 5 := by
    unfold sizedE
    rw [if_neg (by omega), if_pos (by omega)]
  unfold checkL
  rw [hz]
  simp [firstOf]
theorem checkL_none {xs : List Sg} (h1 : ((xs.map sc).length : Int) = 0) : checkL xs = 12 := by
  have e0 : (xs.map sc).length = xs.length := by simp
  rw [e0] at h1
  have hz : sizedE xs.length 256 = 12 := by
    unfold sizedE
    rw [if_pos (by omega)]
  unfold checkL
  rw [hz]
  simp [firstOf]
theorem refSignals_pure {m : Int} (xs : List Sg) (hl : xs.length ≤ 1000000) : APure (C m) 44 [.seq 6 (xs.map sc)] (I (checkL xs)) := by
  have e0 : (xs.map sc).length = xs.length := by simp
  refine APure.of_body good [] (fn := Tryz.f44) (by kernel_rfl) (by kernel_rfl) rfl rfl (by kernel_rfl) rfl (by kernel_rfl) ?_
  conv => whnf
  repeat' (first
    | (refine codeK_sound good (mu := []) ?_; conv => whnf)
    | ((first | rw [wl0] | rw [wl1] | rw [wl2] | rw [wl3] | rw [wl4] | rw [wl5]); conv => whnf)
    | (refine SBool.mk (fun _ => ?_) (fun h => absurd (of_decide_eq_true rfl) h); conv => whnf)
    | (refine SBool.mk (fun h => absurd h (of_decide_eq_false rfl)) (fun _ => ?_); conv => whnf)
    | (refine SBool.mk (fun h => ?_) (fun h => ?_) <;> conv => whnf)
    | (refine SEx.mk _ (by first | exact up (refWhen_pure _ _) | exact up (refFirst2_pure _ _)) ?_; conv => whnf)
    | (refine SEx.mk _ (by first | exact rfl | exact ⟨of_decide_eq_true rfl, rfl⟩) ?_; conv => whnf)
    | (refine SAll.mk (fun _ => ?_); conv => whnf)
    | (refine SAnd.mk ⟨by intro c hc; simp at hc; first | (subst hc; rfl) | ((repeat' (rcases hc with rfl | hc)) <;> first | rfl | (subst hc; rfl)), by (simp; first | done | omega), by (simp; first | done | omega)⟩ ?_; conv => whnf)
    | (refine SAnd.mk (by first | exact rfl | kernel_rfl | omega | decide | exact up (refWhen_pure _ _) | exact up (refFirst2_pure _ _)) ?_; conv => whnf)
    | fail)
  · rename_i h0 h1
    exact absurd h1 (by omega)
  · rename_i h0 h1
    exact ⟨PLe.of_eq (by rw [checkL_none h0]; rfl)⟩
  · rename_i h0 h1
    exact ⟨PLe.of_eq (by rw [checkL_big h]; rfl)⟩
  · rename_i h0 h1
    have hc := checkL_small h0 h
    refine ⟨AWp.loop (ι := { k : Nat // k ≤ xs.length ∧ firstOf (xs.map checkE) = firstOf ((xs.drop k).map checkE) }) (fun k => ⟨[(4, .p (I k.1)), (0, .p (.seq 6 (xs.map sc)))], [], [], 0, [], [], []⟩) (fun k => xs.length - k.1) ⟨0, by simp⟩ ?_ ?_⟩
    · skip
      · refine SLe.of [] [] rfl rfl ?_
        conv => whnf
        repeat' (first
        | exact True.intro
        | (refine SAnd.mk (PLe.of_eq (by simp only [wrapK]; rw [wrap_id (by first | omega | (simp only; done) | (simp only; omega) | simp) (by first | omega | (simp only; done) | (simp only; omega) | simp)]; simp)) ?_; conv => whnf)
        | (refine SAnd.mk (PLe.refl _) ?_; conv => whnf)
        | (refine SAnd.mk (PLeL.refl _) ?_; conv => whnf)
        | (refine SAnd.mk (PLe.of_eq (by simp)) ?_; conv => whnf)
        | (refine SAnd.mk rfl ?_; conv => whnf)
        | (refine SAnd.mk ⟨rfl, rfl⟩ ?_; conv => whnf)
        | (refine SAnd.mk ⟨rfl, rfl, rfl⟩ ?_; conv => whnf))
    · rintro ⟨k, hk, he⟩
      refine codeK_sound good (mu := []) ?_
      conv => whnf
      refine SBool.mk (fun hq => ?_) (fun hq => ?_)
      · conv => whnf
        have hkl : k < xs.length := by simpa using hq
        refine SEx.mk (sc xs[k]) (by simp [hkl]) ?_
        conv => whnf
        conv => whnf
        repeat' (first
          | (refine codeK_sound good (mu := []) ?_; conv => whnf)
          | ((first | rw [wl0] | rw [wl1] | rw [wl2] | rw [wl3] | rw [wl4] | rw [wl5]); conv => whnf)
          | (refine SBool.mk (fun _ => ?_) (fun h => absurd (of_decide_eq_true rfl) h); conv => whnf)
          | (refine SBool.mk (fun h => absurd h (of_decide_eq_false rfl)) (fun _ => ?_); conv => whnf)
          | (refine SBool.mk (fun h => ?_) (fun h => ?_) <;> conv => whnf)
          | (refine SEx.mk _ (by first | exact up (refCheckSignal_pure' xs[k])) ?_; conv => whnf)
          | (refine SEx.mk _ (by first | exact rfl | exact ⟨of_decide_eq_true rfl, rfl⟩) ?_; conv => whnf)
          | (refine SAll.mk (fun _ => ?_); conv => whnf)
          | (refine SAnd.mk ⟨by intro c hc; simp at hc; first | (subst hc; rfl) | ((repeat' (rcases hc with rfl | hc)) <;> first | rfl | (subst hc; rfl)), by (simp; first | done | omega), by (simp; first | done | omega)⟩ ?_; conv => whnf)
          | (refine SAnd.mk (by first | exact rfl | kernel_rfl | omega | decide | exact up (refCheckSignal_pure' xs[k])) ?_; conv => whnf)
          | fail)
        · refine ⟨⟨k + 1, by omega, by rw [he, checks_drop hkl, if_pos h]⟩, by simp only; omega, ?_⟩
          skip
          · refine SLe.of [] [] rfl rfl ?_
            conv => whnf
            repeat' (first
            | exact True.intro
            | (refine SAnd.mk (PLe.of_eq (by simp only [wrapK]; rw [wrap_id (by first | omega | (simp only; done) | (simp only; omega) | simp) (by first | omega | (simp only; done) | (simp only; omega) | simp)]; simp)) ?_; conv => whnf)
            | (refine SAnd.mk (PLe.refl _) ?_; conv => whnf)
            | (refine SAnd.mk (PLeL.refl _) ?_; conv => whnf)
            | (refine SAnd.mk (PLe.of_eq (by simp)) ?_; conv => whnf)
            | (refine SAnd.mk rfl ?_; conv => whnf)
            | (refine SAnd.mk ⟨rfl, rfl⟩ ?_; conv => whnf)
            | (refine SAnd.mk ⟨rfl, rfl, rfl⟩ ?_; conv => whnf))
        · exact ⟨PLe.of_eq (by rw [hc, he, checks_drop hkl, if_neg h])⟩
      · conv => whnf
        have : k = xs.length := by simp at hq; omega
        exact ⟨PLe.of_eq (by rw [hc, he, this]; simp [firstOf])⟩
/-- The law's list of signals as the program's. -/
theorem signals_pure {m : Int} (xs : List Sg) (hl : xs.length ≤ 1000000) : APure (C m) 42 [.seq 6 (xs.map sc)] (.seq 6 (xs.map sc)) := by
  refine APure.of_body good [] (fn := Tryz.f42) (by kernel_rfl) (by kernel_rfl) rfl rfl (by kernel_rfl) rfl (by kernel_rfl) ?_
  conv => whnf
  repeat' (first
    | (refine codeK_sound good (mu := []) ?_; conv => whnf)
    | ((first | rw [wl0] | rw [wl1] | rw [wl2] | rw [wl3] | rw [wl4] | rw [wl5]); conv => whnf)
    | (refine SBool.mk (fun _ => ?_) (fun h => absurd (of_decide_eq_true rfl) h); conv => whnf)
    | (refine SBool.mk (fun h => absurd h (of_decide_eq_false rfl)) (fun _ => ?_); conv => whnf)
    | (refine SBool.mk (fun h => ?_) (fun h => ?_) <;> conv => whnf)
    | (refine SEx.mk _ (by first | exact rfl | exact ⟨of_decide_eq_true rfl, rfl⟩) ?_; conv => whnf)
    | (refine SAll.mk (fun _ => ?_); conv => whnf)
    | (refine SAnd.mk ⟨by intro c hc; simp at hc; first | (subst hc; rfl) | ((repeat' (rcases hc with rfl | hc)) <;> first | rfl | (subst hc; rfl)), by (simp; first | done | omega), by (simp; first | done | omega)⟩ ?_; conv => whnf)
    | (refine SAnd.mk (by first | exact rfl | kernel_rfl | omega | decide) ?_; conv => whnf)
    | fail)
  refine ⟨AWp.loop (ι := { k : Nat // k ≤ xs.length }) (fun k => ⟨[(8, .p (I k.1)), (7, .p (I xs.length)), (6, .p (.seq 6 (xs.map sc))), (3, .own 0)], [], [(0, (32, 6, (xs.take k.1).map sc))], 1, [], [], []⟩) (fun k => xs.length - k.1) ⟨0, by simp⟩ ?_ ?_⟩
  · refine SLe.row 3 32 6 ?_
    conv => whnf
    skip
    · refine SLe.of [] [(0, 0)] rfl rfl ?_
      conv => whnf
      repeat' (first
      | exact True.intro
      | (refine SAnd.mk (PLe.of_eq (by simp only [wrapK]; rw [wrap_id (by first | omega | (simp only; done) | (simp only; omega) | simp) (by first | omega | (simp only; done) | (simp only; omega) | simp)]; simp)) ?_; conv => whnf)
      | (refine SAnd.mk (PLe.refl _) ?_; conv => whnf)
      | (refine SAnd.mk (PLeL.refl _) ?_; conv => whnf)
      | (refine SAnd.mk (PLe.of_eq (by simp)) ?_; conv => whnf)
      | (refine SAnd.mk rfl ?_; conv => whnf)
      | (refine SAnd.mk ⟨rfl, rfl⟩ ?_; conv => whnf)
      | (refine SAnd.mk ⟨rfl, rfl, rfl⟩ ?_; conv => whnf))
  · rintro ⟨k, hk⟩
    refine codeK_sound good (mu := []) ?_
    conv => whnf
    refine SBool.mk (fun hc => ?_) (fun hc => ?_)
    · conv => whnf
      have hkl : k < xs.length := by simpa using hc
      have hsome : 0 ≤ (k : Int) ∧ (xs.map sc)[((k : Int)).toNat]? = some (sc xs[k]) := ⟨by omega, by show (xs.map sc)[k]? = _; simp [hkl]⟩
      conv => whnf
      repeat' (first
        | (refine codeK_sound good (mu := []) ?_; conv => whnf)
        | ((first | rw [wl0] | rw [wl1] | rw [wl2] | rw [wl3] | rw [wl4] | rw [wl5]); conv => whnf)
        | (refine SBool.mk (fun _ => ?_) (fun h => absurd (of_decide_eq_true rfl) h); conv => whnf)
        | (refine SBool.mk (fun h => absurd h (of_decide_eq_false rfl)) (fun _ => ?_); conv => whnf)
        | (refine SBool.mk (fun h => ?_) (fun h => ?_) <;> conv => whnf)
        | (refine SEx.mk _ (by first | exact hsome) ?_; conv => whnf)
        | (refine SEx.mk _ (by first | exact rfl | exact ⟨of_decide_eq_true rfl, rfl⟩) ?_; conv => whnf)
        | (refine SAll.mk (fun _ => ?_); conv => whnf)
        | (refine SAnd.mk (by first | exact hsome) ?_; conv => whnf)
        | (refine SAnd.mk ⟨by intro c hc; simp at hc; first | (subst hc; rfl) | ((repeat' (rcases hc with rfl | hc)) <;> first | rfl | (subst hc; rfl)), by (simp; first | done | omega), by (simp; first | done | omega)⟩ ?_; conv => whnf)
        | (refine SAnd.mk (by first | exact rfl | kernel_rfl | omega | decide | exact hsome) ?_; conv => whnf)
        | fail)
      refine ⟨⟨k + 1, by omega⟩, by simp only; omega, ?_⟩
      skip
      · refine SLe.of [] [(0, 2)] rfl rfl ?_
        conv => whnf
        repeat' (first
        | exact True.intro
        | (refine SAnd.mk ((take_map_succ hkl _).symm) ?_; conv => whnf)
        | (refine SAnd.mk (PLe.of_eq (by simp only [wrapK]; rw [wrap_id (by first | omega | (simp only; done) | (simp only; omega) | simp) (by first | omega | (simp only; done) | (simp only; omega) | simp)]; simp)) ?_; conv => whnf)
        | (refine SAnd.mk (PLe.refl _) ?_; conv => whnf)
        | (refine SAnd.mk (PLeL.refl _) ?_; conv => whnf)
        | (refine SAnd.mk (PLe.of_eq (by simp)) ?_; conv => whnf)
        | (refine SAnd.mk rfl ?_; conv => whnf)
        | (refine SAnd.mk ⟨rfl, rfl⟩ ?_; conv => whnf)
        | (refine SAnd.mk ⟨rfl, rfl, rfl⟩ ?_; conv => whnf))
    · conv => whnf
      have : k = xs.length := by simp at hc; omega
      subst this
      exact ⟨PLe.of_eq (by simp)⟩
end Go.Proofs.Ab.Tone2
end
section
/- The reference's Parse, and what compares lists. -/
set_option maxRecDepth 100000
set_option linter.unusedVariables false
set_option linter.unusedSimpArgs false
namespace Go.Proofs.Ab.Tone2
open Go Go.RowKit Go.Proofs.Ab Go.Proofs.Ab.Tone
/-- What the lines come to. -/
def refGo : List (List UInt8) → List Sg → List Sg × Int × Int
  | [], _ => ([], 0, 0)
  | [w], out => if w = [] then (if checkL out = 0 then (out, 0, 0) else ([], out.length, checkL out)) else ([], out.length, 25)
  | w :: w' :: ws, out => if (refSg w).2 = true then refGo (w' :: ws) (out ++ [(refSg w).1]) else ([], out.length, 25)
def refP (l : List UInt8) : List Sg × Int × Int := if 4096 < l.length then ([], 0, 26) else refGo (splitG 10 l) []
abbrev parseR (z : List Sg × Int × Int) : PV := .tup [if z.2.2 = 0 then .seq 6 (z.1.map sc) else nilS, I z.2.1, I z.2.2]
theorem splitG_len (b : UInt8) : ∀ l : List UInt8, 1 ≤ (splitG b l).length ∧ (splitG b l).length ≤ l.length + 1
  | [] => ⟨by simp [splitG], by simp [splitG]⟩
  | c :: l => by
    have ih := splitG_len b l
    unfold splitG
    split
    · simp only [List.length_cons]; omega
    · cases h : splitG b l with
      | nil => rw [h] at ih; simp at ih
      | cons w ws => rw [h] at ih; simp only [List.length_cons] at *; omega
theorem splitG_mem {b : UInt8} : ∀ {l w : List UInt8}, w ∈ splitG b l → w.length ≤ l.length
  | [], w, h => by simp [splitG] at h; rw [h]; exact Nat.le_refl _
  | c :: l, w, h => by
    unfold splitG at h
    split at h
    · rcases List.mem_cons.1 h with rfl | h
      · simp
      · have := splitG_mem h; simp only [List.length_cons]; omega
    · split at h
      · rename_i w' ws e
        rcases List.mem_cons.1 h with rfl | h
        · have := splitG_mem (l := l) (w := w') (by rw [e]; exact List.mem_cons_self)
          simp only [List.length_cons]; omega
        · have := splitG_mem (l := l) (w := w) (by rw [e]; exact List.mem_cons_of_mem _ h)
          simp only [List.length_cons]; omega
      · simp at h; rw [h]; simp
structure PaI (ls : List (List UInt8)) (k : Nat) (out : List Sg) : Prop where
  h1 : k + 1 ≤ ls.length
  h2 : out.length = k
  h3 : refGo ls [] = refGo (ls.drop k) out
theorem PaI.bad {ls : List (List UInt8)} {k : Nat} {out : List Sg} (h : PaI ls k out) (hk : k + 1 < ls.length) (hb : (refSg (ls[k]'(by omega))).2 = false) : refGo ls [] = ([], (k : Int), 25) := by
  rw [h.h3, List.drop_eq_getElem_cons (by omega : k < ls.length), List.drop_eq_getElem_cons hk]
  unfold refGo
  rw [if_neg (by rw [hb]; simp), h.h2]
theorem PaI.good {ls : List (List UInt8)} {k : Nat} {out : List Sg} (h : PaI ls k out) (hk : k + 1 < ls.length) (hb : (refSg (ls[k]'(by omega))).2 = true) : PaI ls (k + 1) (out ++ [(refSg (ls[k]'(by omega))).1]) := by
  refine ⟨hk, by simp [h.h2], ?_⟩
  rw [h.h3, List.drop_eq_getElem_cons (by omega : k < ls.length), List.drop_eq_getElem_cons hk]
  conv => lhs; unfold refGo
  rw [if_pos hb]
theorem PaI.fin {ls : List (List UInt8)} {k : Nat} {out : List Sg} (h : PaI ls k out) (hk : k + 1 = ls.length) : refGo ls [] = if ls[k]'(by omega) = [] then (if checkL out = 0 then (out, 0, 0) else ([], (k : Int), checkL out)) else ([], (k : Int), 25) := by
  rw [h.h3, List.drop_eq_getElem_cons (by omega : k < ls.length), List.drop_of_length_le (by omega)]
  unfold refGo
  rw [h.h2]
theorem shutM {C : Cx} {nt : Nat} {s u : AS} (n : Nat) (h : sealK s n fun s' => SLe C nt s' u) : SLe C nt s u := by
  obtain ⟨s', h, hs⟩ := sealK_sound (C := C) (nt := nt) h
  exact ⟨fun hS => let ⟨_, h1⟩ := hs hS; h.le h1⟩
theorem sc_one' (l : List Sg) : ∀ c ∈ (l.map sc).flatten, c.one = true := by
  intro c hc
  simp only [List.mem_flatten, List.mem_map] at hc
  obtain ⟨x, ⟨s, _, rfl⟩, h⟩ := hc
  simp only [List.mem_cons, List.not_mem_nil, or_false] at h
  rcases h with rfl | rfl | rfl | rfl | rfl | rfl <;> rfl
set_option maxHeartbeats 8000000 in
theorem refParse_pure {m : Int} (l : List UInt8) (hl : l.length ≤ 1000000) : APure (C m) 66 [St ⟨l.toArray⟩] (parseR (refP l)) := by
  have hbs : (⟨l.toArray⟩ : ByteArray).size = l.length := by simp [ByteArray.size]
  have hsp := Split_pure (m := m) l 10 hl
  have hsl := splitG_len 10 l
  have hsm := fun w h => splitG_mem (b := 10) (l := l) (w := w) h
  unfold refP
  by_cases hlong : 4096 < l.length
  · rw [if_pos hlong]
    have hx : 4096 < (((⟨l.toArray⟩ : ByteArray).size : Nat) : Int) := by rw [hbs]; omega
    refine APure.of_body good [] (fn := Tryz.f66) (by kernel_rfl) (by kernel_rfl) rfl rfl (by kernel_rfl) rfl (by kernel_rfl) ?_
    conv => whnf
    repeat' (first
      | (refine codeK_sound good (mu := []) ?_; conv => whnf)
      | ((first | rw [wl0] | rw [wl1] | rw [wl2] | rw [wl3] | rw [wl4] | rw [wl5]); conv => whnf)
      | (refine SBool.mk (fun _ => ?_) (fun h => absurd (of_decide_eq_true rfl) h); conv => whnf)
      | (refine SBool.mk (fun h => absurd h (of_decide_eq_false rfl)) (fun _ => ?_); conv => whnf)
      | (refine SBool.mk (fun h => ?_) (fun h => ?_) <;> conv => whnf)
      | (refine SEx.mk _ (by first | exact rfl | exact ⟨of_decide_eq_true rfl, rfl⟩) ?_; conv => whnf)
      | (refine SAll.mk (fun _ => ?_); conv => whnf)
      | (refine SAnd.mk ⟨by intro c hc; simp at hc; first | (subst hc; rfl) | ((repeat' (rcases hc with rfl | hc)) <;> first | rfl | (subst hc; rfl)), by (simp; first | done | omega), by (simp; first | done | omega)⟩ ?_; conv => whnf)
      | (refine SAnd.mk (by first | exact rfl | kernel_rfl | omega | decide) ?_; conv => whnf)
      | fail)
    · exact ⟨PLe.refl _⟩
    all_goals exact absurd hx (by assumption)
  · rw [if_neg hlong]
    have hx : ¬ 4096 < (((⟨l.toArray⟩ : ByteArray).size : Nat) : Int) := by rw [hbs]; omega
    generalize splitG 10 l = ls at hsp hsl hsm
    have hcl : ((cellsS (bytesL ls)).length : Int) = (ls.length : Int) := by simp
    have wl : wrapK IntKind.i64 (((cellsS (bytesL ls)).length : Int) - 1) = ((ls.length - 1 : Nat) : Int) := by rw [hcl]; exact (w64 (by omega)).trans (by omega)
    refine APure.of_wp good (fn := Tryz.f66) (by kernel_rfl) (by kernel_rfl) rfl rfl (by kernel_rfl) rfl (by kernel_rfl) ?_
    refine codeN_sound good (mu := []) (n := 6) ?_
    conv => whnf
    repeat' (first
      | (refine codeK_sound good (mu := []) ?_; conv => whnf)
      | ((first | rw [wl0] | rw [wl1] | rw [wl2] | rw [wl3] | rw [wl4] | rw [wl5]); conv => whnf)
      | (rw [wl]; conv => whnf)
      | (refine SBool.mk (fun _ => ?_) (fun h => absurd (of_decide_eq_true rfl) h); conv => whnf)
      | (refine SBool.mk (fun h => absurd h (of_decide_eq_false rfl)) (fun _ => ?_); conv => whnf)
      | (refine SBool.mk (fun h => ?_) (fun h => ?_) <;> conv => whnf)
      | (refine SEx.mk _ (by first | exact hsp) ?_; conv => whnf)
      | (refine SEx.mk _ (by first | exact rfl | exact ⟨of_decide_eq_true rfl, rfl⟩) ?_; conv => whnf)
      | (refine SAll.mk (fun _ => ?_); conv => whnf)
      | (refine SAnd.mk (by first | exact hsp) ?_; conv => whnf)
      | (refine SAnd.mk ⟨by intro c hc; simp at hc; first | (subst hc; rfl) | ((repeat' (rcases hc with rfl | hc)) <;> first | rfl | (subst hc; rfl)), by (simp; first | done | omega), by (simp; first | done | omega)⟩ ?_; conv => whnf)
      | (refine SAnd.mk (by first | exact rfl | kernel_rfl | omega | decide | exact hsp) ?_; conv => whnf)
      | fail)
    · exact absurd (by assumption) hx
    · refine ⟨AWp.loop (ι := { p : Nat × List Sg // PaI ls p.1 p.2 }) (fun p => ⟨[(8, .p (I p.1.1)), (6, .p (I ((ls.length - 1 : Nat) : Int))), (5, .p (.seq 1 (cellsS (bytesL ls)))), (7, .own 0)], [], [(0, (25, 6, p.1.2.map sc))], 1, [], [], []⟩) (fun p => ls.length - p.1.1) ⟨(0, []), ⟨by omega, rfl, rfl⟩⟩ ?_ ?_⟩
      · refine SLe.row 7 25 6 ?_
        conv => whnf
        skip
        · refine SLe.of [] [(0, 0)] rfl rfl ?_
          conv => whnf
          repeat' (first
          | exact True.intro
          | (refine SAnd.mk (PLe.of_eq (by simp only [wrapK]; rw [wrap_id (by first | omega | (simp only; done) | (simp only; omega) | simp) (by first | omega | (simp only; done) | (simp only; omega) | simp)]; simp)) ?_; conv => whnf)
          | (refine SAnd.mk (PLe.refl _) ?_; conv => whnf)
          | (refine SAnd.mk (PLeL.refl _) ?_; conv => whnf)
          | (refine SAnd.mk (PLe.of_eq (by simp)) ?_; conv => whnf)
          | (refine SAnd.mk rfl ?_; conv => whnf)
          | (refine SAnd.mk ⟨rfl, rfl⟩ ?_; conv => whnf)
          | (refine SAnd.mk ⟨rfl, rfl, rfl⟩ ?_; conv => whnf))
      · rintro ⟨⟨k, out⟩, hI⟩
        have hI : PaI ls k out := hI
        have hk := hI.h1
        have hok := hI.h2
        refine codeK_sound good (mu := []) ?_
        conv => whnf
        refine SBool.mk (fun hc => ?_) (fun hc => ?_)
        · have hc' : (k : Int) < ((ls.length - 1 : Nat) : Int) := hc
          have hkl : k + 1 < ls.length := by omega
          have hkl' : k < ls.length := by omega
          have hsome : 0 ≤ (k : Int) ∧ (cellsS (bytesL ls))[((k : Int)).toNat]? = some [St ⟨ls[k].toArray⟩] := ⟨by omega, by show (cellsS (bytesL ls))[k]? = _; simp [hkl']⟩
          have wk : wrapK IntKind.i64 ((k : Int) + 1) = k + 1 := w64 (by omega)
          have m2 : ls.length - (k + 1) < ls.length - k := by omega
          have cp := parseSignal_pure (m := m) ls[k] (by have := hsm _ (List.getElem_mem hkl'); omega)
          have hap : (∀ c ∈ ([sc (refSg ls[k]).1] : List (List PV)).flatten, c.one = true) ∧ ((out.map sc).length + 1) * 48 ≤ 140737488355328 ∧ (out.map sc).length + 1 ≤ 9223372036854775807 := ⟨by
            have := sc_one' [(refSg ls[k]).1]
            simpa using this, by simp only [List.length_map]; omega, by simp only [List.length_map]; omega⟩
          cases hb : (refSg ls[k]).2 with
          | false =>
            have hbad := hI.bad hkl hb
            rw [hb] at cp
            clear hap
            conv => whnf
            conv => whnf
            repeat' (first
              | (refine codeK_sound good (mu := []) ?_; conv => whnf)
              | ((first | rw [wl0] | rw [wl1] | rw [wl2] | rw [wl3] | rw [wl4] | rw [wl5]); conv => whnf)
              | (rw [wk]; conv => whnf)
              | (refine SBool.mk (fun _ => ?_) (fun h => absurd (of_decide_eq_true rfl) h); conv => whnf)
              | (refine SBool.mk (fun h => absurd h (of_decide_eq_false rfl)) (fun _ => ?_); conv => whnf)
              | (refine SBool.mk (fun h => ?_) (fun h => ?_) <;> conv => whnf)
              | (refine SEx.mk _ (by first | exact hsome | exact cp) ?_; conv => whnf)
              | (refine SEx.mk _ (by first | exact rfl | exact ⟨of_decide_eq_true rfl, rfl⟩) ?_; conv => whnf)
              | (refine SAll.mk (fun _ => ?_); conv => whnf)
              | (refine SAnd.mk (by first | exact hsome) ?_; conv => whnf)
              | (refine SAnd.mk ⟨by intro c hc; simp at hc; first | (subst hc; rfl) | ((repeat' (rcases hc with rfl | hc)) <;> first | rfl | (subst hc; rfl)), by (simp; first | done | omega), by (simp; first | done | omega)⟩ ?_; conv => whnf)
              | (refine SAnd.mk (by first | exact rfl | kernel_rfl | omega | decide | exact hsome | exact cp) ?_; conv => whnf)
              | fail)
            exact ⟨PLe.of_eq (by rw [hbad]; rfl)⟩
          | true =>
            have hgood := hI.good hkl hb
            rw [hb] at cp
            conv => whnf
            conv => whnf
            repeat' (first
              | (refine codeK_sound good (mu := []) ?_; conv => whnf)
              | ((first | rw [wl0] | rw [wl1] | rw [wl2] | rw [wl3] | rw [wl4] | rw [wl5]); conv => whnf)
              | (rw [wk]; conv => whnf)
              | (refine SBool.mk (fun _ => ?_) (fun h => absurd (of_decide_eq_true rfl) h); conv => whnf)
              | (refine SBool.mk (fun h => absurd h (of_decide_eq_false rfl)) (fun _ => ?_); conv => whnf)
              | (refine SBool.mk (fun h => ?_) (fun h => ?_) <;> conv => whnf)
              | (refine SEx.mk _ (by first | exact hsome | exact cp | exact hap) ?_; conv => whnf)
              | (refine SEx.mk _ (by first | exact rfl | exact ⟨of_decide_eq_true rfl, rfl⟩) ?_; conv => whnf)
              | (refine SAll.mk (fun _ => ?_); conv => whnf)
              | (refine SAnd.mk (by first | exact hsome | exact hap) ?_; conv => whnf)
              | (refine SAnd.mk ⟨by intro c hc; simp at hc; first | (subst hc; rfl) | ((repeat' (rcases hc with rfl | hc)) <;> first | rfl | (subst hc; rfl)), by (simp; first | done | omega), by (simp; first | done | omega)⟩ ?_; conv => whnf)
              | (refine SAnd.mk (by first | exact rfl | kernel_rfl | omega | decide | exact hsome | exact cp | exact hap) ?_; conv => whnf)
              | fail)
            refine ⟨⟨(k + 1, out ++ [(refSg ls[k]).1]), hgood⟩, m2, ?_⟩
            skip
            · refine SLe.of [] [(0, 2)] rfl rfl ?_
              conv => whnf
              repeat' (first
              | exact True.intro
              | (refine SAnd.mk (show _ = (_ : List (List PV)) from by simp) ?_; conv => whnf)
              | (refine SAnd.mk (PLe.of_eq (by simp only [wrapK]; rw [wrap_id (by first | omega | (simp only; done) | (simp only; omega) | simp) (by first | omega | (simp only; done) | (simp only; omega) | simp)]; simp)) ?_; conv => whnf)
              | (refine SAnd.mk (PLe.refl _) ?_; conv => whnf)
              | (refine SAnd.mk (PLeL.refl _) ?_; conv => whnf)
              | (refine SAnd.mk (PLe.of_eq (by simp)) ?_; conv => whnf)
              | (refine SAnd.mk rfl ?_; conv => whnf)
              | (refine SAnd.mk ⟨rfl, rfl⟩ ?_; conv => whnf)
              | (refine SAnd.mk ⟨rfl, rfl, rfl⟩ ?_; conv => whnf))
        · have hc' : ¬ (k : Int) < ((ls.length - 1 : Nat) : Int) := hc
          have hkl : k + 1 = ls.length := by omega
          have hfin := hI.fin hkl
          have hkl' : k < ls.length := by omega
          have hsome : 0 ≤ ((ls.length - 1 : Nat) : Int) ∧ (cellsS (bytesL ls))[(((ls.length - 1 : Nat) : Int)).toNat]? = some [St ⟨ls[k].toArray⟩] := ⟨by omega, by
            show (cellsS (bytesL ls))[ls.length - 1]? = _
            rw [show ls.length - 1 = k by omega]
            simp [hkl']⟩
          have hki : ((ls.length - 1 : Nat) : Int) = (k : Int) := by omega
          have c44 := refSignals_pure (m := m) out (by omega)
          conv => whnf
          refine ⟨AWp.le (t := ⟨[(6, .p (I ((ls.length - 1 : Nat) : Int))), (5, .p (.seq 1 (cellsS (bytesL ls)))), (7, .p (.seq 6 (out.map sc)))], [], [], 0, [], [], []⟩) ?_ ?_⟩
          · refine shutM 0 ?_
            conv => whnf
            skip
            · refine SLe.of [] [] rfl rfl ?_
              conv => whnf
              repeat' (first
              | exact True.intro
              | (refine SAnd.mk (PLe.of_eq (by simp only [wrapK]; rw [wrap_id (by first | omega | (simp only; done) | (simp only; omega) | simp) (by first | omega | (simp only; done) | (simp only; omega) | simp)]; simp)) ?_; conv => whnf)
              | (refine SAnd.mk (PLe.refl _) ?_; conv => whnf)
              | (refine SAnd.mk (PLeL.refl _) ?_; conv => whnf)
              | (refine SAnd.mk (PLe.of_eq (by simp)) ?_; conv => whnf)
              | (refine SAnd.mk rfl ?_; conv => whnf)
              | (refine SAnd.mk ⟨rfl, rfl⟩ ?_; conv => whnf)
              | (refine SAnd.mk ⟨rfl, rfl, rfl⟩ ?_; conv => whnf))
          · refine codeK_sound good (mu := []) ?_
            by_cases he : ls[k] = []
            · have hs0 : ∀ w, (binOp .neq 9 (.string ⟨ls[k].toArray⟩) (.string ⟨#[]⟩)).run (C m).P w = .ok (.bool false) w := fun w => by
                rw [he]
                exact neq_string 9 ⟨#[]⟩ ⟨#[]⟩ w
              rw [if_pos he] at hfin
              by_cases hck : checkL out = 0
              · rw [if_pos hck] at hfin
                rw [hck] at c44
                rw [hfin]
                conv => whnf
                repeat' (first
                  | (refine codeK_sound good (mu := []) ?_; conv => whnf)
                  | ((first | rw [wl0] | rw [wl1] | rw [wl2] | rw [wl3] | rw [wl4] | rw [wl5]); conv => whnf)
                  | (refine SBool.mk (fun _ => ?_) (fun h => absurd (of_decide_eq_true rfl) h); conv => whnf)
                  | (refine SBool.mk (fun h => absurd h (of_decide_eq_false rfl)) (fun _ => ?_); conv => whnf)
                  | (refine SBool.mk (fun h => ?_) (fun h => ?_) <;> conv => whnf)
                  | (refine SEx.mk _ (by first | exact hsome | exact hs0 | exact c44) ?_; conv => whnf)
                  | (refine SEx.mk _ (by first | exact rfl | exact ⟨of_decide_eq_true rfl, rfl⟩) ?_; conv => whnf)
                  | (refine SAll.mk (fun _ => ?_); conv => whnf)
                  | (refine SAnd.mk (by first | exact hsome | exact hs0) ?_; conv => whnf)
                  | (refine SAnd.mk ⟨by intro c hc; simp at hc; first | (subst hc; rfl) | ((repeat' (rcases hc with rfl | hc)) <;> first | rfl | (subst hc; rfl)), by (simp; first | done | omega), by (simp; first | done | omega)⟩ ?_; conv => whnf)
                  | (refine SAnd.mk (by first | exact rfl | kernel_rfl | omega | decide | exact hsome | exact hs0 | exact c44) ?_; conv => whnf)
                  | fail)
                exact ⟨PLe.of_eq (by rfl)⟩
              · rw [if_neg hck] at hfin
                rw [hfin]
                have e : parseR ([], (k : Int), checkL out) = .tup [nilS, I ((ls.length - 1 : Nat) : Int), I (checkL out)] := by rw [hki]; simp only [parseR, if_neg hck]
                rw [e]
                clear e hfin
                conv => whnf
                repeat' (first
                  | (refine codeK_sound good (mu := []) ?_; conv => whnf)
                  | ((first | rw [wl0] | rw [wl1] | rw [wl2] | rw [wl3] | rw [wl4] | rw [wl5]); conv => whnf)
                  | (refine SBool.mk (fun _ => ?_) (fun h => absurd (of_decide_eq_true rfl) h); conv => whnf)
                  | (refine SBool.mk (fun h => absurd h (of_decide_eq_false rfl)) (fun _ => ?_); conv => whnf)
                  | (refine SBool.mk (fun h => ?_) (fun h => ?_) <;> conv => whnf)
                  | (refine SEx.mk _ (by first | exact hsome | exact hs0 | exact c44) ?_; conv => whnf)
                  | (refine SEx.mk _ (by first | exact rfl | exact ⟨of_decide_eq_true rfl, rfl⟩) ?_; conv => whnf)
                  | (refine SAll.mk (fun _ => ?_); conv => whnf)
                  | (refine SAnd.mk (by first | exact hsome | exact hs0) ?_; conv => whnf)
                  | (refine SAnd.mk ⟨by intro c hc; simp at hc; first | (subst hc; rfl) | ((repeat' (rcases hc with rfl | hc)) <;> first | rfl | (subst hc; rfl)), by (simp; first | done | omega), by (simp; first | done | omega)⟩ ?_; conv => whnf)
                  | (refine SAnd.mk (by first | exact rfl | kernel_rfl | omega | decide | exact hsome | exact hs0 | exact c44) ?_; conv => whnf)
                  | fail)
                all_goals first
                  | exact ⟨PLe.refl _⟩
                  | exact absurd (by assumption) hck
            · have hs0 : ∀ w, (binOp .neq 9 (.string ⟨ls[k].toArray⟩) (.string ⟨#[]⟩)).run (C m).P w = .ok (.bool true) w := fun w => by
                have := neq_string 9 ⟨ls[k].toArray⟩ ⟨#[]⟩ w
                have hx : decide ((⟨ls[k].toArray⟩ : ByteArray) ≠ ⟨#[]⟩) = true := decide_eq_true (fun e => he (by injection e with e; simpa using congrArg Array.toList e))
                rw [hx] at this
                exact this
              rw [if_neg he] at hfin
              rw [hfin]
              have e : parseR ([], (k : Int), 25) = .tup [nilS, I ((ls.length - 1 : Nat) : Int), I 25] := by rw [hki]; rfl
              rw [e]
              clear e hfin
              conv => whnf
              repeat' (first
                | (refine codeK_sound good (mu := []) ?_; conv => whnf)
                | ((first | rw [wl0] | rw [wl1] | rw [wl2] | rw [wl3] | rw [wl4] | rw [wl5]); conv => whnf)
                | (refine SBool.mk (fun _ => ?_) (fun h => absurd (of_decide_eq_true rfl) h); conv => whnf)
                | (refine SBool.mk (fun h => absurd h (of_decide_eq_false rfl)) (fun _ => ?_); conv => whnf)
                | (refine SBool.mk (fun h => ?_) (fun h => ?_) <;> conv => whnf)
                | (refine SEx.mk _ (by first | exact hsome | exact hs0) ?_; conv => whnf)
                | (refine SEx.mk _ (by first | exact rfl | exact ⟨of_decide_eq_true rfl, rfl⟩) ?_; conv => whnf)
                | (refine SAll.mk (fun _ => ?_); conv => whnf)
                | (refine SAnd.mk (by first | exact hsome | exact hs0) ?_; conv => whnf)
                | (refine SAnd.mk ⟨by intro c hc; simp at hc; first | (subst hc; rfl) | ((repeat' (rcases hc with rfl | hc)) <;> first | rfl | (subst hc; rfl)), by (simp; first | done | omega), by (simp; first | done | omega)⟩ ?_; conv => whnf)
                | (refine SAnd.mk (by first | exact rfl | kernel_rfl | omega | decide | exact hsome | exact hs0) ?_; conv => whnf)
                | fail)
              exact ⟨PLe.refl _⟩
end Go.Proofs.Ab.Tone2
end
section
/- The reference's Parse is the program's: the plain law. -/
set_option maxRecDepth 100000
set_option linter.unusedVariables false
set_option linter.unusedSimpArgs false
namespace Go.Proofs.Ab.Tone2
open Go Go.RowKit Go.Proofs.Ab Go.Proofs.Ab.Tone
theorem first_sep (b : UInt8) : ∀ l : List UInt8, (∀ c ∈ l, ¬ c = b) ∨ ∃ p r, l = p ++ b :: r ∧ ∀ c ∈ p, ¬ c = b
  | [] => .inl fun c h => by simp at h
  | c :: l => by
    by_cases h : c = b
    · exact .inr ⟨[], l, by simp [h], fun c h => by simp at h⟩
    · rcases first_sep b l with h1 | ⟨p, r, rfl, h1⟩
      · exact .inl fun x hx => by
          rcases List.mem_cons.1 hx with rfl | hx
          · exact h
          · exact h1 x hx
      · exact .inr ⟨c :: p, r, rfl, fun x hx => by
          rcases List.mem_cons.1 hx with rfl | hx
          · exact h
          · exact h1 x hx⟩
theorem isPre_one (c d : UInt8) (l : List UInt8) : [c].isPrefixOf (d :: l) = (c == d) := by
  show ((c == d) && List.isPrefixOf [] l) = _
  simp [List.isPrefixOf]
theorem index_sep {b : UInt8} : ∀ (p r : List UInt8), (∀ c ∈ p, ¬ c = b) → Lib.index (p ++ b :: r) [b] = p.length
  | [], r, _ => by
    show (if [b].isPrefixOf (b :: r) then (0 : Int) else _) = _
    rw [isPre_one]; simp
  | c :: p, r, h => by
    have ih := index_sep p r fun x hx => h x (List.mem_cons_of_mem _ hx)
    show (if [b].isPrefixOf (c :: (p ++ b :: r)) then (0 : Int) else if Lib.index (p ++ b :: r) [b] == -1 then -1 else Lib.index (p ++ b :: r) [b] + 1) = _
    rw [isPre_one, ih, if_neg (by simpa using Ne.symm (h c List.mem_cons_self)), if_neg (by simp)]
    simp
theorem words_eq (body : List UInt8) : wordsV body = bytesL (splitG 32 body) := by
  suffices H : ∀ n (l : List UInt8), l.length ≤ n → wordsV l = bytesL (splitG 32 l) from H _ body (Nat.le_refl _)
  intro n
  induction n with
  | zero =>
    intro l h
    have : l = [] := List.length_eq_zero_iff.1 (by omega)
    subst this
    rfl
  | succ n ih =>
    intro l h
    rcases first_sep 32 l with h1 | ⟨p, r, rfl, h1⟩
    · rw [splitG_end l h1]
      have hc : Lib.countB ⟨l.toArray⟩ ⟨#[32]⟩ = 0 := by
        show Lib.count l [32] = 0
        rw [Lib.count_one]
        exact List.count_eq_zero.2 fun hm => h1 32 hm rfl
      unfold wordsV
      rw [hc]
      rfl
    · rw [splitG_sep p r h1]
      have hc : Lib.countB ⟨(p ++ 32 :: r).toArray⟩ ⟨#[32]⟩ = Lib.countB ⟨r.toArray⟩ ⟨#[32]⟩ + 1 := by
        show Lib.count (p ++ 32 :: r) [32] = Lib.count r [32] + 1
        rw [Lib.count_one, Lib.count_one, List.count_append, List.count_cons_self, List.count_eq_zero.2 fun hm => h1 32 hm rfl]
        omega
      have hi : Lib.indexB ⟨(p ++ 32 :: r).toArray⟩ ⟨#[32]⟩ = (p.length : Int) := index_sep p r h1
      have e1 : (⟨(p ++ 32 :: r).toArray⟩ : ByteArray).extract 0 (p.length + 0) = ⟨p.toArray⟩ := by
        rw [ext_take]; simp
      have e2 : (⟨(p ++ 32 :: r).toArray⟩ : ByteArray).extract (p.length + (⟨#[32]⟩ : ByteArray).size) (⟨(p ++ 32 :: r).toArray⟩ : ByteArray).size = ⟨r.toArray⟩ := by
        rw [ext_drop]
        congr 2
        show (p ++ 32 :: r).drop (p.length + 1) = r
        rw [List.drop_append]
        simp
      have := ih r (by simp at h; omega)
      unfold wordsV at this ⊢
      rw [hc, Lib.splitB_hit _ _ _ _ _ hi, e1, e2, this]
      rfl
/-- Six numbers, one after the other. -/
theorem tk6 (ws : List ByteArray) : tkS (ws, false) 6 = ([], false) ↔ ∃ a1 a2 a3 a4 a5 a6, ws = [a1, a2, a3, a4, a5, a6] ∧ (intB a1).2 = true ∧ (intB a2).2 = true ∧ (intB a3).2 = true ∧ (intB a4).2 = true ∧ (intB a5).2 = true ∧ (intB a6).2 = true := by
  match ws with
  | [] => simp [tkS, tkV]
  | [a1] => simp [tkS, tkV]
  | [a1, a2] => simp [tkS, tkV]
  | [a1, a2, a3] => simp [tkS, tkV]
  | [a1, a2, a3, a4] => simp [tkS, tkV]
  | [a1, a2, a3, a4, a5] => simp [tkS, tkV]
  | [a1, a2, a3, a4, a5, a6] =>
    simp [tkS, tkV, and_assoc]
  | a1 :: a2 :: a3 :: a4 :: a5 :: a6 :: a7 :: w => simp [tkS, tkV]
theorem refSgW_true (ws : List (List UInt8)) : (refSgW ws).2 = true ↔ ∃ w1 w2 w3 w4 w5 w6, ws = [sigL, w1, w2, w3, w4, w5, w6] ∧ (inB w1).2 = true ∧ (inB w2).2 = true ∧ (inB w3).2 = true ∧ (inB w4).2 = true ∧ (inB w5).2 = true ∧ (inB w6).2 = true := by
  unfold refSgW
  split
  · rename_i w0 w1 w2 w3 w4 w5 w6
    split
    · rename_i h
      constructor
      · intro _
        exact ⟨w1, w2, w3, w4, w5, w6, by rw [h.1], h.2⟩
      · intro _
        rfl
    · rename_i h
      constructor
      · intro e
        cases e
      · rintro ⟨v1, v2, v3, v4, v5, v6, e, h'⟩
        injection e with e0 e
        injection e with e1 e
        injection e with e2 e
        injection e with e3 e
        injection e with e4 e
        injection e with e5 e
        injection e with e6 e
        subst e0 e1 e2 e3 e4 e5 e6
        exact absurd ⟨rfl, h'⟩ h
  · rename_i hn
    constructor
    · intro e
      cases e
    · rintro ⟨v1, v2, v3, v4, v5, v6, e, h'⟩
      exact absurd e (hn _ _ _ _ _ _ _)
theorem bytes_inj {a b : List UInt8} (h : (⟨a.toArray⟩ : ByteArray) = ⟨b.toArray⟩) : a = b := by
  injection h with h
  simpa using congrArg Array.toList h
theorem line_eq (p : List UInt8) : lineOk (p ++ [10]) = (refSg p).2 ∧ ((refSg p).2 = true → lineSg (p ++ [10]) = (refSg p).1) := by
  have e1 : Lib.hasSuffix (p ++ [10]) [10] = true := by simp [Lib.hasSuffix]
  have e2 : Lib.trimSuffix (p ++ [10]) [10] = p := by simp [Lib.trimSuffix, Lib.hasSuffix]
  have hb : bSignal = ⟨sigL.toArray⟩ := rfl
  unfold lineOk lineSg refSg
  rw [e1, e2, words_eq]
  generalize splitG 32 p = ws
  have key : (decide ((bytesL ws).head? = some bSignal) && decide (tkS ((bytesL ws).tail, false) 6 = ([], false))) = true ↔ (refSgW ws).2 = true := by
    rw [refSgW_true, Bool.and_eq_true, decide_eq_true_eq, decide_eq_true_eq, tk6, hb]
    constructor
    · rintro ⟨h1, a1, a2, a3, a4, a5, a6, h2, h3⟩
      match ws, h1, h2 with
      | w0 :: ws, h1, h2 =>
        have h0 : w0 = sigL := bytes_inj (by simpa using h1)
        match ws, h2 with
        | [w1, w2, w3, w4, w5, w6], h2 =>
          simp only [bytesL, List.map_cons, List.map_nil, List.tail_cons, List.cons.injEq, and_true] at h2
          obtain ⟨rfl, rfl, rfl, rfl, rfl, rfl⟩ := h2
          exact ⟨w1, w2, w3, w4, w5, w6, by rw [h0], h3⟩
    · rintro ⟨w1, w2, w3, w4, w5, w6, rfl, h⟩
      exact ⟨rfl, _, _, _, _, _, _, rfl, h⟩
  refine ⟨?_, fun h => ?_⟩
  · rw [Bool.true_and]
    exact Bool.eq_iff_iff.2 key
  · obtain ⟨w1, w2, w3, w4, w5, w6, rfl, i1, i2, i3, i4, i5, i6⟩ := (refSgW_true ws).1 h
    have e : refSgW [sigL, w1, w2, w3, w4, w5, w6] = (⟨⟨(inB w1).1, (inB w2).1⟩, ⟨(inB w3).1, (inB w4).1⟩, ⟨(inB w5).1, (inB w6).1⟩⟩, true) := if_pos ⟨rfl, i1, i2, i3, i4, i5, i6⟩
    rw [e]
    rfl
theorem cut_sep {p r : List UInt8} (h : ∀ c ∈ p, ¬ c = 10) : cutLine (p ++ 10 :: r) = p.length + 1 := by
  have e : Lib.indexByte (p ++ 10 :: r) 10 = p.length := by
    induction p with
    | nil => simp [Lib.indexByte]
    | cons c p ih =>
      have ih := ih fun x hx => h x (List.mem_cons_of_mem _ hx)
      have hc : ((c : UInt8) == 10) = false := by simpa using h c List.mem_cons_self
      simp only [List.cons_append, Lib.indexByte, hc, ih, Bool.false_eq_true, if_false]
      rw [if_neg (by simp)]
      simp
  unfold cutLine
  rw [e, if_neg (by omega)]
  simp
theorem cut_end {p : List UInt8} (h : ∀ c ∈ p, ¬ c = 10) : cutLine p = p.length := by
  have e : Lib.indexByte p 10 = -1 := by
    induction p with
    | nil => rfl
    | cons c p ih =>
      have ih := ih fun x hx => h x (List.mem_cons_of_mem _ hx)
      have hc : ((c : UInt8) == 10) = false := by simpa using h c List.mem_cons_self
      simp only [Lib.indexByte, hc, ih, Bool.false_eq_true, if_false]
      rfl
  unfold cutLine
  rw [e]
  rfl
theorem refGo_eq : ∀ (n : Nat) (r : List UInt8) (out : List Sg), r.length < n → parseF n r out = refGo (splitG 10 r) out := by
  intro n
  induction n with
  | zero => exact fun _ _ h => absurd h (by omega)
  | succ n ih =>
  intro r out h
  match r, h with
  | [], _ =>
    show (if checkL out = 0 then (out, 0, 0) else ([], (out.length : Int), checkL out)) = refGo [[]] out
    unfold refGo
    rw [if_pos rfl]
  | c :: r, h =>
    have hd : parseF (n + 1) (c :: r) out = if lineOk ((c :: r).take (cutLine (c :: r))) then parseF n ((c :: r).drop (cutLine (c :: r))) (out ++ [lineSg ((c :: r).take (cutLine (c :: r)))]) else ([], (out.length : Int), 25) := rfl
    rw [hd]
    rcases first_sep 10 (c :: r) with h1 | ⟨p, q, e, h1⟩
    · rw [cut_end h1, splitG_end _ h1, List.take_length]
      have hno : Lib.hasSuffix (c :: r) [10] = false := by
        cases hs : Lib.hasSuffix (c :: r) [10] with
        | false => rfl
        | true =>
          have hs' : [10] <:+ (c :: r) := by simpa [Lib.hasSuffix] using hs
          obtain ⟨t, ht⟩ := hs'
          exact absurd rfl (h1 10 (by rw [← ht]; simp))
      have hl : lineOk (c :: r) = false := by unfold lineOk; rw [hno]; rfl
      rw [hl]
      unfold refGo
      rw [if_neg (by simp)]
      rfl
    · rw [e, cut_sep h1, splitG_sep p q h1]
      have hpl : (p ++ [10]).length = p.length + 1 := List.length_append
      have e1 : (p ++ 10 :: q).take (p.length + 1) = p ++ [10] := by
        rw [show p ++ 10 :: q = (p ++ [10]) ++ q from (List.append_assoc p [10] q).symm, List.take_left' hpl]
      have e2 : (p ++ 10 :: q).drop (p.length + 1) = q := by
        rw [show p ++ 10 :: q = (p ++ [10]) ++ q from (List.append_assoc p [10] q).symm, List.drop_left' hpl]
      obtain ⟨l1, l2⟩ := line_eq p
      have hq := (splitG_len 10 q).1
      have hlen : q.length < n := by
        have := congrArg List.length e
        rw [List.length_append, List.length_cons, List.length_cons] at this
        rw [List.length_cons] at h
        omega
      rw [e1, e2, l1]
      match hs : splitG 10 q, hq with
      | w :: ws, _ =>
        conv => rhs; unfold refGo
        by_cases hp : (refSg p).2 = true
        · rw [if_pos hp, if_pos hp, l2 hp, ih q _ hlen, hs]
        · rw [if_neg hp, if_neg hp]
theorem refP_eq (s : ByteArray) : refP s.data.toList = parseV s := by
  have hs : s.size = s.data.toList.length := Lib.size_eq s
  unfold refP parseV
  rw [hs]
  split
  · rfl
  · exact (refGo_eq _ _ _ (by omega)).symm
end Go.Proofs.Ab.Tone2
end
section
/- The reference's Print, given its Text. -/
set_option maxRecDepth 100000
set_option linter.unusedVariables false
set_option linter.unusedSimpArgs false
namespace Go.Proofs.Ab.Tone2
open Go Go.RowKit Go.Proofs.Ab Go.Proofs.Ab.Tone
theorem join_nil (ws : List (List UInt8)) : Lib.join ws [] = ws.flatten := by
  unfold Lib.join
  induction ws with
  | nil => rfl
  | cons a l ih =>
    cases l with
    | nil => simp [List.intercalate]
    | cons b l => simpa [List.intercalate] using ih
theorem printB_data (xs : List Sg) : (printB xs).data.toList = ((xs.map lineB).map (·.data.toList)).flatten := by
  show (Lib.join ((xs.map lineB).map (·.data.toList)) (#[] : Array UInt8).toList).toArray.toList = _
  rw [show (#[] : Array UInt8).toList = [] from rfl, join_nil]
theorem bytes_ext {a b : ByteArray} (h : a.data.toList = b.data.toList) : a = b := by
  apply ByteArray.ext
  exact Array.toList_inj.1 h
theorem printB_snoc (xs : List Sg) (s : Sg) : printB (xs ++ [s]) = printB xs ++ lineB s := by
  apply bytes_ext
  rw [printB_data, ByteArray.data_append, Array.toList_append, printB_data]
  simp
theorem line_steps (a : ByteArray) (s : Sg) : a ++ ⟨#[115, 105, 103, 110, 97, 108, 32]⟩ ++ itoaB s.c.re ++ ⟨#[32]⟩ ++ itoaB s.c.im ++ ⟨#[32]⟩ ++ itoaB s.l.re ++ ⟨#[32]⟩ ++ itoaB s.l.im ++ ⟨#[32]⟩ ++ itoaB s.h.re ++ ⟨#[32]⟩ ++ itoaB s.h.im ++ ⟨#[10]⟩ = a ++ lineB s := by
  apply bytes_ext
  simp only [lineB, joinB, wordsB, bSignal, ByteArray.data_append, Array.toList_append, List.map_cons, List.map_nil]
  simp [Lib.join, List.intercalate]
theorem itoaB_size {n : Int} (h : n.natAbs ≤ 1000000) : (itoaB n).size ≤ 21 := by
  have := itoaB_len n h
  rwa [← Lib.size_eq] at this
theorem printB_size : ∀ (xs : List Sg), (∀ x ∈ xs, x.Fit 1000000) → (printB xs).size ≤ 201 * xs.length := by
  intro xs
  induction xs with
  | nil => intro _; exact Nat.le_refl _
  | cons x xs ih =>
    intro h
    have h1 := ih fun y hy => h y (List.mem_cons_of_mem _ hy)
    have h2 := lineB_len x (h x List.mem_cons_self)
    rw [Lib.size_eq, printB_data] at *
    simp only [List.map_cons, List.flatten_cons, List.length_append, List.length_cons] at *
    omega
section
attribute [local irreducible] ByteArray.append APure
set_option maxHeartbeats 8000000 in
theorem refPrint_of {m : Int} (ht : ∀ n : Int, n.natAbs ≤ 1000000 → APure (C m) 143 [I n] (St (itoaB n))) (xs : List Sg) (hl : xs.length ≤ 1000000) (hf : ∀ x ∈ xs, x.Fit 1000000) : APure (C m) 65 [.seq 6 (xs.map sc)] (St (printB xs)) := by
  refine APure.of_body good [] (fn := Tryz.f65) (by kernel_rfl) (by kernel_rfl) rfl rfl (by kernel_rfl) rfl (by kernel_rfl) ?_
  conv => whnf
  repeat' (first
    | (refine codeK_sound good (mu := []) ?_; conv => whnf)
    | ((first | rw [wl0] | rw [wl1] | rw [wl2] | rw [wl3] | rw [wl4] | rw [wl5]); conv => whnf)
    | (refine SBool.mk (fun _ => ?_) (fun h => absurd (of_decide_eq_true rfl) h); conv => whnf)
    | (refine SBool.mk (fun h => absurd h (of_decide_eq_false rfl)) (fun _ => ?_); conv => whnf)
    | (refine SBool.mk (fun h => ?_) (fun h => ?_) <;> conv => whnf)
    | (refine SEx.mk _ (by first | exact rfl | exact ⟨of_decide_eq_true rfl, rfl⟩) ?_; conv => whnf)
    | (refine SAll.mk (fun _ => ?_); conv => whnf)
    | (refine SAnd.mk ⟨by intro c hc; simp at hc; first | (subst hc; rfl) | ((repeat' (rcases hc with rfl | hc)) <;> first | rfl | (subst hc; rfl)), by (simp; first | done | omega), by (simp; first | done | omega)⟩ ?_; conv => whnf)
    | (refine SAnd.mk (by first | exact rfl | kernel_rfl | omega | decide) ?_; conv => whnf)
    | fail)
  refine ⟨AWp.loop (ι := { k : Nat // k ≤ xs.length }) (fun k => ⟨[(4, .p (I k.1)), (0, .p (.seq 6 (xs.map sc))), (3, .p (St (printB (xs.take k.1))))], [], [], 0, [], [], []⟩) (fun k => xs.length - k.1) ⟨0, by simp⟩ ?_ ?_⟩
  · skip
    · refine SLe.of [] [] rfl rfl ?_
      conv => whnf
      repeat' (first
      | exact True.intro
      | (refine SAnd.mk (PLe.of_eq (by simp only [wrapK]; rw [wrap_id (by first | omega | (simp only; done) | (simp only; omega) | simp) (by first | omega | (simp only; done) | (simp only; omega) | simp)]; simp)) ?_; conv => whnf)
      | (refine SAnd.mk (PLe.refl _) ?_; conv => whnf)
      | (refine SAnd.mk (PLeL.refl _) ?_; conv => whnf)
      | (refine SAnd.mk (PLe.of_eq (by simp)) ?_; conv => whnf)
      | (refine SAnd.mk rfl ?_; conv => whnf)
      | (refine SAnd.mk ⟨rfl, rfl⟩ ?_; conv => whnf)
      | (refine SAnd.mk ⟨rfl, rfl, rfl⟩ ?_; conv => whnf))
  · rintro ⟨k, hk⟩
    refine codeK_sound good (mu := []) ?_
    conv => whnf
    refine SBool.mk (fun hc => ?_) (fun hc => ?_)
    · have hkl : k < xs.length := by simpa using hc
      have hsome : 0 ≤ (k : Int) ∧ (xs.map sc)[((k : Int)).toNat]? = some (sc xs[k]) := ⟨by omega, by show (xs.map sc)[k]? = _; simp [hkl]⟩
      have wk : wrapK IntKind.i64 ((k : Int) + 1) = k + 1 := w64 (by omega)
      have m1 : xs.length - (k + 1) < xs.length - k := by omega
      have hx := hf _ (List.getElem_mem hkl)
      have b1 := itoaB_size hx.c.re
      have b2 := itoaB_size hx.c.im
      have b3 := itoaB_size hx.l.re
      have b4 := itoaB_size hx.l.im
      have b5 := itoaB_size hx.h.re
      have b6 := itoaB_size hx.h.im
      have t1 := ht _ hx.c.re
      have t2 := ht _ hx.c.im
      have t3 := ht _ hx.l.re
      have t4 := ht _ hx.l.im
      have t5 := ht _ hx.h.re
      have t6 := ht _ hx.h.im
      have b0 : (printB (xs.take k)).size ≤ 201000000 := by
        have := printB_size (xs.take k) fun x hx => hf x (List.mem_of_mem_take hx)
        have h2 : (xs.take k).length ≤ k := by simp; omega
        have h3 : 201 * (xs.take k).length ≤ 201 * k := Nat.mul_le_mul_left _ h2
        omega
      have e : printB (xs.take k) ++ lineB xs[k] = printB (xs.take (k + 1)) := by
        rw [← printB_snoc, List.take_succ_eq_append_getElem hkl]
      rw [← line_steps] at e
      generalize itoaB xs[k].c.re = w1 at b1 t1 e
      generalize itoaB xs[k].c.im = w2 at b2 t2 e
      generalize itoaB xs[k].l.re = w3 at b3 t3 e
      generalize itoaB xs[k].l.im = w4 at b4 t4 e
      generalize itoaB xs[k].h.re = w5 at b5 t5 e
      generalize itoaB xs[k].h.im = w6 at b6 t6 e
      obtain ⟨A, hA⟩ : ∃ A, printB (xs.take k) = A := ⟨_, rfl⟩
      rw [hA] at b0 e
      have z0 : ∀ w, (binOp .add 9 (.string (A)) (.string ⟨#[115, 105, 103, 110, 97, 108, 32]⟩)).run (C m).P w = .ok (.string (A ++ ⟨#[115, 105, 103, 110, 97, 108, 32]⟩)) w := add_string 9 _ _ (Nat.le_trans (Nat.add_le_add b0 (Nat.le_refl 7)) (by decide))
      have y0 : (A ++ ⟨#[115, 105, 103, 110, 97, 108, 32]⟩).size ≤ 201000007 := Nat.le_trans (Nat.le_of_eq ByteArray.size_append) (Nat.add_le_add b0 (Nat.le_refl 7))
      have z1 : ∀ w, (binOp .add 9 (.string (A ++ ⟨#[115, 105, 103, 110, 97, 108, 32]⟩)) (.string w1)).run (C m).P w = .ok (.string (A ++ ⟨#[115, 105, 103, 110, 97, 108, 32]⟩ ++ w1)) w := add_string 9 _ _ (Nat.le_trans (Nat.add_le_add y0 b1) (by decide))
      have y1 : (A ++ ⟨#[115, 105, 103, 110, 97, 108, 32]⟩ ++ w1).size ≤ 201000028 := Nat.le_trans (Nat.le_of_eq ByteArray.size_append) (Nat.add_le_add y0 b1)
      have z2 : ∀ w, (binOp .add 9 (.string (A ++ ⟨#[115, 105, 103, 110, 97, 108, 32]⟩ ++ w1)) (.string ⟨#[32]⟩)).run (C m).P w = .ok (.string (A ++ ⟨#[115, 105, 103, 110, 97, 108, 32]⟩ ++ w1 ++ ⟨#[32]⟩)) w := add_string 9 _ _ (Nat.le_trans (Nat.add_le_add y1 (Nat.le_refl 1)) (by decide))
      have y2 : (A ++ ⟨#[115, 105, 103, 110, 97, 108, 32]⟩ ++ w1 ++ ⟨#[32]⟩).size ≤ 201000029 := Nat.le_trans (Nat.le_of_eq ByteArray.size_append) (Nat.add_le_add y1 (Nat.le_refl 1))
      have z3 : ∀ w, (binOp .add 9 (.string (A ++ ⟨#[115, 105, 103, 110, 97, 108, 32]⟩ ++ w1 ++ ⟨#[32]⟩)) (.string w2)).run (C m).P w = .ok (.string (A ++ ⟨#[115, 105, 103, 110, 97, 108, 32]⟩ ++ w1 ++ ⟨#[32]⟩ ++ w2)) w := add_string 9 _ _ (Nat.le_trans (Nat.add_le_add y2 b2) (by decide))
      have y3 : (A ++ ⟨#[115, 105, 103, 110, 97, 108, 32]⟩ ++ w1 ++ ⟨#[32]⟩ ++ w2).size ≤ 201000050 := Nat.le_trans (Nat.le_of_eq ByteArray.size_append) (Nat.add_le_add y2 b2)
      have z4 : ∀ w, (binOp .add 9 (.string (A ++ ⟨#[115, 105, 103, 110, 97, 108, 32]⟩ ++ w1 ++ ⟨#[32]⟩ ++ w2)) (.string ⟨#[32]⟩)).run (C m).P w = .ok (.string (A ++ ⟨#[115, 105, 103, 110, 97, 108, 32]⟩ ++ w1 ++ ⟨#[32]⟩ ++ w2 ++ ⟨#[32]⟩)) w := add_string 9 _ _ (Nat.le_trans (Nat.add_le_add y3 (Nat.le_refl 1)) (by decide))
      have y4 : (A ++ ⟨#[115, 105, 103, 110, 97, 108, 32]⟩ ++ w1 ++ ⟨#[32]⟩ ++ w2 ++ ⟨#[32]⟩).size ≤ 201000051 := Nat.le_trans (Nat.le_of_eq ByteArray.size_append) (Nat.add_le_add y3 (Nat.le_refl 1))
      have z5 : ∀ w, (binOp .add 9 (.string (A ++ ⟨#[115, 105, 103, 110, 97, 108, 32]⟩ ++ w1 ++ ⟨#[32]⟩ ++ w2 ++ ⟨#[32]⟩)) (.string w3)).run (C m).P w = .ok (.string (A ++ ⟨#[115, 105, 103, 110, 97, 108, 32]⟩ ++ w1 ++ ⟨#[32]⟩ ++ w2 ++ ⟨#[32]⟩ ++ w3)) w := add_string 9 _ _ (Nat.le_trans (Nat.add_le_add y4 b3) (by decide))
      have y5 : (A ++ ⟨#[115, 105, 103, 110, 97, 108, 32]⟩ ++ w1 ++ ⟨#[32]⟩ ++ w2 ++ ⟨#[32]⟩ ++ w3).size ≤ 201000072 := Nat.le_trans (Nat.le_of_eq ByteArray.size_append) (Nat.add_le_add y4 b3)
      have z6 : ∀ w, (binOp .add 9 (.string (A ++ ⟨#[115, 105, 103, 110, 97, 108, 32]⟩ ++ w1 ++ ⟨#[32]⟩ ++ w2 ++ ⟨#[32]⟩ ++ w3)) (.string ⟨#[32]⟩)).run (C m).P w = .ok (.string (A ++ ⟨#[115, 105, 103, 110, 97, 108, 32]⟩ ++ w1 ++ ⟨#[32]⟩ ++ w2 ++ ⟨#[32]⟩ ++ w3 ++ ⟨#[32]⟩)) w := add_string 9 _ _ (Nat.le_trans (Nat.add_le_add y5 (Nat.le_refl 1)) (by decide))
      have y6 : (A ++ ⟨#[115, 105, 103, 110, 97, 108, 32]⟩ ++ w1 ++ ⟨#[32]⟩ ++ w2 ++ ⟨#[32]⟩ ++ w3 ++ ⟨#[32]⟩).size ≤ 201000073 := Nat.le_trans (Nat.le_of_eq ByteArray.size_append) (Nat.add_le_add y5 (Nat.le_refl 1))
      have z7 : ∀ w, (binOp .add 9 (.string (A ++ ⟨#[115, 105, 103, 110, 97, 108, 32]⟩ ++ w1 ++ ⟨#[32]⟩ ++ w2 ++ ⟨#[32]⟩ ++ w3 ++ ⟨#[32]⟩)) (.string w4)).run (C m).P w = .ok (.string (A ++ ⟨#[115, 105, 103, 110, 97, 108, 32]⟩ ++ w1 ++ ⟨#[32]⟩ ++ w2 ++ ⟨#[32]⟩ ++ w3 ++ ⟨#[32]⟩ ++ w4)) w := add_string 9 _ _ (Nat.le_trans (Nat.add_le_add y6 b4) (by decide))
      have y7 : (A ++ ⟨#[115, 105, 103, 110, 97, 108, 32]⟩ ++ w1 ++ ⟨#[32]⟩ ++ w2 ++ ⟨#[32]⟩ ++ w3 ++ ⟨#[32]⟩ ++ w4).size ≤ 201000094 := Nat.le_trans (Nat.le_of_eq ByteArray.size_append) (Nat.add_le_add y6 b4)
      have z8 : ∀ w, (binOp .add 9 (.string (A ++ ⟨#[115, 105, 103, 110, 97, 108, 32]⟩ ++ w1 ++ ⟨#[32]⟩ ++ w2 ++ ⟨#[32]⟩ ++ w3 ++ ⟨#[32]⟩ ++ w4)) (.string ⟨#[32]⟩)).run (C m).P w = .ok (.string (A ++ ⟨#[115, 105, 103, 110, 97, 108, 32]⟩ ++ w1 ++ ⟨#[32]⟩ ++ w2 ++ ⟨#[32]⟩ ++ w3 ++ ⟨#[32]⟩ ++ w4 ++ ⟨#[32]⟩)) w := add_string 9 _ _ (Nat.le_trans (Nat.add_le_add y7 (Nat.le_refl 1)) (by decide))
      have y8 : (A ++ ⟨#[115, 105, 103, 110, 97, 108, 32]⟩ ++ w1 ++ ⟨#[32]⟩ ++ w2 ++ ⟨#[32]⟩ ++ w3 ++ ⟨#[32]⟩ ++ w4 ++ ⟨#[32]⟩).size ≤ 201000095 := Nat.le_trans (Nat.le_of_eq ByteArray.size_append) (Nat.add_le_add y7 (Nat.le_refl 1))
      have z9 : ∀ w, (binOp .add 9 (.string (A ++ ⟨#[115, 105, 103, 110, 97, 108, 32]⟩ ++ w1 ++ ⟨#[32]⟩ ++ w2 ++ ⟨#[32]⟩ ++ w3 ++ ⟨#[32]⟩ ++ w4 ++ ⟨#[32]⟩)) (.string w5)).run (C m).P w = .ok (.string (A ++ ⟨#[115, 105, 103, 110, 97, 108, 32]⟩ ++ w1 ++ ⟨#[32]⟩ ++ w2 ++ ⟨#[32]⟩ ++ w3 ++ ⟨#[32]⟩ ++ w4 ++ ⟨#[32]⟩ ++ w5)) w := add_string 9 _ _ (Nat.le_trans (Nat.add_le_add y8 b5) (by decide))
      have y9 : (A ++ ⟨#[115, 105, 103, 110, 97, 108, 32]⟩ ++ w1 ++ ⟨#[32]⟩ ++ w2 ++ ⟨#[32]⟩ ++ w3 ++ ⟨#[32]⟩ ++ w4 ++ ⟨#[32]⟩ ++ w5).size ≤ 201000116 := Nat.le_trans (Nat.le_of_eq ByteArray.size_append) (Nat.add_le_add y8 b5)
      have z10 : ∀ w, (binOp .add 9 (.string (A ++ ⟨#[115, 105, 103, 110, 97, 108, 32]⟩ ++ w1 ++ ⟨#[32]⟩ ++ w2 ++ ⟨#[32]⟩ ++ w3 ++ ⟨#[32]⟩ ++ w4 ++ ⟨#[32]⟩ ++ w5)) (.string ⟨#[32]⟩)).run (C m).P w = .ok (.string (A ++ ⟨#[115, 105, 103, 110, 97, 108, 32]⟩ ++ w1 ++ ⟨#[32]⟩ ++ w2 ++ ⟨#[32]⟩ ++ w3 ++ ⟨#[32]⟩ ++ w4 ++ ⟨#[32]⟩ ++ w5 ++ ⟨#[32]⟩)) w := add_string 9 _ _ (Nat.le_trans (Nat.add_le_add y9 (Nat.le_refl 1)) (by decide))
      have y10 : (A ++ ⟨#[115, 105, 103, 110, 97, 108, 32]⟩ ++ w1 ++ ⟨#[32]⟩ ++ w2 ++ ⟨#[32]⟩ ++ w3 ++ ⟨#[32]⟩ ++ w4 ++ ⟨#[32]⟩ ++ w5 ++ ⟨#[32]⟩).size ≤ 201000117 := Nat.le_trans (Nat.le_of_eq ByteArray.size_append) (Nat.add_le_add y9 (Nat.le_refl 1))
      have z11 : ∀ w, (binOp .add 9 (.string (A ++ ⟨#[115, 105, 103, 110, 97, 108, 32]⟩ ++ w1 ++ ⟨#[32]⟩ ++ w2 ++ ⟨#[32]⟩ ++ w3 ++ ⟨#[32]⟩ ++ w4 ++ ⟨#[32]⟩ ++ w5 ++ ⟨#[32]⟩)) (.string w6)).run (C m).P w = .ok (.string (A ++ ⟨#[115, 105, 103, 110, 97, 108, 32]⟩ ++ w1 ++ ⟨#[32]⟩ ++ w2 ++ ⟨#[32]⟩ ++ w3 ++ ⟨#[32]⟩ ++ w4 ++ ⟨#[32]⟩ ++ w5 ++ ⟨#[32]⟩ ++ w6)) w := add_string 9 _ _ (Nat.le_trans (Nat.add_le_add y10 b6) (by decide))
      have y11 : (A ++ ⟨#[115, 105, 103, 110, 97, 108, 32]⟩ ++ w1 ++ ⟨#[32]⟩ ++ w2 ++ ⟨#[32]⟩ ++ w3 ++ ⟨#[32]⟩ ++ w4 ++ ⟨#[32]⟩ ++ w5 ++ ⟨#[32]⟩ ++ w6).size ≤ 201000138 := Nat.le_trans (Nat.le_of_eq ByteArray.size_append) (Nat.add_le_add y10 b6)
      have z12 : ∀ w, (binOp .add 9 (.string (A ++ ⟨#[115, 105, 103, 110, 97, 108, 32]⟩ ++ w1 ++ ⟨#[32]⟩ ++ w2 ++ ⟨#[32]⟩ ++ w3 ++ ⟨#[32]⟩ ++ w4 ++ ⟨#[32]⟩ ++ w5 ++ ⟨#[32]⟩ ++ w6)) (.string ⟨#[10]⟩)).run (C m).P w = .ok (.string (A ++ ⟨#[115, 105, 103, 110, 97, 108, 32]⟩ ++ w1 ++ ⟨#[32]⟩ ++ w2 ++ ⟨#[32]⟩ ++ w3 ++ ⟨#[32]⟩ ++ w4 ++ ⟨#[32]⟩ ++ w5 ++ ⟨#[32]⟩ ++ w6 ++ ⟨#[10]⟩)) w := add_string 9 _ _ (Nat.le_trans (Nat.add_le_add y11 (Nat.le_refl 1)) (by decide))
      conv => whnf
      conv => whnf
      repeat' (first
        | (refine codeK_sound good (mu := []) ?_; conv => whnf)
        | ((first | rw [wl0] | rw [wl1] | rw [wl2] | rw [wl3] | rw [wl4] | rw [wl5]); conv => whnf)
        | (rw [wk]; conv => whnf)
        | (rw [hA]; conv => whnf)
        | (refine SBool.mk (fun _ => ?_) (fun h => absurd (of_decide_eq_true rfl) h); conv => whnf)
        | (refine SBool.mk (fun h => absurd h (of_decide_eq_false rfl)) (fun _ => ?_); conv => whnf)
        | (refine SBool.mk (fun h => ?_) (fun h => ?_) <;> conv => whnf)
        | (refine SEx.mk _ (by first | exact hsome | exact t1 | exact t2 | exact t3 | exact t4 | exact t5 | exact t6 | exact z0 | exact z1 | exact z2 | exact z3 | exact z4 | exact z5 | exact z6 | exact z7 | exact z8 | exact z9 | exact z10 | exact z11 | exact z12) ?_; conv => whnf)
        | (refine SEx.mk _ (by first | exact rfl | exact ⟨of_decide_eq_true rfl, rfl⟩) ?_; conv => whnf)
        | (refine SAll.mk (fun _ => ?_); conv => whnf)
        | (refine SAnd.mk (by first | exact hsome) ?_; conv => whnf)
        | (refine SAnd.mk ⟨by intro c hc; simp at hc; first | (subst hc; rfl) | ((repeat' (rcases hc with rfl | hc)) <;> first | rfl | (subst hc; rfl)), by (simp; first | done | omega), by (simp; first | done | omega)⟩ ?_; conv => whnf)
        | (refine SAnd.mk (by first | exact rfl | kernel_rfl | omega | decide | exact hsome | exact t1 | exact t2 | exact t3 | exact t4 | exact t5 | exact t6 | exact z0 | exact z1 | exact z2 | exact z3 | exact z4 | exact z5 | exact z6 | exact z7 | exact z8 | exact z9 | exact z10 | exact z11 | exact z12) ?_; conv => whnf)
        | fail)
      refine ⟨⟨k + 1, hkl⟩, m1, ?_⟩
      skip
      · refine SLe.of [] [] rfl rfl ?_
        conv => whnf
        repeat' (first
        | exact True.intro
        | (refine SAnd.mk (PLe.of_eq (congrArg St e)) ?_; conv => whnf)
        | (refine SAnd.mk (PLe.of_eq (by simp only [wrapK]; rw [wrap_id (by first | omega | (simp only; done) | (simp only; omega) | simp) (by first | omega | (simp only; done) | (simp only; omega) | simp)]; simp)) ?_; conv => whnf)
        | (refine SAnd.mk (PLe.refl _) ?_; conv => whnf)
        | (refine SAnd.mk (PLeL.refl _) ?_; conv => whnf)
        | (refine SAnd.mk (PLe.of_eq (by simp)) ?_; conv => whnf)
        | (refine SAnd.mk rfl ?_; conv => whnf)
        | (refine SAnd.mk ⟨rfl, rfl⟩ ?_; conv => whnf)
        | (refine SAnd.mk ⟨rfl, rfl, rfl⟩ ?_; conv => whnf))
    · conv => whnf
      have : k = xs.length := by simp at hc; omega
      subst this
      exact ⟨PLe.of_eq (by simp)⟩
end
end Go.Proofs.Ab.Tone2
end
section
/- The law of the depths. -/
set_option maxRecDepth 100000
set_option linter.unusedVariables false
set_option linter.unusedSimpArgs false
namespace Go.Proofs.Ab.Tone2
open Go Go.RowKit Go.Proofs.Ab Go.Proofs.Ab.Tone
section
attribute [local irreducible] APure
end
end Go.Proofs.Ab.Tone2
end
section
/- The law of the changes. -/
set_option maxRecDepth 100000
set_option linter.unusedVariables false
set_option linter.unusedSimpArgs false
namespace Go.Proofs.Ab.Tone2
open Go Go.RowKit Go.Proofs.Ab Go.Proofs.Ab.Tone
theorem eq_rsig {s t : Sg} (h : s = t) : EqAgg Tone.C 25 (sc s) (sc t) true := by
  subst h
  have h := eq_rsignal s.c.re s.c.im s.l.re s.l.im s.h.re s.h.im s.c.re s.c.im s.l.re s.l.im s.h.re s.h.im
  rw [decide_eq_true (by simp)] at h
  exact h
section
attribute [local irreducible] APure
end
end Go.Proofs.Ab.Tone2
end
section
/- Lists of the program's signals as the reference's, and that a list is itself. -/
set_option maxRecDepth 100000
set_option linter.unusedVariables false
set_option linter.unusedSimpArgs false
namespace Go.Proofs.Ab.Tone2
open Go Go.RowKit Go.Proofs.Ab Go.Proofs.Ab.Tone
theorem told68_pure {m : Int} (xs : List Sg) (hl : xs.length ≤ 1000000) : APure (C m) 68 [.seq 6 (xs.map sc)] (.seq 6 (xs.map sc)) := by
  refine APure.of_body good [] (fn := Tryz.f68) (by kernel_rfl) (by kernel_rfl) rfl rfl (by kernel_rfl) rfl (by kernel_rfl) ?_
  conv => whnf
  repeat' (first
    | (refine codeK_sound good (mu := []) ?_; conv => whnf)
    | ((first | rw [wl0] | rw [wl1] | rw [wl2] | rw [wl3] | rw [wl4] | rw [wl5]); conv => whnf)
    | (refine SBool.mk (fun _ => ?_) (fun h => absurd (of_decide_eq_true rfl) h); conv => whnf)
    | (refine SBool.mk (fun h => absurd h (of_decide_eq_false rfl)) (fun _ => ?_); conv => whnf)
    | (refine SBool.mk (fun h => ?_) (fun h => ?_) <;> conv => whnf)
    | (refine SEx.mk _ (by first | exact rfl | exact ⟨of_decide_eq_true rfl, rfl⟩) ?_; conv => whnf)
    | (refine SAll.mk (fun _ => ?_); conv => whnf)
    | (refine SAnd.mk ⟨by intro c hc; simp at hc; first | (subst hc; rfl) | ((repeat' (rcases hc with rfl | hc)) <;> first | rfl | (subst hc; rfl)), by (simp; first | done | omega), by (simp; first | done | omega)⟩ ?_; conv => whnf)
    | (refine SAnd.mk (by first | exact rfl | kernel_rfl | omega | decide) ?_; conv => whnf)
    | fail)
  refine ⟨AWp.loop (ι := { k : Nat // k ≤ xs.length }) (fun k => ⟨[(8, .p (I k.1)), (7, .p (I xs.length)), (6, .p (.seq 6 (xs.map sc))), (3, .own 0)], [], [(0, (25, 6, (xs.take k.1).map sc))], 1, [], [], []⟩) (fun k => xs.length - k.1) ⟨0, by simp⟩ ?_ ?_⟩
  · refine SLe.row 3 25 6 ?_
    conv => whnf
    skip
    · refine SLe.of [] [(0, 0)] rfl rfl ?_
      conv => whnf
      repeat' (first
      | exact True.intro
      | (refine SAnd.mk (PLe.of_eq (by simp only [wrapK]; rw [wrap_id (by first | omega | (simp only; done) | (simp only; omega) | simp) (by first | omega | (simp only; done) | (simp only; omega) | simp)]; simp)) ?_; conv => whnf)
      | (refine SAnd.mk (PLe.refl _) ?_; conv => whnf)
      | (refine SAnd.mk (PLeL.refl _) ?_; conv => whnf)
      | (refine SAnd.mk (PLe.of_eq (by simp)) ?_; conv => whnf)
      | (refine SAnd.mk rfl ?_; conv => whnf)
      | (refine SAnd.mk ⟨rfl, rfl⟩ ?_; conv => whnf)
      | (refine SAnd.mk ⟨rfl, rfl, rfl⟩ ?_; conv => whnf))
  · rintro ⟨k, hk⟩
    refine codeK_sound good (mu := []) ?_
    conv => whnf
    refine SBool.mk (fun hc => ?_) (fun hc => ?_)
    · conv => whnf
      have hkl : k < xs.length := by simpa using hc
      have hsome : 0 ≤ (k : Int) ∧ (xs.map sc)[((k : Int)).toNat]? = some (sc xs[k]) := ⟨by omega, by show (xs.map sc)[k]? = _; simp [hkl]⟩
      conv => whnf
      repeat' (first
        | (refine codeK_sound good (mu := []) ?_; conv => whnf)
        | ((first | rw [wl0] | rw [wl1] | rw [wl2] | rw [wl3] | rw [wl4] | rw [wl5]); conv => whnf)
        | (refine SBool.mk (fun _ => ?_) (fun h => absurd (of_decide_eq_true rfl) h); conv => whnf)
        | (refine SBool.mk (fun h => absurd h (of_decide_eq_false rfl)) (fun _ => ?_); conv => whnf)
        | (refine SBool.mk (fun h => ?_) (fun h => ?_) <;> conv => whnf)
        | (refine SEx.mk _ (by first | exact hsome) ?_; conv => whnf)
        | (refine SEx.mk _ (by first | exact rfl | exact ⟨of_decide_eq_true rfl, rfl⟩) ?_; conv => whnf)
        | (refine SAll.mk (fun _ => ?_); conv => whnf)
        | (refine SAnd.mk (by first | exact hsome) ?_; conv => whnf)
        | (refine SAnd.mk ⟨by intro c hc; simp at hc; first | (subst hc; rfl) | ((repeat' (rcases hc with rfl | hc)) <;> first | rfl | (subst hc; rfl)), by (simp; first | done | omega), by (simp; first | done | omega)⟩ ?_; conv => whnf)
        | (refine SAnd.mk (by first | exact rfl | kernel_rfl | omega | decide | exact hsome) ?_; conv => whnf)
        | fail)
      refine ⟨⟨k + 1, by omega⟩, by simp only; omega, ?_⟩
      skip
      · refine SLe.of [] [(0, 2)] rfl rfl ?_
        conv => whnf
        repeat' (first
        | exact True.intro
        | (refine SAnd.mk ((take_map_succ hkl _).symm) ?_; conv => whnf)
        | (refine SAnd.mk (PLe.of_eq (by simp only [wrapK]; rw [wrap_id (by first | omega | (simp only; done) | (simp only; omega) | simp) (by first | omega | (simp only; done) | (simp only; omega) | simp)]; simp)) ?_; conv => whnf)
        | (refine SAnd.mk (PLe.refl _) ?_; conv => whnf)
        | (refine SAnd.mk (PLeL.refl _) ?_; conv => whnf)
        | (refine SAnd.mk (PLe.of_eq (by simp)) ?_; conv => whnf)
        | (refine SAnd.mk rfl ?_; conv => whnf)
        | (refine SAnd.mk ⟨rfl, rfl⟩ ?_; conv => whnf)
        | (refine SAnd.mk ⟨rfl, rfl, rfl⟩ ?_; conv => whnf))
    · conv => whnf
      have : k = xs.length := by simp at hc; omega
      subst this
      exact ⟨PLe.of_eq (by simp)⟩
theorem sameSignals_self {m : Int} (xs : List Sg) (hl : xs.length ≤ 1000000) : APure (C m) 67 [.seq 6 (xs.map sc), .seq 6 (xs.map sc)] (Bo true) := by
  refine APure.of_body good [] (fn := Tryz.f67) (by kernel_rfl) (by kernel_rfl) rfl rfl (by kernel_rfl) rfl (by kernel_rfl) ?_
  conv => whnf
  repeat' (first
    | (refine codeK_sound good (mu := []) ?_; conv => whnf)
    | ((first | rw [wl0] | rw [wl1] | rw [wl2] | rw [wl3] | rw [wl4] | rw [wl5]); conv => whnf)
    | (refine SBool.mk (fun _ => ?_) (fun h => absurd (of_decide_eq_true rfl) h); conv => whnf)
    | (refine SBool.mk (fun h => absurd h (of_decide_eq_false rfl)) (fun _ => ?_); conv => whnf)
    | (refine SBool.mk (fun h => ?_) (fun h => ?_) <;> conv => whnf)
    | (refine SEx.mk _ (by first | exact rfl | exact ⟨of_decide_eq_true rfl, rfl⟩) ?_; conv => whnf)
    | (refine SAll.mk (fun _ => ?_); conv => whnf)
    | (refine SAnd.mk ⟨by intro c hc; simp at hc; first | (subst hc; rfl) | ((repeat' (rcases hc with rfl | hc)) <;> first | rfl | (subst hc; rfl)), by (simp; first | done | omega), by (simp; first | done | omega)⟩ ?_; conv => whnf)
    | (refine SAnd.mk (by first | exact rfl | kernel_rfl | omega | decide) ?_; conv => whnf)
    | fail)
  rotate_left
  · exact absurd rfl (by assumption)
  refine ⟨AWp.loop (ι := { k : Nat // k ≤ xs.length }) (fun k => ⟨[(5, .p (I k.1)), (0, .p (.seq 6 (xs.map sc))), (1, .p (.seq 6 (xs.map sc)))], [], [], 0, [], [], []⟩) (fun k => xs.length - k.1) ⟨0, by simp⟩ ?_ ?_⟩
  · skip
    · refine SLe.of [] [] rfl rfl ?_
      conv => whnf
      repeat' (first
      | exact True.intro
      | (refine SAnd.mk (PLe.of_eq (by simp only [wrapK]; rw [wrap_id (by first | omega | (simp only; done) | (simp only; omega) | simp) (by first | omega | (simp only; done) | (simp only; omega) | simp)]; simp)) ?_; conv => whnf)
      | (refine SAnd.mk (PLe.refl _) ?_; conv => whnf)
      | (refine SAnd.mk (PLeL.refl _) ?_; conv => whnf)
      | (refine SAnd.mk (PLe.of_eq (by simp)) ?_; conv => whnf)
      | (refine SAnd.mk rfl ?_; conv => whnf)
      | (refine SAnd.mk ⟨rfl, rfl⟩ ?_; conv => whnf)
      | (refine SAnd.mk ⟨rfl, rfl, rfl⟩ ?_; conv => whnf))
  · rintro ⟨k, hk⟩
    refine codeK_sound good (mu := []) ?_
    conv => whnf
    refine SBool.mk (fun hc => ?_) (fun hc => ?_)
    · have hkl : k < xs.length := by simpa using hc
      have hsome : 0 ≤ (k : Int) ∧ (xs.map sc)[((k : Int)).toNat]? = some (sc xs[k]) := ⟨by omega, by show (xs.map sc)[k]? = _; simp [hkl]⟩
      have wk : wrapK IntKind.i64 ((k : Int) + 1) = k + 1 := w64 (by omega)
      have heq := eq_rsig (s := xs[k]) (t := xs[k]) rfl
      conv => whnf
      conv => whnf
      repeat' (first
        | (refine codeK_sound good (mu := []) ?_; conv => whnf)
        | ((first | rw [wl0] | rw [wl1] | rw [wl2] | rw [wl3] | rw [wl4] | rw [wl5]); conv => whnf)
        | (rw [wk]; conv => whnf)
        | (refine SBool.mk (fun _ => ?_) (fun h => absurd (of_decide_eq_true rfl) h); conv => whnf)
        | (refine SBool.mk (fun h => absurd h (of_decide_eq_false rfl)) (fun _ => ?_); conv => whnf)
        | (refine SBool.mk (fun h => ?_) (fun h => ?_) <;> conv => whnf)
        | (refine SEx.mk _ (by first | exact hsome | exact heq) ?_; conv => whnf)
        | (refine SEx.mk _ (by first | exact rfl | exact ⟨of_decide_eq_true rfl, rfl⟩) ?_; conv => whnf)
        | (refine SAll.mk (fun _ => ?_); conv => whnf)
        | (refine SAnd.mk (by first | exact hsome | exact heq) ?_; conv => whnf)
        | (refine SAnd.mk ⟨by intro c hc; simp at hc; first | (subst hc; rfl) | ((repeat' (rcases hc with rfl | hc)) <;> first | rfl | (subst hc; rfl)), by (simp; first | done | omega), by (simp; first | done | omega)⟩ ?_; conv => whnf)
        | (refine SAnd.mk (by first | exact rfl | kernel_rfl | omega | decide | exact hsome | exact heq) ?_; conv => whnf)
        | fail)
      refine ⟨⟨k + 1, hkl⟩, by simp only; omega, ?_⟩
      skip
      · refine SLe.of [] [] rfl rfl ?_
        conv => whnf
        repeat' (first
        | exact True.intro
        | (refine SAnd.mk (PLe.of_eq (by simp only [wrapK]; rw [wrap_id (by first | omega | (simp only; done) | (simp only; omega) | simp) (by first | omega | (simp only; done) | (simp only; omega) | simp)]; simp)) ?_; conv => whnf)
        | (refine SAnd.mk (PLe.refl _) ?_; conv => whnf)
        | (refine SAnd.mk (PLeL.refl _) ?_; conv => whnf)
        | (refine SAnd.mk (PLe.of_eq (by simp)) ?_; conv => whnf)
        | (refine SAnd.mk rfl ?_; conv => whnf)
        | (refine SAnd.mk ⟨rfl, rfl⟩ ?_; conv => whnf)
        | (refine SAnd.mk ⟨rfl, rfl, rfl⟩ ?_; conv => whnf))
    · conv => whnf
      exact ⟨PLe.refl _⟩
theorem told68_nil {m : Int} : APure (C m) 68 [nilS] (.seq 6 (([] : List Sg).map sc)) :=
  (told68_pure (m := m) [] (by decide)).weaken (PLeL.cons (Ab.PLe.nil 6) PLeL.nil) (PLe.refl _)
theorem sameSignals_nil {m : Int} : APure (C m) 67 [.seq 6 (([] : List Sg).map sc), nilS] (Bo true) :=
  (sameSignals_self (m := m) [] (by decide)).weaken (PLeL.cons (PLe.refl _) (PLeL.cons (Ab.PLe.nil 6) PLeL.nil)) (PLe.refl _)
end Go.Proofs.Ab.Tone2
end
section
/- The law of the strings, given the reference's Text. -/
set_option maxRecDepth 100000
set_option linter.unusedVariables false
set_option linter.unusedSimpArgs false
namespace Go.Proofs.Ab.Tone2
open Go Go.RowKit Go.Proofs.Ab Go.Proofs.Ab.Tone
section
attribute [local irreducible] APure ByteArray.append
set_option maxHeartbeats 8000000 in
theorem ToneStrings_parts {m : Int} (xs : List Sg) (s t : ByteArray) (X T : PV) (one i n : Int) (cs : APure (C m) 36 [.seq 6 (xs.map sc)] (Bo true)) (c42 : APure (C m) 42 [.seq 6 (xs.map sc)] (.seq 6 (xs.map sc)))
    (c63 : APure (C m) 63 [.seq 6 (xs.map sc)] (.tup [St t, I one])) (c64 : APure (C m) 64 [St s] (.tup [X, I i, I n])) (c44 : APure (C m) 44 [.seq 6 (xs.map sc)] (I one)) (c65 : one = 0 → APure (C m) 65 [.seq 6 (xs.map sc)] (St t)) (h0 : one ≠ 0 → t = ⟨#[]⟩)
    (c66 : APure (C m) 66 [St s] (.tup [X, I i, I n])) (c68 : APure (C m) 68 [X] T) (c67 : APure (C m) 67 [T, X] (Bo true)) : APure (C m) 9 [.seq 6 (xs.map sc), St s] (Bo true) := by
  have es : ∀ a : ByteArray, ∀ w, (binOp .eql 9 (.string a) (.string a)).run (C m).P w = .ok (.bool true) w := fun a w => by
    have := eql_string 9 a a w
    rw [decide_eq_true rfl] at this
    exact this
  by_cases hone : one = 0
  · have c65' := c65 hone
    refine APure.of_body good [] (fn := Tryz.f9) (by kernel_rfl) (by kernel_rfl) rfl rfl (by kernel_rfl) rfl (by kernel_rfl) ?_
    conv => whnf
    repeat' (first
      | (refine codeK_sound good (mu := []) ?_; conv => whnf)
      | ((first | rw [wl0] | rw [wl1] | rw [wl2] | rw [wl3] | rw [wl4] | rw [wl5]); conv => whnf)
      | (refine SBool.mk (fun _ => ?_) (fun h => absurd (of_decide_eq_true rfl) h); conv => whnf)
      | (refine SBool.mk (fun h => absurd h (of_decide_eq_false rfl)) (fun _ => ?_); conv => whnf)
      | (refine SBool.mk (fun h => ?_) (fun h => ?_) <;> conv => whnf)
      | (refine SEx.mk _ (by first | exact awake_pure | exact cs | exact c42 | exact c63 | exact c64 | exact c44 | exact c65' | exact c66 | exact c68 | exact c67 | exact es _) ?_; conv => whnf)
      | (refine SEx.mk _ (by first | exact rfl | exact ⟨of_decide_eq_true rfl, rfl⟩) ?_; conv => whnf)
      | (refine SAll.mk (fun _ => ?_); conv => whnf)
      | (refine SAnd.mk ⟨by intro c hc; simp at hc; first | (subst hc; rfl) | ((repeat' (rcases hc with rfl | hc)) <;> first | rfl | (subst hc; rfl)), by (simp; first | done | omega), by (simp; first | done | omega)⟩ ?_; conv => whnf)
      | (refine SAnd.mk (by first | exact rfl | kernel_rfl | omega | decide | exact awake_pure | exact cs | exact c42 | exact c63 | exact c64 | exact c44 | exact c65' | exact c66 | exact c68 | exact c67 | exact es _) ?_; conv => whnf)
      | fail)
    all_goals first
      | exact ⟨PLe.refl _⟩
      | exact absurd hone (by assumption)
      | exact absurd rfl (by assumption)
  · obtain rfl := h0 hone
    refine APure.of_body good [] (fn := Tryz.f9) (by kernel_rfl) (by kernel_rfl) rfl rfl (by kernel_rfl) rfl (by kernel_rfl) ?_
    conv => whnf
    repeat' (first
      | (refine codeK_sound good (mu := []) ?_; conv => whnf)
      | ((first | rw [wl0] | rw [wl1] | rw [wl2] | rw [wl3] | rw [wl4] | rw [wl5]); conv => whnf)
      | (refine SBool.mk (fun _ => ?_) (fun h => absurd (of_decide_eq_true rfl) h); conv => whnf)
      | (refine SBool.mk (fun h => absurd h (of_decide_eq_false rfl)) (fun _ => ?_); conv => whnf)
      | (refine SBool.mk (fun h => ?_) (fun h => ?_) <;> conv => whnf)
      | (refine SEx.mk _ (by first | exact awake_pure | exact cs | exact c42 | exact c63 | exact c64 | exact c44 | exact c66 | exact c68 | exact c67 | exact es _) ?_; conv => whnf)
      | (refine SEx.mk _ (by first | exact rfl | exact ⟨of_decide_eq_true rfl, rfl⟩) ?_; conv => whnf)
      | (refine SAll.mk (fun _ => ?_); conv => whnf)
      | (refine SAnd.mk ⟨by intro c hc; simp at hc; first | (subst hc; rfl) | ((repeat' (rcases hc with rfl | hc)) <;> first | rfl | (subst hc; rfl)), by (simp; first | done | omega), by (simp; first | done | omega)⟩ ?_; conv => whnf)
      | (refine SAnd.mk (by first | exact rfl | kernel_rfl | omega | decide | exact awake_pure | exact cs | exact c42 | exact c63 | exact c64 | exact c44 | exact c66 | exact c68 | exact c67 | exact es _) ?_; conv => whnf)
      | fail)
    all_goals first
      | exact ⟨PLe.refl _⟩
      | exact absurd (by assumption) hone
      | exact absurd rfl (by assumption)
end
theorem parseF_len : ∀ (n : Nat) (r : List UInt8) (out : List Sg), (parseF n r out).1 = [] ∨ checkL (parseF n r out).1 = 0 := by
  intro n
  induction n with
  | zero => exact fun _ _ => .inl rfl
  | succ n ih =>
    intro r out
    cases r with
    | nil =>
      show (if checkL out = 0 then (out, (0 : Int), (0 : Int)) else ([], (out.length : Int), checkL out)).1 = [] ∨ checkL (if checkL out = 0 then (out, (0 : Int), (0 : Int)) else ([], (out.length : Int), checkL out)).1 = 0
      split
      · rename_i h
        exact .inr h
      · exact .inl rfl
    | cons c r =>
      have hd : parseF (n + 1) (c :: r) out = if lineOk ((c :: r).take (cutLine (c :: r))) then parseF n ((c :: r).drop (cutLine (c :: r))) (out ++ [lineSg ((c :: r).take (cutLine (c :: r)))]) else ([], (out.length : Int), 25) := rfl
      rw [hd]
      split
      · exact ih _ _
      · exact .inl rfl
theorem parseV_len (s : ByteArray) : (parseV s).1.length ≤ 1000000 := by
  unfold parseV
  split
  · simp
  · rcases parseF_len (s.size + 1) s.data.toList [] with h | h
    · rw [h]; simp
    · have := (checkL_zero.1 h).1.2
      omega
theorem ToneStrings_of {m : Int} (ht : ∀ n : Int, n.natAbs ≤ 1000000 → APure (C m) 143 [I n] (St (itoaB n))) (xs : List Sg) (s : ByteArray) : APure (C m) 9 [.seq 6 (xs.map sc), St s] (Bo true) := by
  have cs := up (m := m) (refShort_pure xs)
  by_cases hb : shortB xs.length = true
  · rw [hb] at cs
    have hl : xs.length ≤ 1000 := by
      unfold shortB at hb
      rw [Bool.or_eq_true, decide_eq_true_eq, decide_eq_true_eq] at hb
      omega
    by_cases hs : 400 < (s.size : Int) ∧ ¬ (s.size : Int) = 4097
    · have g1 := hs.1
      have g2 := hs.2
      refine APure.of_body good [] (fn := Tryz.f9) (by kernel_rfl) (by kernel_rfl) rfl rfl (by kernel_rfl) rfl (by kernel_rfl) ?_
      conv => whnf
      repeat' (first
        | (refine codeK_sound good (mu := []) ?_; conv => whnf)
        | ((first | rw [wl0] | rw [wl1] | rw [wl2] | rw [wl3] | rw [wl4] | rw [wl5]); conv => whnf)
        | (refine SBool.mk (fun _ => ?_) (fun h => absurd (of_decide_eq_true rfl) h); conv => whnf)
        | (refine SBool.mk (fun h => absurd h (of_decide_eq_false rfl)) (fun _ => ?_); conv => whnf)
        | (refine SBool.mk (fun h => ?_) (fun h => ?_) <;> conv => whnf)
        | (refine SEx.mk _ (by first | exact awake_pure | exact cs) ?_; conv => whnf)
        | (refine SEx.mk _ (by first | exact rfl | exact ⟨of_decide_eq_true rfl, rfl⟩) ?_; conv => whnf)
        | (refine SAll.mk (fun _ => ?_); conv => whnf)
        | (refine SAnd.mk ⟨by intro c hc; simp at hc; first | (subst hc; rfl) | ((repeat' (rcases hc with rfl | hc)) <;> first | rfl | (subst hc; rfl)), by (simp; first | done | omega), by (simp; first | done | omega)⟩ ?_; conv => whnf)
        | (refine SAnd.mk (by first | exact rfl | kernel_rfl | omega | decide | exact awake_pure | exact cs) ?_; conv => whnf)
        | fail)
      all_goals first
        | exact ⟨PLe.refl _⟩
        | exact absurd g1 (by assumption)
        | exact absurd (by assumption) g2
    · have hs2 : s.data.toList.length ≤ 1000000 := by
        rw [← Lib.size_eq]
        omega
      have c66 := refParse_pure (m := m) s.data.toList hs2
      rw [refP_eq] at c66
      have e : (⟨s.data.toList.toArray⟩ : ByteArray) = s := by simp
      rw [e] at c66
      have c64 := Parse_pure (m := m) s
      have c63 := Print_pure (m := m) xs (by omega)
      have hpl := parseV_len s
      refine ToneStrings_parts xs s _ _ (.seq 6 ((if (parseV s).2.2 = 0 then (parseV s).1 else []).map sc)) (checkL xs) _ _ cs (signals_pure xs (by omega)) c63 c64 (refSignals_pure xs (by omega)) ?_ ?_ c66 ?_ ?_
      · intro h
        rw [if_pos h]
        exact refPrint_of ht xs (by omega) fun x hx => ((checkL_zero.1 h).2 x hx).fit.mono (by decide)
      · intro h
        rw [if_neg h]
      · by_cases h : (parseV s).2.2 = 0
        · rw [if_pos h, if_pos h]; exact told68_pure _ hpl
        · rw [if_neg h, if_neg h]; exact told68_nil
      · by_cases h : (parseV s).2.2 = 0
        · rw [if_pos h, if_pos h]; exact sameSignals_self _ hpl
        · rw [if_neg h, if_neg h]; exact sameSignals_nil
  · have hb' : shortB xs.length = false := by simpa using hb
    rw [hb'] at cs
    refine APure.of_body good [] (fn := Tryz.f9) (by kernel_rfl) (by kernel_rfl) rfl rfl (by kernel_rfl) rfl (by kernel_rfl) ?_
    conv => whnf
    repeat' (first
      | (refine codeK_sound good (mu := []) ?_; conv => whnf)
      | ((first | rw [wl0] | rw [wl1] | rw [wl2] | rw [wl3] | rw [wl4] | rw [wl5]); conv => whnf)
      | (refine SBool.mk (fun _ => ?_) (fun h => absurd (of_decide_eq_true rfl) h); conv => whnf)
      | (refine SBool.mk (fun h => absurd h (of_decide_eq_false rfl)) (fun _ => ?_); conv => whnf)
      | (refine SBool.mk (fun h => ?_) (fun h => ?_) <;> conv => whnf)
      | (refine SEx.mk _ (by first | exact awake_pure | exact cs) ?_; conv => whnf)
      | (refine SEx.mk _ (by first | exact rfl | exact ⟨of_decide_eq_true rfl, rfl⟩) ?_; conv => whnf)
      | (refine SAll.mk (fun _ => ?_); conv => whnf)
      | (refine SAnd.mk ⟨by intro c hc; simp at hc; first | (subst hc; rfl) | ((repeat' (rcases hc with rfl | hc)) <;> first | rfl | (subst hc; rfl)), by (simp; first | done | omega), by (simp; first | done | omega)⟩ ?_; conv => whnf)
      | (refine SAnd.mk (by first | exact rfl | kernel_rfl | omega | decide | exact awake_pure | exact cs) ?_; conv => whnf)
      | fail)
    all_goals exact ⟨PLe.refl _⟩
end Go.Proofs.Ab.Tone2
end
section
/- What is printed is read again: numbers, words, lines. -/
set_option maxRecDepth 100000
set_option linter.unusedVariables false
set_option linter.unusedSimpArgs false
namespace Go.Proofs.Ab.Tone2
open Go Go.RowKit Go.Proofs.Ab Go.Proofs.Ab.Tone
theorem dec_small {u : Nat} (h : u < 10) : Lib.decDigits u = [UInt8.ofNat (48 + u)] := by rw [Lib.decDigits, dif_pos h]
theorem dec_big {u : Nat} (h : ¬ u < 10) : Lib.decDigits u = Lib.decDigits (u / 10) ++ [UInt8.ofNat (48 + u % 10)] := by rw [Lib.decDigits, dif_neg h]
theorem dec_len : ∀ (k u : Nat), 1 ≤ k → u < 10 ^ k → (Lib.decDigits u).length ≤ k := by
  intro k
  induction k with
  | zero => intro u h; omega
  | succ k ih =>
    intro u _ h
    by_cases h10 : u < 10
    · rw [dec_small h10]; simp
    · rw [dec_big h10, List.length_append]
      rw [Nat.pow_succ] at h
      have hk : 1 ≤ k := by
        rcases Nat.eq_zero_or_pos k with rfl | hk
        · omega
        · exact hk
      have := ih (u / 10) hk (by omega)
      simp only [List.length_cons, List.length_nil]
      omega
end Go.Proofs.Ab.Tone2
end
section
/- The reference's Text: a number's text. -/
set_option maxRecDepth 100000
set_option linter.unusedVariables false
set_option linter.unusedSimpArgs false
namespace Go.Proofs.Ab.Tone2
open Go Go.RowKit Go.Proofs.Ab Go.Proofs.Ab.Tone
/-- The digits of a number, none for 0. -/
def dD (u : Nat) : List UInt8 := if u = 0 then [] else Lib.decDigits u
theorem dD_succ {u : Nat} (h : u ≠ 0) : dD u = dD (u / 10) ++ [UInt8.ofNat (48 + u % 10)] := by
  unfold dD
  rw [if_neg h]
  by_cases h10 : u < 10
  · rw [dec_small h10, if_pos (by omega), show u % 10 = u by omega]
    rfl
  · rw [dec_big h10, if_neg (by omega)]
theorem dD_len {u : Nat} (h : u ≤ 1000000) : (dD u).length ≤ 7 := by
  unfold dD
  split
  · simp
  · exact dec_len 7 u (by omega) (by omega)
theorem itoa_dD {n : Int} (h : n ≠ 0) : Lib.itoa n = if n < 0 then 45 :: dD n.natAbs else dD n.natAbs := by
  have e : dD n.natAbs = Lib.decDigits n.natAbs := if_neg (by omega)
  rw [e]
  unfold Lib.itoa
  by_cases hn : n < 0
  · rw [if_pos hn, if_pos hn]
  · rw [if_neg hn, if_neg hn, show n.toNat = n.natAbs by omega]
theorem text_step (k : Int) : ∃ r : Nat, r < 10 ∧ k.natAbs % 10 = r ∧ max (k.tmod 10) (0 - k.tmod 10) = (r : Int) ∧ (k.tmod 10).natAbs ≤ 9 ∧ (k.tdiv 10).natAbs = k.natAbs / 10 := by
  have e10 : (10 : Int).natAbs = 10 := rfl
  have hr : (k.tmod 10).natAbs = k.natAbs % 10 := by have := Int.natAbs_tmod k 10; rw [e10] at this; exact this
  have hq : (k.tdiv 10).natAbs = k.natAbs / 10 := by have := Int.natAbs_tdiv k 10; rw [e10] at this; exact this
  refine ⟨k.natAbs % 10, Nat.mod_lt _ (by decide), rfl, ?_, ?_, hq⟩
  · generalize k.tmod 10 = a at *
    generalize k.natAbs % 10 = b at *
    omega
  · have := Nat.mod_lt k.natAbs (show 0 < 10 by decide)
    omega
theorem text_w1 {a : Int} (h : a.natAbs ≤ 9) : wrapK IntKind.i64 (0 - a) = 0 - a := w64 (by omega)
theorem text_w2 {r : Nat} (h : r < 10) : wrapK IntKind.i64 (48 + (r : Int)) = ((48 + r : Nat) : Int) := by
  rw [show (48 + (r : Int)) = ((48 + r : Nat) : Int) by omega]
  exact w64 (by omega)
theorem text_w3 {r : Nat} (h : r < 10) : wrapK IntKind.u8 ((48 + r : Nat) : Int) = ((48 + r : Nat) : Int) := IntWalk.u8_in _ (by omega)
theorem text_wq {q k : Int} (h : q.natAbs = k.natAbs / 10) (hk : k.natAbs ≤ 1000000) : wrapK IntKind.i64 q = q := w64 (by omega)
theorem text_len {l : List UInt8} (h : l.length ≤ 7) (c : UInt8) : (⟨#[c]⟩ : ByteArray).size + (⟨l.toArray⟩ : ByteArray).size ≤ 9223372036854775807 := by simp [ByteArray.size]; omega
theorem text_app (l : List UInt8) (c : UInt8) : (⟨#[c]⟩ ++ ⟨l.toArray⟩ : ByteArray) = ⟨(c :: l).toArray⟩ := by
  apply bytes_ext
  rw [ByteArray.data_append, Array.toList_append]
  simp
/-- What is left to write, and what is written. -/
structure TI2 (n k : Int) (l : List UInt8) : Prop where
  h1 : k.natAbs ≤ n.natAbs
  h2 : dD n.natAbs = dD k.natAbs ++ l
theorem TI2.next {n k q : Int} {l : List UInt8} (h : TI2 n k l) {r : Nat} (hr : k.natAbs % 10 = r) (hq : q.natAbs = k.natAbs / 10) (hk : k.natAbs ≠ 0) : TI2 n q (UInt8.ofNat (48 + r) :: l) ∧ q.natAbs < k.natAbs := by
  obtain ⟨h1, h2⟩ := h
  refine ⟨⟨by omega, ?_⟩, by omega⟩
  rw [h2, hq, dD_succ hk, hr]
  simp
theorem TI2.len {n k : Int} {l : List UInt8} (h : TI2 n k l) (hn : n.natAbs ≤ 1000000) : l.length ≤ 7 := by
  have h1 := dD_len hn
  have := congrArg List.length h.h2
  rw [List.length_append] at this
  omega
section
attribute [local irreducible] ByteArray.append
theorem text_zero {m : Int} : APure (C m) 143 [I 0] (St (itoaB 0)) := by
  refine APure.of_body good [] (fn := Tryz.f143) (by kernel_rfl) (by kernel_rfl) rfl rfl (by kernel_rfl) rfl (by kernel_rfl) ?_
  conv => whnf
  repeat' (first
    | (refine codeK_sound good (mu := []) ?_; conv => whnf)
    | ((first | rw [wl0] | rw [wl1] | rw [wl2] | rw [wl3] | rw [wl4] | rw [wl5]); conv => whnf)
    | (refine SBool.mk (fun _ => ?_) (fun h => absurd (of_decide_eq_true rfl) h); conv => whnf)
    | (refine SBool.mk (fun h => absurd h (of_decide_eq_false rfl)) (fun _ => ?_); conv => whnf)
    | (refine SBool.mk (fun h => ?_) (fun h => ?_) <;> conv => whnf)
    | (refine SEx.mk _ (by first | exact rfl | exact ⟨of_decide_eq_true rfl, rfl⟩) ?_; conv => whnf)
    | (refine SAll.mk (fun _ => ?_); conv => whnf)
    | (refine SAnd.mk ⟨by intro c hc; simp at hc; first | (subst hc; rfl) | ((repeat' (rcases hc with rfl | hc)) <;> first | rfl | (subst hc; rfl)), by (simp; first | done | omega), by (simp; first | done | omega)⟩ ?_; conv => whnf)
    | (refine SAnd.mk (by first | exact rfl | kernel_rfl | omega | decide) ?_; conv => whnf)
    | fail)
  · exact ⟨PLe.of_eq (by unfold itoaB Lib.itoa; rw [if_neg (by decide), show (0 : Int).toNat = 0 from rfl, dec_small (by decide)]; rfl)⟩
set_option maxHeartbeats 4000000 in
theorem refText_pure {m : Int} (n : Int) (hn6 : n.natAbs ≤ 1000000) : APure (C m) 143 [I n] (St (itoaB n)) := by
  by_cases h0 : n = 0
  · subst h0; exact text_zero
  have hdl := dD_len hn6
  refine APure.of_body good [] (fn := Tryz.f143) (by kernel_rfl) (by kernel_rfl) rfl rfl (by kernel_rfl) rfl (by kernel_rfl) ?_
  conv => whnf
  repeat' (first
    | (refine codeK_sound good (mu := []) ?_; conv => whnf)
    | ((first | rw [wl0] | rw [wl1] | rw [wl2] | rw [wl3] | rw [wl4] | rw [wl5]); conv => whnf)
    | (refine SBool.mk (fun _ => ?_) (fun h => absurd (of_decide_eq_true rfl) h); conv => whnf)
    | (refine SBool.mk (fun h => absurd h (of_decide_eq_false rfl)) (fun _ => ?_); conv => whnf)
    | (refine SBool.mk (fun h => ?_) (fun h => ?_) <;> conv => whnf)
    | (refine SEx.mk _ (by first | exact rfl | exact ⟨of_decide_eq_true rfl, rfl⟩) ?_; conv => whnf)
    | (refine SAll.mk (fun _ => ?_); conv => whnf)
    | (refine SAnd.mk ⟨by intro c hc; simp at hc; first | (subst hc; rfl) | ((repeat' (rcases hc with rfl | hc)) <;> first | rfl | (subst hc; rfl)), by (simp; first | done | omega), by (simp; first | done | omega)⟩ ?_; conv => whnf)
    | (refine SAnd.mk (by first | exact rfl | kernel_rfl | omega | decide) ?_; conv => whnf)
    | fail)
  · exact absurd (by assumption) h0
  · refine ⟨AWp.loop (ι := { p : Int × List UInt8 // TI2 n p.1 p.2 }) (fun p => ⟨[(4, .p (I p.1.1)), (3, .p (St ⟨p.1.2.toArray⟩)), (0, .p (I n))], [], [], 0, [], [], []⟩) (fun p => p.1.1.natAbs) ⟨(n, []), Nat.le_refl _, by simp⟩ ?_ ?_⟩
    · skip
      · refine SLe.of [] [] rfl rfl ?_
        conv => whnf
        repeat' (first
        | exact True.intro
        | (refine SAnd.mk (PLe.of_eq (by simp only [wrapK]; rw [wrap_id (by first | omega | (simp only; done) | (simp only; omega) | simp) (by first | omega | (simp only; done) | (simp only; omega) | simp)]; simp)) ?_; conv => whnf)
        | (refine SAnd.mk (PLe.refl _) ?_; conv => whnf)
        | (refine SAnd.mk (PLeL.refl _) ?_; conv => whnf)
        | (refine SAnd.mk (PLe.of_eq (by simp)) ?_; conv => whnf)
        | (refine SAnd.mk rfl ?_; conv => whnf)
        | (refine SAnd.mk ⟨rfl, rfl⟩ ?_; conv => whnf)
        | (refine SAnd.mk ⟨rfl, rfl, rfl⟩ ?_; conv => whnf))
    · rintro ⟨⟨k, l⟩, hti⟩
      have hll : l.length ≤ 7 := hti.len hn6
      have hk6 := Nat.le_trans hti.h1 hn6
      simp only at hk6
      have h2 := hti.h2
      simp only at h2
      refine codeK_sound good (mu := []) ?_
      conv => whnf
      refine SBool.mk (fun hk => ?_) (fun hk => ?_)
      · have hk : k = 0 := hk
        subst hk
        have e : dD n.natAbs = l := by rw [h2]; rfl
        conv => whnf
        by_cases hn : n < 0
        · have ha : ∀ w, (binOp .add 9 (.string ⟨#[45]⟩) (.string ⟨l.toArray⟩)).run (C m).P w = .ok (.string (⟨#[45]⟩ ++ ⟨l.toArray⟩)) w := add_string 9 _ _ (text_len hll _)
          conv => whnf
          repeat' (first
            | (refine codeK_sound good (mu := []) ?_; conv => whnf)
            | ((first | rw [wl0] | rw [wl1] | rw [wl2] | rw [wl3] | rw [wl4] | rw [wl5]); conv => whnf)
            | (refine SBool.mk (fun _ => ?_) (fun h => absurd (of_decide_eq_true rfl) h); conv => whnf)
            | (refine SBool.mk (fun h => absurd h (of_decide_eq_false rfl)) (fun _ => ?_); conv => whnf)
            | (refine SBool.mk (fun h => ?_) (fun h => ?_) <;> conv => whnf)
            | (refine SEx.mk _ (by first | exact ha) ?_; conv => whnf)
            | (refine SEx.mk _ (by first | exact rfl | exact ⟨of_decide_eq_true rfl, rfl⟩) ?_; conv => whnf)
            | (refine SAll.mk (fun _ => ?_); conv => whnf)
            | (refine SAnd.mk (by first | exact ha) ?_; conv => whnf)
            | (refine SAnd.mk ⟨by intro c hc; simp at hc; first | (subst hc; rfl) | ((repeat' (rcases hc with rfl | hc)) <;> first | rfl | (subst hc; rfl)), by (simp; first | done | omega), by (simp; first | done | omega)⟩ ?_; conv => whnf)
            | (refine SAnd.mk (by first | exact rfl | kernel_rfl | omega | decide | exact ha) ?_; conv => whnf)
            | fail)
          · exact ⟨PLe.of_eq (congrArg St (by
              apply bytes_ext
              rw [ByteArray.data_append, Array.toList_append]
              unfold itoaB
              rw [itoa_dD h0, if_pos hn, e]
              simp))⟩
          · exact absurd hn (by assumption)
        · skip
          conv => whnf
          repeat' (first
            | (refine codeK_sound good (mu := []) ?_; conv => whnf)
            | ((first | rw [wl0] | rw [wl1] | rw [wl2] | rw [wl3] | rw [wl4] | rw [wl5]); conv => whnf)
            | (refine SBool.mk (fun _ => ?_) (fun h => absurd (of_decide_eq_true rfl) h); conv => whnf)
            | (refine SBool.mk (fun h => absurd h (of_decide_eq_false rfl)) (fun _ => ?_); conv => whnf)
            | (refine SBool.mk (fun h => ?_) (fun h => ?_) <;> conv => whnf)
            | (refine SEx.mk _ (by first | exact rfl | exact ⟨of_decide_eq_true rfl, rfl⟩) ?_; conv => whnf)
            | (refine SAll.mk (fun _ => ?_); conv => whnf)
            | (refine SAnd.mk ⟨by intro c hc; simp at hc; first | (subst hc; rfl) | ((repeat' (rcases hc with rfl | hc)) <;> first | rfl | (subst hc; rfl)), by (simp; first | done | omega), by (simp; first | done | omega)⟩ ?_; conv => whnf)
            | (refine SAnd.mk (by first | exact rfl | kernel_rfl | omega | decide) ?_; conv => whnf)
            | fail)
          · exact absurd (by assumption) hn
          · exact ⟨PLe.of_eq (congrArg St (by
              unfold itoaB
              rw [itoa_dD h0, if_neg hn, e]))⟩
      · have hk : ¬ k = 0 := hk
        have hk0 : k.natAbs ≠ 0 := by omega
        obtain ⟨r, hr, hkr, em, hr9, hq⟩ := text_step k
        obtain ⟨hnx, hlt⟩ := hti.next hkr hq hk0
        have w1 := text_w1 hr9
        have w2 := text_w2 hr
        have w3 := text_w3 hr
        have wq := text_wq hq hk6
        have hs : strOfNums [((48 + r : Nat) : Int)] = ⟨#[UInt8.ofNat (48 + r)]⟩ := rfl
        have ha : ∀ w, (binOp .add 9 (.string ⟨#[UInt8.ofNat (48 + r)]⟩) (.string ⟨l.toArray⟩)).run (C m).P w = .ok (.string (⟨#[UInt8.ofNat (48 + r)]⟩ ++ ⟨l.toArray⟩)) w := add_string 9 _ _ (text_len hll _)
        have e2 := text_app l (UInt8.ofNat (48 + r))
        clear hkr hq hr9 hr hk0 hk6
        conv => whnf
        conv => whnf
        repeat' (first
          | (refine codeK_sound good (mu := []) ?_; conv => whnf)
          | ((first | rw [wl0] | rw [wl1] | rw [wl2] | rw [wl3] | rw [wl4] | rw [wl5]); conv => whnf)
          | (rw [wq]; conv => whnf)
          | (rw [hs]; conv => whnf)
          | (rw [w3]; conv => whnf)
          | (rw [w2]; conv => whnf)
          | (rw [em]; conv => whnf)
          | (rw [w1]; conv => whnf)
          | (refine SBool.mk (fun _ => ?_) (fun h => absurd (of_decide_eq_true rfl) h); conv => whnf)
          | (refine SBool.mk (fun h => absurd h (of_decide_eq_false rfl)) (fun _ => ?_); conv => whnf)
          | (refine SBool.mk (fun h => ?_) (fun h => ?_) <;> conv => whnf)
          | (refine SEx.mk _ (by first | exact ha) ?_; conv => whnf)
          | (refine SEx.mk _ (by first | exact rfl | exact ⟨of_decide_eq_true rfl, rfl⟩) ?_; conv => whnf)
          | (refine SAll.mk (fun _ => ?_); conv => whnf)
          | (refine SAnd.mk (by first | exact ha) ?_; conv => whnf)
          | (refine SAnd.mk ⟨by intro c hc; simp at hc; first | (subst hc; rfl) | ((repeat' (rcases hc with rfl | hc)) <;> first | rfl | (subst hc; rfl)), by (simp; first | done | omega), by (simp; first | done | omega)⟩ ?_; conv => whnf)
          | (refine SAnd.mk (by first | exact rfl | kernel_rfl | omega | decide | exact ha) ?_; conv => whnf)
          | fail)
        refine ⟨⟨(k.tdiv 10, UInt8.ofNat (48 + r) :: l), hnx⟩, hlt, ?_⟩
        skip
        · refine SLe.of [] [] rfl rfl ?_
          conv => whnf
          repeat' (first
          | exact True.intro
          | (refine SAnd.mk (PLe.of_eq (congrArg St e2)) ?_; conv => whnf)
          | (refine SAnd.mk (PLe.of_eq (by simp only [wrapK]; rw [wrap_id (by first | omega | (simp only; done) | (simp only; omega) | simp) (by first | omega | (simp only; done) | (simp only; omega) | simp)]; simp)) ?_; conv => whnf)
          | (refine SAnd.mk (PLe.refl _) ?_; conv => whnf)
          | (refine SAnd.mk (PLeL.refl _) ?_; conv => whnf)
          | (refine SAnd.mk (PLe.of_eq (by simp)) ?_; conv => whnf)
          | (refine SAnd.mk rfl ?_; conv => whnf)
          | (refine SAnd.mk ⟨rfl, rfl⟩ ?_; conv => whnf)
          | (refine SAnd.mk ⟨rfl, rfl, rfl⟩ ?_; conv => whnf))
end
end Go.Proofs.Ab.Tone2
end
section
/- More parameters' shapes. -/
set_option maxRecDepth 100000
set_option linter.unusedVariables false
set_option linter.unusedSimpArgs false
namespace Go.Proofs.Ab.Tone2
open Go Go.RowKit Go.Proofs.Ab Go.Proofs.Ab.Tone
theorem fit_str {x : PV} (h : FitP (false, [.str]) x) : ∃ s : ByteArray, x = St s ∧ s.size ≤ maxLen := by
  obtain ⟨c1, xs, e, h1, _⟩ := FitL.uncons h
  cases e
  obtain ⟨s, rfl, w⟩ := h1.str_inv
  exact ⟨s, rfl, w⟩
end Go.Proofs.Ab.Tone2
end
section
/- The law of the strings; its parameters' shapes. -/
set_option maxRecDepth 100000
set_option linter.unusedVariables false
set_option linter.unusedSimpArgs false
namespace Go.Proofs.Ab.Tone2
open Go Go.RowKit Go.Proofs.Ab Go.Proofs.Ab.Tone
theorem ToneStrings_pure {m : Int} (xs : List Sg) (s : ByteArray) : APure (C m) 9 [.seq 6 (xs.map sc), St s] (Bo true) :=
  ToneStrings_of (fun n h => refText_pure n h) xs s
end Go.Proofs.Ab.Tone2
end
section
/- ToneStrings: for every list of signals and every string the program's Print and Parse, or their errors, are the reference's: the law returns true. (Longer lists and strings are left out by the law itself, but for one too many; the listed variables are as the program's text lays them.) -/
set_option maxRecDepth 100000
set_option linter.unusedVariables false
set_option linter.unusedSimpArgs false
namespace Go.Proofs.YtkphoimochkndaaGreatDoor
open Go Go.RowKit Go.Proofs.Ab Go.Proofs.Ab.Tone Go.Proofs.Ab.Tone2
theorem toneStrings_lifted (os : Os) (started : os.Started) (H : Type) (enc : TypeId × Value → H) :
    ReturnsInHanded {} Tryz.checked os 9 .any (fun w args => (Rows.toneStringsSpec.pre enc Tryz.prog Tryz.f9 [] false w args ∧ laidMetH Tryz.prog listed w) ∧ sizedMet enc Tryz.prog Tryz.f9 (OpenSpec.ofChange Rows.toneStringsSpec) false w args)
      (Rows.toneStringsSpec.post enc Tryz.prog Tryz.f9 false true false false) := by
  refine lifted_of started (by as_aux_lemma => kernel_rfl) Tryz.func9 (ss := [(false, [.sl sigSh]), (false, [.str])])
    (witness #[.slice none 0 0, .string ⟨#[]⟩] (by as_aux_lemma => kernel_rfl) (by as_aux_lemma => kernel_rfl) (by as_aux_lemma => kernel_rfl) (World.shaped_of_ZipB (by as_aux_lemma => kernel_rfl) (by as_aux_lemma => kernel_rfl)) (laidMet_laidAll _ (by as_aux_lemma => kernel_rfl) (by as_aux_lemma => kernel_rfl)))
    ?_ (by as_aux_lemma => kernel_rfl) (by as_aux_lemma => kernel_rfl) rfl ?_ ?_
  · rw [Tryz.params9]
    intro t ht
    have hall : ([59, 9].all fun u => Tryz.prog.readableRec u && decide (u < Tryz.prog.types.size)) = true := by as_aux_lemma => kernel_rfl
    have := List.all_eq_true.1 hall t (by simpa using ht)
    rw [Bool.and_eq_true, decide_eq_true_eq] at this
    exact this
  · rw [Tryz.params9]
    intro ds hd
    match ds, hd with
    | [d0, d1], _ => exact ⟨rfl, rfl, rfl⟩
  · intro m xs h
    obtain ⟨x0, xs, rfl, h0, h⟩ := h.uncons
    obtain ⟨x1, xs, rfl, h1, h⟩ := h.uncons
    obtain rfl := h.unnil
    obtain ⟨l, rfl⟩ := fit_sigs h0
    obtain ⟨s, rfl, _⟩ := fit_str h1
    exact ToneStrings_pure l s
set_option maxHeartbeats 40000000 in
theorem toneStrings_facts : joinedFacts Tryz.pinned.checked.prog 9 Tryz.f9 Rows.toneStringsSpec Rows.toneStringsRow = true := by
  unfold joinedFacts
  simp only [Bool.and_eq_true]
  repeat' apply And.intro
  all_goals as_aux_lemma => kernel_rfl
theorem toneStrings_row : Rows.ToneStringsSaid :=
  OpenClaim.holds_of_wide 9 Tryz.f9 rfl rfl rfl rfl rfl rfl rfl ⟨rfl, rfl, rfl, rfl, rfl⟩ rfl rfl rfl rfl rfl (by as_aux_lemma => kernel_rfl) Tryz.func9 toneStrings_facts
    (of_decide_eq_true (by as_aux_lemma => kernel_rfl)) (by as_aux_lemma => unfold Func.isWrapper; first | (rw [if_pos (by decide +kernel)]; kernel_rfl) | (rw [if_neg (by decide +kernel)]; exact ⟨rfl, rfl⟩))
    (fun os started H enc _ => toneStrings_lifted os started H enc)
theorem toneStrings_named : Tryz.prog.funcNamed "glideslope/glideslopelaw02.ToneStrings" = some 9 := by kernel_rfl
theorem toneStrings_holds : Rows.ToneStringsCardSaid :=
  Claim7.holds_tied_plain_at .later [] [.data, .data, .data, .data, .data, .pinned] true (true, "6883a40308061e1e56e57a0a897ad96630f21489591d51bcd46258b6daf0fcd9") false toneStrings_row (fun _ h => by cases h) (by as_aux_lemma => kernel_rfl) (fun _ h => by cases h) toneStrings_row_tie rfl ⟨rfl, rfl⟩ (by as_aux_lemma => kernel_rfl) rfl
    (fun f fn hf hfn => by
      obtain rfl : f = 9 := Option.some.inj (toneStrings_named.symm.trans hf) |>.symm
      obtain rfl : fn = Tryz.f9 := (Option.some.inj (Tryz.func9.symm.trans hfn)).symm
      exact ⟨by as_aux_lemma => kernel_rfl, fun j t ht => by
        rw [Tryz.params9] at ht
        have hm : t ∈ [59, 9] := by simpa using Array.mem_of_getElem? ht
        have hall : ([59, 9].all fun u => !Tryz.prog.wantsStandIn u) = true := by as_aux_lemma => kernel_rfl
        exact (show Tryz.prog.wantsStandIn t = false by simpa using List.all_eq_true.1 hall t hm)⟩)
    (by as_aux_lemma => kernel_rfl)
#print axioms toneStrings_holds
end Go.Proofs.YtkphoimochkndaaGreatDoor
end
