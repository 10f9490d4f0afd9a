/- The proof of AreaApplies (see the last theorem): for every input that can be read the law returns true; the listed package-level variables are as the program's text lays them. -/
import Derived.Test.YtlgkijilmpjdmaaGreatDoorK6
section
/- The shapes of the laws' parameters. -/
set_option maxRecDepth 100000
set_option linter.unusedVariables false
set_option linter.unusedSimpArgs false
namespace Go.Proofs.Ab.Area
open Go Go.RowKit Go.Proofs.Ab
abbrev arSh : List Sh := [.str, .int .i64, .int .i64, .sl ptSh]
abbrev hdSh : List Sh := [.str, .int .i64, .int .i64]
theorem maxLen_eq : maxLen = 9223372036854775807 := rfl
theorem fitL_ar {xs : List PV} (h : FitL arSh xs) : ∃ a : Ar, xs = ac a := by
  obtain ⟨c1, xs, rfl, h1, h⟩ := h.uncons
  obtain ⟨c2, xs, rfl, h2, h⟩ := h.uncons
  obtain ⟨c3, xs, rfl, h3, h⟩ := h.uncons
  obtain ⟨c4, xs, rfl, h4, h⟩ := h.uncons
  obtain rfl := h.unnil
  obtain ⟨s, rfl, _⟩ := h1.str_inv
  obtain ⟨n2, rfl, _⟩ := h2.int_inv
  obtain ⟨n3, rfl, _⟩ := h3.int_inv
  obtain ⟨ys, rfl, _, hx⟩ := h4.sl_inv
  obtain ⟨l, rfl⟩ := rows_of (fun _ => fitL_pt) hx
  exact ⟨⟨s, n2, n3, l⟩, rfl⟩
theorem fitL_hd {xs : List PV} (h : FitL hdSh xs) : ∃ a : Hd, xs = hc a := by
  obtain ⟨c1, xs, rfl, h1, h⟩ := h.uncons
  obtain ⟨c2, xs, rfl, h2, h⟩ := h.uncons
  obtain ⟨c3, xs, rfl, h3, h⟩ := h.uncons
  obtain rfl := h.unnil
  obtain ⟨s, rfl, _⟩ := h1.str_inv
  obtain ⟨n2, rfl, _⟩ := h2.int_inv
  obtain ⟨n3, rfl, _⟩ := h3.int_inv
  exact ⟨⟨s, ⟨n2, n3⟩⟩, rfl⟩
theorem fit_sl {el : List Sh} {α : Type} {f : α → List PV} (hf : ∀ x, FitL el x → ∃ a, x = f a) {c : PV} (h : Fit (.sl el) c) : ∃ l : List α, c = .seq el.length (l.map f) ∧ l.length ≤ 9223372036854775807 := by
  obtain ⟨xs, rfl, hl, hx⟩ := h.sl_inv
  obtain ⟨l, rfl⟩ := rows_of hf hx
  exact ⟨l, rfl, by rw [← maxLen_eq]; simpa using hl⟩
theorem fit_list {el : List Sh} {α : Type} {f : α → List PV} (hf : ∀ x, FitL el x → ∃ a, x = f a) {x : PV} (h : FitP (false, [.sl el]) x) : ∃ l : List α, x = .seq el.length (l.map f) ∧ l.length ≤ 9223372036854775807 := by
  obtain ⟨c1, xs, e, h1, _⟩ := FitL.uncons h
  cases e
  exact fit_sl hf h1
theorem fit_areas {x : PV} (h : FitP (false, [.sl arSh]) x) : ∃ l : List Ar, x = .seq 4 (l.map ac) ∧ l.length ≤ 9223372036854775807 := fit_list (fun _ => fitL_ar) h
theorem fit_holds {x : PV} (h : FitP (false, [.sl hdSh]) x) : ∃ l : List Hd, x = .seq 3 (l.map hc) ∧ l.length ≤ 9223372036854775807 := fit_list (fun _ => fitL_hd) h
theorem fit_two {x : PV} (h : FitP (true, [.int .i64, .int .i64]) x) : ∃ a b : Int, x = .agg [I a, I b] := by
  obtain ⟨xs, rfl, h⟩ := h
  obtain ⟨c1, xs, rfl, h1, h⟩ := h.uncons
  obtain ⟨c2, xs, rfl, h2, h⟩ := h.uncons
  obtain rfl := h.unnil
  obtain ⟨a, rfl, _⟩ := h1.int_inv
  obtain ⟨b, rfl, _⟩ := h2.int_inv
  exact ⟨a, b, rfl⟩
end Go.Proofs.Ab.Area
end
section
/- The reference's CheckPolygon, Size, CheckBox and Meets. -/
set_option maxRecDepth 100000
set_option linter.unusedVariables false
set_option linter.unusedSimpArgs false
namespace Go.Proofs.Ab.Area
open Go Go.RowKit Go.Proofs.Ab
theorem firstM_drop {α : Type} (f : α → Int) {xs : List α} {k : Nat} (h : k < xs.length) : firstOf ((xs.drop k).map f) = if f xs[k] = 0 then firstOf ((xs.drop (k + 1)).map f) else f xs[k] := by
  rw [List.drop_eq_getElem_cons h]
  rfl
theorem firstOf_one (x : Int) : firstOf [x] = x := by
  simp only [firstOf]
  split
  · rename_i h; exact h.symm
  · rfl
theorem refPoly1 {m : Int} (l : List Pt) (h3 : 3 ≤ l.length) (hl : l.length ≤ 1000) :
    AWp (C m) Tryz.f18.ntmps (pieceAt [1, 1] c18) (endV m [ResultVar.tmp 2] (I (if firstOf (l.map ptE) = 0 then (if (List.range l.length).any (badB l) then 1 else 0) else firstOf (l.map ptE)))) ⟨[(0, .p (.seq 2 (l.map pc)))], [], [], 0, [], [], []⟩ := by
  refine codeN_sound good (mu := []) (n := 1) ?_
  conv => whnf
  refine ⟨AWp.loop (ι := { k : Nat // k ≤ l.length ∧ firstOf (l.map ptE) = firstOf ((l.drop k).map ptE) }) (fun k => ⟨[(4, .p (I k.1)), (0, .p (.seq 2 (l.map pc)))], [], [], 0, [], [], []⟩) (fun k => l.length - k.1) ⟨0, by simp⟩ ?_ ?_⟩
  · skip
    · refine SLe.of [] [] rfl rfl ?_
      conv => whnf
      repeat' (first
      | exact True.intro
      | (refine SAnd.mk (PLe.refl _) ?_; conv => whnf))
  · rintro ⟨k, hk, he⟩
    refine codeK_sound good (mu := []) ?_
    conv => whnf
    refine SBool.mk (fun hcn => ?_) (fun hcn => ?_)
    · have hkl : k < l.length := by simpa using hcn
      have hs0 : 0 ≤ (k : Int) ∧ (l.map pc)[((k : Int)).toNat]? = some (pc l[k]) := ⟨by omega, by show (l.map pc)[k]? = _; simp [hkl]⟩
      have mk : l.length - (k + 1) < l.length - k := by omega
      have hd := firstM_drop ptE hkl
      have wk : wrapK IntKind.i64 ((k : Int) + 1) = k + 1 := w64 (by omega)
      have hp := refPoint_pure (m := m) l[k]
      generalize ptE l[k] = e at hp hd
      have ret : ¬ e = 0 → (if firstOf (l.map ptE) = 0 then (if (List.range l.length).any (badB l) then (1 : Int) else 0) else firstOf (l.map ptE)) = e := fun h => by rw [he, hd, if_neg h, if_neg h]
      have nxt : e = 0 → firstOf (l.map ptE) = firstOf ((l.drop (k + 1)).map ptE) := fun h => by rw [he, hd, if_pos h]
      conv => whnf
      conv => whnf
      repeat' (first
        | (rw [wk]; conv => whnf)
        | (refine SBool.mk (fun h => ?_) (fun h => ?_) <;> conv => whnf)
        | (refine SEx.mk _ (by first | exact hs0 | exact hp) ?_; conv => whnf)
        | fail)
      all_goals first
        | exact ⟨PLe.of_eq (congrArg I (ret (by assumption)).symm)⟩
        | refine ⟨⟨k + 1, hkl, nxt (by assumption)⟩, mk, ?_⟩
      skip
      · refine SLe.of [] [] rfl rfl ?_
        conv => whnf
        repeat' (first
        | exact True.intro
        | (refine SAnd.mk (PLe.refl _) ?_; conv => whnf))
    · have : k = l.length := by simp at hcn; omega
      subst this
      have hz : firstOf (l.map ptE) = 0 := by rw [he, List.drop_length]; rfl
      have hfit : ∀ q ∈ l, q.Fit := fun q hq => fit_of (firstOf_all.1 hz _ (List.mem_map_of_mem hq))
      have go := refPoly2 (m := m) l h3 hl hfit
      rw [if_pos hz]
      conv => whnf
      refine ⟨AWp.le ?_ go⟩
      skip
      · refine SLe.of [] [] rfl rfl ?_
        conv => whnf
        repeat' (first
        | exact True.intro
        | (refine SAnd.mk (PLe.refl _) ?_; conv => whnf))
theorem refPolygon_pure {m : Int} (l : List Pt) (hl : l.length ≤ 1000) : APure (C m) 18 [.seq 2 (l.map pc)] (I (polyE l)) := by
  have hlen : (((l.map pc).length : Nat) : Int) = l.length := by simp
  have pe : ∀ a b : Int, a = (if l.length < 3 then 16 else 0) → b = (if 8 < l.length then 5 else 0) → polyF l = firstOf [a, b, firstOf (l.map ptE)] := fun a b ha hb => by rw [ha, hb]; rfl
  have ret : ∀ a b : Int, a = (if l.length < 3 then 16 else 0) → b = (if 8 < l.length then 5 else 0) → ¬ firstOf [a, b] = 0 → firstOf [a, b] = polyE l := fun a b ha hb h => by
    have e : polyF l = firstOf [a, b] := by
      rw [pe a b ha hb]
      simp only [firstOf] at h ⊢
      split
      · split
        · rename_i h1 h2; simp [h1, h2] at h
        · rfl
      · rfl
    unfold polyE
    rw [e, if_neg h]
  have go : ∀ a b : Int, a = (if l.length < 3 then 16 else 0) → b = (if 8 < l.length then 5 else 0) → firstOf [a, b] = 0 →
      AWp (C m) Tryz.f18.ntmps (pieceAt [1, 1] c18) (endV m [ResultVar.tmp 2] (I (polyE l))) ⟨[(0, .p (.seq 2 (l.map pc)))], [], [], 0, [], [], []⟩ := fun a b ha hb h => by
    rw [firstOf_zero, firstOf_zero] at h
    have h3 : 3 ≤ l.length := by
      rcases Nat.lt_or_ge l.length 3 with hh | hh
      · rw [if_pos hh] at ha; rw [ha] at h; exact absurd h.1 (by decide)
      · exact hh
    have e : polyF l = firstOf (l.map ptE) := by
      rw [pe a b ha hb, h.1, h.2.1]
      exact firstOf_one _
    have e2 : polyE l = if firstOf (l.map ptE) = 0 then (if (List.range l.length).any (badB l) then 1 else 0) else firstOf (l.map ptE) := by unfold polyE; rw [e]
    rw [e2]
    exact refPoly1 l h3 hl
  refine APure.of_wp good (fn := Tryz.f18) (by kernel_rfl) (by kernel_rfl) rfl rfl (by kernel_rfl) rfl (by kernel_rfl) ?_
  refine codeN_sound good (mu := []) (n := 2) ?_
  conv => whnf
  repeat' (first
    | (rw [hlen]; conv => whnf)
    | (refine SBool.mk (fun _ => ?_) (fun h => absurd (of_decide_eq_true rfl) h); conv => whnf)
    | (refine SBool.mk (fun h => absurd h (of_decide_eq_false rfl)) (fun _ => ?_); conv => whnf)
    | (refine SBool.mk (fun h => ?_) (fun h => ?_) <;> conv => whnf)
    | (refine SEx.mk _ (by first | exact refWhen_pure _ _ | exact refFirst2_pure _ _) ?_; conv => whnf)
    | fail)
  all_goals first
    | exact ⟨PLe.of_eq (congrArg I (ret _ _ (by first | exact (if_pos (by omega)).symm | exact (if_neg (by omega)).symm) (by first | exact (if_pos (by omega)).symm | exact (if_neg (by omega)).symm) (by assumption)))⟩
    | refine ⟨AWp.le ?_ (go _ _ (by first | exact (if_pos (by omega)).symm | exact (if_neg (by omega)).symm) (by first | exact (if_pos (by omega)).symm | exact (if_neg (by omega)).symm) (by assumption))⟩
  all_goals
    skip
    · refine SLe.of [] [] rfl rfl ?_
      conv => whnf
      repeat' (first
      | exact True.intro
      | (refine SAnd.mk (PLe.refl _) ?_; conv => whnf))
end Go.Proofs.Ab.Area
end
section
/- The reference's Meets. -/
set_option maxRecDepth 100000
set_option linter.unusedVariables false
set_option linter.unusedSimpArgs false
namespace Go.Proofs.Ab.Area
open Go Go.RowKit Go.Proofs.Ab
end Go.Proofs.Ab.Area
end
section
/- The law of the shapes, given that the program is awake. -/
set_option maxRecDepth 100000
set_option linter.unusedVariables false
set_option linter.unusedSimpArgs false
namespace Go.Proofs.Ab.Area
open Go Go.RowKit Go.Proofs.Ab
theorem lawFirst_pure {m : Int} (xs : List Int) (hl : xs.length ≤ 1000000) : APure (C m) 19 [ints xs] (I (firstOf xs)) := by
  have h1 := refFirst_pure (m := m) xs (by omega)
  refine APure.of_body good [] (fn := Tryz.f19) (by kernel_rfl) (by kernel_rfl) rfl rfl (by kernel_rfl) rfl (by kernel_rfl) ?_
  conv => whnf
  repeat' (first
    | (refine codeK_sound good (mu := []) ?_; conv => whnf)
    | ((first | rw [wl0] | rw [wl1] | rw [wl2] | rw [wl3] | rw [wl4] | rw [wl5]); conv => whnf)
    | (refine SBool.mk (fun _ => ?_) (fun h => absurd (of_decide_eq_true rfl) h); conv => whnf)
    | (refine SBool.mk (fun h => absurd h (of_decide_eq_false rfl)) (fun _ => ?_); conv => whnf)
    | (refine SBool.mk (fun h => ?_) (fun h => ?_) <;> conv => whnf)
    | (refine SEx.mk _ (by first | exact h1) ?_; conv => whnf)
    | (refine SEx.mk _ (by first | exact rfl | exact ⟨of_decide_eq_true rfl, rfl⟩) ?_; conv => whnf)
    | (refine SAll.mk (fun _ => ?_); conv => whnf)
    | (refine SAnd.mk (by first | exact h1) ?_; conv => whnf)
    | (refine SAnd.mk ⟨by intro c hc; simp at hc; first | (subst hc; rfl) | ((repeat' (rcases hc with rfl | hc)) <;> first | rfl | (subst hc; rfl)), by (simp; first | done | omega), by (simp; first | done | omega)⟩ ?_; conv => whnf)
    | (refine SAnd.mk (by first | exact rfl | kernel_rfl | omega | decide | exact h1) ?_; conv => whnf)
    | fail)
  exact ⟨PLe.refl _⟩
section
attribute [local irreducible] APure
end
end Go.Proofs.Ab.Area
end
section
/- The reference's names and small checks. -/
set_option maxRecDepth 100000
set_option linter.unusedVariables false
set_option linter.unusedSimpArgs false
namespace Go.Proofs.Ab.Area
open Go Go.RowKit Go.Proofs.Ab
theorem byte_at {l : List UInt8} {k : Nat} (h : k < l.length) : byteAt ⟨l.toArray⟩ ((k : Int)).toNat = (l[k].toNat : Int) := by
  show byteAt ⟨l.toArray⟩ k = _
  have hs : k < (⟨l.toArray⟩ : ByteArray).size := by simpa [ByteArray.size] using h
  unfold byteAt
  rw [getElem?_pos (⟨l.toArray⟩ : ByteArray) k hs]
  rfl
theorem name_cases (l : List UInt8) : (l.length = 0 → nameB ⟨l.toArray⟩ = false) ∧ (24 < l.length → nameB ⟨l.toArray⟩ = false) ∧ (¬ l.length = 0 → ¬ 24 < l.length → nameB ⟨l.toArray⟩ = goodN 0 l) := by
  have hn : nameB ⟨l.toArray⟩ = (goodN 0 l && decide (l ≠ []) && decide (l.length ≤ 24)) := by
    have : nameB ⟨l.toArray⟩ = nameL l := by unfold nameB; simp
    rw [this, nameL_eq]
  refine ⟨fun h => ?_, fun h => ?_, fun h1 h2 => ?_⟩
  · have : l = [] := List.eq_nil_of_length_eq_zero h
    subst this
    rw [hn]
    simp
  · rw [hn, decide_eq_false (show ¬ l.length ≤ 24 by omega), Bool.and_false]
  · rw [hn, decide_eq_true (show l ≠ [] from fun e => h1 (by rw [e]; rfl)), decide_eq_true (show l.length ≤ 24 by omega), Bool.and_true, Bool.and_true]
set_option maxHeartbeats 4000000 in
theorem refIsName_pure {m : Int} (s : ByteArray) : APure (C m) 182 [St s] (Bo (nameB s)) := by
  obtain ⟨l, rfl⟩ : ∃ l : List UInt8, s = ⟨l.toArray⟩ := ⟨s.data.toList, by simp⟩
  have hbs : (⟨l.toArray⟩ : ByteArray).size = l.length := by simp [ByteArray.size]
  have hbi : (((⟨l.toArray⟩ : ByteArray).size : Nat) : Int) = (l.length : Int) := by rw [hbs]
  obtain ⟨c0, c1, c2⟩ := name_cases l
  generalize nameB ⟨l.toArray⟩ = V at *
  refine APure.of_body good [] (fn := Tryz.f182) (by kernel_rfl) (by kernel_rfl) rfl rfl (by kernel_rfl) rfl (by kernel_rfl) ?_
  conv => whnf
  repeat' (first
    | (rw [hbi]; conv => whnf)
    | (refine SBool.mk (fun h => ?_) (fun h => ?_) <;> conv => whnf)
    | fail)
  · exact ⟨PLe.of_eq (congrArg Bo (c0 (by have h : (l.length : Int) = 0 := h; omega)).symm)⟩
  · exact ⟨PLe.of_eq (congrArg Bo (c1 (by have h : 24 < (l.length : Int) := h; omega)).symm)⟩
  · rename_i h1
    have h24 : ¬ 24 < l.length := by have h : ¬ 24 < (l.length : Int) := h; omega
    have h0 : ¬ l.length = 0 := by have h : ¬ (l.length : Int) = 0 := h1; omega
    have hV := c2 h0 h24
    clear c0 c1 c2 h h1
    refine ⟨AWp.loop (ι := { k : Nat // k ≤ l.length ∧ V = goodN k (l.drop k) }) (fun k => ⟨[(3, .p (I k.1)), (0, .p (St ⟨l.toArray⟩))], [], [], 0, [], [], []⟩) (fun k => l.length - k.1) ⟨0, by simp, by simpa using hV⟩ ?_ ?_⟩
    · skip
      · refine SLe.of [] [] rfl rfl ?_
        conv => whnf
        repeat' (first
        | exact True.intro
        | (refine SAnd.mk (PLe.refl _) ?_; conv => whnf))
    · rintro ⟨k, hk, hg⟩
      refine codeK_sound good (mu := []) ?_
      conv => whnf
      refine SBool.mk (fun hc => ?_) (fun hc => ?_)
      · have hc' : (k : Int) < (((⟨l.toArray⟩ : ByteArray).size : Nat) : Int) := hc
        rw [hbs] at hc'
        have hkl : k < l.length := by omega
        have hs0 : (0 : Int) ≤ (k : Int) ∧ (k : Int) < ((⟨l.toArray⟩ : ByteArray).size : Int) := ⟨by omega, by rw [hbs]; omega⟩
        have hby := byte_at hkl
        have mk := sub_lt hkl
        have wk := wsucc (k := k) (by omega)
        have bad : ¬ letterP l[k].toNat → (k = 0 ∨ ¬ otherP l[k].toNat) → V = false := fun h1 h2 => by rw [hg]; exact goodN_bad hkl h1 h2
        have ok : (letterP l[k].toNat ∨ (k ≠ 0 ∧ otherP l[k].toNat)) → V = goodN (k + 1) (l.drop (k + 1)) := fun h => by rw [hg]; exact goodN_ok hkl h
        unfold letterP otherP at bad ok
        clear hc hc' hV hbs hbi
        generalize l[k].toNat = c at *
        conv => whnf
        conv => whnf
        repeat' (first
          | (rw [wk]; conv => whnf)
          | (rw [hby]; conv => whnf)
          | (refine SBool.mk (fun h => ?_) (fun h => ?_) <;> conv => whnf)
          | (refine SAnd.mk (by first | exact hs0) ?_; conv => whnf)
          | fail)
        all_goals
          dsimp only at *
          first
            | exact ⟨PLe.of_eq (congrArg Bo (bad (by omega) (by omega)).symm)⟩
            | skip
        all_goals
          refine ⟨⟨k + 1, hkl, ok (by omega)⟩, mk, ?_⟩
          skip
          · refine SLe.of [] [] rfl rfl ?_
            conv => whnf
            repeat' (first
            | exact True.intro
            | (refine SAnd.mk (PLe.refl _) ?_; conv => whnf))
      · have hc' : ¬ (k : Int) < (((⟨l.toArray⟩ : ByteArray).size : Nat) : Int) := hc
        rw [hbs] at hc'
        have hkl : k = l.length := by omega
        subst hkl
        have hg' : V = true := by rw [hg, List.drop_length]; rfl
        skip
        conv => whnf
        repeat' (first
          | fail)
        exact ⟨PLe.of_eq (congrArg Bo hg'.symm)⟩
theorem refName_pure {m : Int} (s : ByteArray) : APure (C m) 119 [St s] (I (if nameB s then 0 else 8)) := by
  have h := refIsName_pure (m := m) s
  generalize nameB s = b at h ⊢
  cases b
  · refine APure.of_body good [] (fn := Tryz.f119) (by kernel_rfl) (by kernel_rfl) rfl rfl (by kernel_rfl) rfl (by kernel_rfl) ?_
    conv => whnf
    repeat' (first
      | (refine SEx.mk _ (by first | exact h | exact refWhen_pure _ _) ?_; conv => whnf)
      | fail)
    exact ⟨PLe.refl _⟩
  · refine APure.of_body good [] (fn := Tryz.f119) (by kernel_rfl) (by kernel_rfl) rfl rfl (by kernel_rfl) rfl (by kernel_rfl) ?_
    conv => whnf
    repeat' (first
      | (refine SEx.mk _ (by first | exact h | exact refWhen_pure _ _) ?_; conv => whnf)
      | fail)
    exact ⟨PLe.refl _⟩
theorem refSz_pure {m : Int} (n : Int) : APure (C m) 33 [I n] (I (sizeE n)) := by
  refine APure.of_body good [] (fn := Tryz.f33) (by kernel_rfl) (by kernel_rfl) rfl rfl (by kernel_rfl) rfl (by kernel_rfl) ?_
  conv => whnf
  repeat' (first
    | (refine SEx.mk _ (by first | exact refRange_pure _ _ _) ?_; conv => whnf)
    | fail)
  exact ⟨PLe.refl _⟩
theorem refCat_pure {m : Int} (n : Int) : APure (C m) 34 [I n] (I (catE n)) := by
  refine APure.of_body good [] (fn := Tryz.f34) (by kernel_rfl) (by kernel_rfl) rfl rfl (by kernel_rfl) rfl (by kernel_rfl) ?_
  conv => whnf
  repeat' (first
    | (refine SEx.mk _ (by first | exact refRange_pure _ _ _) ?_; conv => whnf)
    | fail)
  exact ⟨PLe.refl _⟩
end Go.Proofs.Ab.Area
end
section
/- The reference's checks of lists of things with names. -/
set_option maxRecDepth 100000
set_option linter.unusedVariables false
set_option linter.unusedSimpArgs false
namespace Go.Proofs.Ab.Area
open Go Go.RowKit Go.Proofs.Ab
theorem firstOf_cat : ∀ (xs ys : List Int), firstOf (xs ++ [firstOf ys]) = firstOf (xs ++ ys)
  | [], ys => by
    show (if firstOf ys = 0 then 0 else firstOf ys) = firstOf ys
    split
    · rename_i h; exact h.symm
    · rfl
  | x :: xs, ys => by
    show (if x = 0 then firstOf (xs ++ [firstOf ys]) else x) = (if x = 0 then firstOf (xs ++ ys) else x)
    rw [firstOf_cat xs ys]
theorem refFirst5_pure {m : Int} (a b c d e : Int) : APure (C m) 98 [.seq 1 [[I a], [I b], [I c], [I d], [I e]]] (I (firstOf [a, b, c, d, e])) := refFirst_pure [a, b, c, d, e] (by simp)
theorem namedF_step {α : Type} (nm : α → ByteArray) (er : α → Int) {xs : List α} {k : Nat} (hkl : k < xs.length) {a b z : Int} (ha : a = if nameB (nm xs[k]) then 0 else 8) (hb : b = if knownB ((xs.take k).map nm) (nm xs[k]) then 9 else 0) (hz : z = firstOf [a, b, er xs[k]]) :
    namedF ((xs.take k).map nm) ((xs.drop k).map fun x => (nm x, er x)) = if z = 0 then namedF ((xs.take (k + 1)).map nm) ((xs.drop (k + 1)).map fun x => (nm x, er x)) else z := by
  rw [List.drop_eq_getElem_cons hkl, take_map_succ hkl, hz, ha, hb]
  rfl
theorem app_name (l : List ByteArray) (s : ByteArray) (h : l.length ≤ 1000000) : (∀ c ∈ ([[St s]] : List (List PV)).flatten, c.one = true) ∧ ((l.map cS).length + 1) * 16 ≤ 140737488355328 ∧ (l.map cS).length + 1 ≤ 9223372036854775807 := by
  refine ⟨fun c hc => ?_, by simp only [List.length_map]; omega, by simp only [List.length_map]; omega⟩
  simp at hc
  rw [hc]
  rfl
noncomputable def c35 : Code := Tryz.f35.body.getD .skip
set_option maxHeartbeats 4000000 in
theorem refHolds_loop {m : Int} (xs : List Hd) (hl : xs.length ≤ 1000000) :
    AWp (C m) Tryz.f35.ntmps (pieceAt [1, 1, 1] c35) (endV m [ResultVar.tmp 2] (I (namedF [] (xs.map fun x => (x.name, ptE x.at_))))) ⟨[(3, .p nilS), (0, .p (.seq 3 (xs.map hc)))], [], [], 0, [], [], []⟩ := by
  have hlen : (((xs.map hc).length : Nat) : Int) = xs.length := by simp
  obtain ⟨V, hV⟩ : ∃ V, V = namedF [] (xs.map fun x => (x.name, ptE x.at_)) := ⟨_, rfl⟩
  rw [← hV]
  refine codeK_sound good (mu := []) ?_
  conv => whnf
  repeat' (first
    | fail)
  refine ⟨AWp.loop (ι := { k : Nat // k ≤ xs.length ∧ V = namedF ((xs.take k).map (·.name)) ((xs.drop k).map fun x => (x.name, ptE x.at_)) }) (fun k => ⟨[(4, .p (I k.1)), (0, .p (.seq 3 (xs.map hc))), (3, .own 0)], [], [(0, (9, 1, ((xs.take k.1).map (·.name)).map cS))], 1, [], [], []⟩) (fun k => xs.length - k.1) ⟨0, by simp, by simpa using hV⟩ ?_ ?_⟩
  · refine SLe.row 3 9 1 ?_
    conv => whnf
    skip
    · refine SLe.of [] [(0, 0)] rfl rfl ?_
      conv => whnf
      repeat' (first
      | exact True.intro
      | (refine SAnd.mk (PLe.refl _) ?_; conv => whnf)
      | (refine SAnd.mk rfl ?_; conv => whnf))
  · rintro ⟨k, hk, he⟩
    refine codeK_sound good (mu := []) ?_
    conv => whnf
    refine SBool.mk (fun hcn => ?_) (fun hcn => ?_)
    · have hcn' : (k : Int) < (((xs.map hc).length : Nat) : Int) := hcn
      rw [hlen] at hcn'
      have hkl : k < xs.length := by omega
      have hs := some_at hkl hc
      have mk := sub_lt hkl
      have wk := wsucc (k := k) (by omega)
      have hnm := refName_pure (m := m) xs[k].name
      have hkn := hasWord_pure (m := m) ((xs.take k).map (·.name)) xs[k].name (by rw [List.length_map, List.length_take]; omega)
      have hap := app_name ((xs.take k).map (·.name)) xs[k].name (by rw [List.length_map, List.length_take]; omega)
      have hts : ((xs.take k).map (·.name)).map cS ++ [[St xs[k].name]] = ((xs.take (k + 1)).map (·.name)).map cS := by rw [take_map_succ hkl (fun x : Hd => x.name), List.map_append]; rfl
      have hst := fun a b z ha hb hz => namedF_step (fun x : Hd => x.name) (fun x => ptE x.at_) hkl (a := a) (b := b) (z := z) ha hb hz
      have hpt := refPoint_pure (m := m) xs[k].at_
      have ecat : ∀ a b, firstOf [a, b, ptE xs[k].at_] = firstOf [a, b, ptE xs[k].at_] := fun _ _ => rfl
      clear hcn hcn'
      generalize hnb : nameB xs[k].name = b1 at *
      generalize hkb : knownB ((xs.take k).map (·.name)) xs[k].name = b2 at *
      cases b1 <;> cases b2
      all_goals
        conv => whnf
        repeat' (first
          | (rw [wk]; conv => whnf)
          | (refine SBool.mk (fun h => absurd h (of_decide_eq_false rfl)) (fun _ => ?_); conv => whnf)
          | (refine SBool.mk (fun h => ?_) (fun h => ?_) <;> conv => whnf)
          | (refine SEx.mk _ (by first | exact hs | exact hnm | exact hkn | exact hap | exact refWhen_pure _ _ | exact hpt | exact refFirst3_pure _ _ _) ?_; conv => whnf)
          | (refine SAnd.mk (by first | exact hs | exact hnm | exact hkn | exact hap | exact hpt) ?_; conv => whnf)
          | (refine SAnd.mk (by first | exact rfl | kernel_rfl | omega | decide | exact hs | exact hnm | exact hkn | exact hap | exact refWhen_pure _ _ | exact hpt | exact refFirst3_pure _ _ _) ?_; conv => whnf)
          | fail)
        all_goals first
          | exact ⟨PLe.of_eq (congrArg I (by rw [he, hst _ _ _ rfl rfl (ecat _ _)]; exact (if_neg (by assumption)).symm))⟩
          | skip
      all_goals
        refine ⟨⟨k + 1, hkl, by rw [he, hst _ _ _ rfl rfl (ecat _ _), if_pos (by assumption)]⟩, mk, ?_⟩
        skip
        · refine SLe.of [] [(0, 20)] rfl rfl ?_
          conv => whnf
          repeat' (first
          | exact True.intro
          | (refine SAnd.mk (hts) ?_; conv => whnf)
          | (refine SAnd.mk (PLe.refl _) ?_; conv => whnf))
    · have hcn' : ¬ (k : Int) < (((xs.map hc).length : Nat) : Int) := hcn
      rw [hlen] at hcn'
      have hkl : k = xs.length := by omega
      subst hkl
      skip
      conv => whnf
      repeat' (first
        | fail)
      exact ⟨PLe.of_eq (congrArg I (by rw [he]; simp [namedF]))⟩
theorem refHolds_pure {m : Int} (xs : List Hd) (hl : xs.length ≤ 1000000) : APure (C m) 35 [.seq 3 (xs.map hc)] (I (holdsE xs)) := by
  have hlen : (((xs.map hc).length : Nat) : Int) = xs.length := by simp
  by_cases hb : 16 < (xs.length : Int)
  · have e : holdsE xs = 5 := by
      unfold holdsE namedE
      rw [List.length_map, if_pos hb]
    rw [e]
    refine APure.of_body good [] (fn := Tryz.f35) (by kernel_rfl) (by kernel_rfl) rfl rfl (by kernel_rfl) rfl (by kernel_rfl) ?_
    conv => whnf
    repeat' (first
      | (rw [hlen]; conv => whnf)
      | (refine SBool.mk (fun h => ?_) (fun h => ?_) <;> conv => whnf)
      | fail)
    · exact ⟨PLe.refl _⟩
    all_goals exact absurd hb (by assumption)
  · have e : holdsE xs = namedF [] (xs.map fun x => (x.name, ptE x.at_)) := by
      unfold holdsE namedE
      rw [List.length_map, if_neg hb]
    rw [e]
    have go := refHolds_loop (m := m) xs hl
    refine APure.of_wp good (fn := Tryz.f35) (by kernel_rfl) (by kernel_rfl) rfl rfl (by kernel_rfl) rfl (by kernel_rfl) ?_
    refine codeN_sound good (mu := []) (n := 3) ?_
    conv => whnf
    repeat' (first
      | (rw [hlen]; conv => whnf)
      | (refine SBool.mk (fun h => ?_) (fun h => ?_) <;> conv => whnf)
      | fail)
    · exact absurd (by assumption) hb
    · refine ⟨AWp.le ?_ go⟩
      skip
      · refine SLe.of [] [] rfl rfl ?_
        conv => whnf
        repeat' (first
        | exact True.intro
        | (refine SAnd.mk (PLe.refl _) ?_; conv => whnf))
noncomputable def c32 : Code := Tryz.f32.body.getD .skip
set_option maxHeartbeats 4000000 in
theorem refAreas_loop {m : Int} (xs : List Ar) (hl : xs.length ≤ 1000000) (hp : ∀ a ∈ xs, a.poly.length ≤ 1000) :
    AWp (C m) Tryz.f32.ntmps (pieceAt [1, 1, 1] c32) (endV m [ResultVar.tmp 2] (I (namedF [] (xs.map fun x => (x.name, areaE x))))) ⟨[(3, .p nilS), (0, .p (.seq 4 (xs.map ac)))], [], [], 0, [], [], []⟩ := by
  have hlen : (((xs.map ac).length : Nat) : Int) = xs.length := by simp
  obtain ⟨V, hV⟩ : ∃ V, V = namedF [] (xs.map fun x => (x.name, areaE x)) := ⟨_, rfl⟩
  rw [← hV]
  refine codeK_sound good (mu := []) ?_
  conv => whnf
  repeat' (first
    | fail)
  refine ⟨AWp.loop (ι := { k : Nat // k ≤ xs.length ∧ V = namedF ((xs.take k).map (·.name)) ((xs.drop k).map fun x => (x.name, areaE x)) }) (fun k => ⟨[(4, .p (I k.1)), (0, .p (.seq 4 (xs.map ac))), (3, .own 0)], [], [(0, (9, 1, ((xs.take k.1).map (·.name)).map cS))], 1, [], [], []⟩) (fun k => xs.length - k.1) ⟨0, by simp, by simpa using hV⟩ ?_ ?_⟩
  · refine SLe.row 3 9 1 ?_
    conv => whnf
    skip
    · refine SLe.of [] [(0, 0)] rfl rfl ?_
      conv => whnf
      repeat' (first
      | exact True.intro
      | (refine SAnd.mk (PLe.refl _) ?_; conv => whnf)
      | (refine SAnd.mk rfl ?_; conv => whnf))
  · rintro ⟨k, hk, he⟩
    refine codeK_sound good (mu := []) ?_
    conv => whnf
    refine SBool.mk (fun hcn => ?_) (fun hcn => ?_)
    · have hcn' : (k : Int) < (((xs.map ac).length : Nat) : Int) := hcn
      rw [hlen] at hcn'
      have hkl : k < xs.length := by omega
      have hs := some_at hkl ac
      have mk := sub_lt hkl
      have wk := wsucc (k := k) (by omega)
      have hnm := refName_pure (m := m) xs[k].name
      have hkn := hasWord_pure (m := m) ((xs.take k).map (·.name)) xs[k].name (by rw [List.length_map, List.length_take]; omega)
      have hap := app_name ((xs.take k).map (·.name)) xs[k].name (by rw [List.length_map, List.length_take]; omega)
      have hts : ((xs.take k).map (·.name)).map cS ++ [[St xs[k].name]] = ((xs.take (k + 1)).map (·.name)).map cS := by rw [take_map_succ hkl (fun x : Ar => x.name), List.map_append]; rfl
      have hst := fun a b z ha hb hz => namedF_step (fun x : Ar => x.name) (fun x => areaE x) hkl (a := a) (b := b) (z := z) ha hb hz
      have hsz := refSz_pure (m := m) xs[k].size
      have hct := refCat_pure (m := m) xs[k].cat
      have hpl := refPolygon_pure (m := m) xs[k].poly (hp _ (List.getElem_mem hkl))
      have ecat : ∀ a b, firstOf [a, b, sizeE xs[k].size, catE xs[k].cat, polyE xs[k].poly] = firstOf [a, b, areaE xs[k]] := fun a b => (firstOf_cat [a, b] [sizeE xs[k].size, catE xs[k].cat, polyE xs[k].poly]).symm
      clear hcn hcn'
      generalize hnb : nameB xs[k].name = b1 at *
      generalize hkb : knownB ((xs.take k).map (·.name)) xs[k].name = b2 at *
      cases b1 <;> cases b2
      all_goals
        conv => whnf
        repeat' (first
          | (rw [wk]; conv => whnf)
          | (refine SBool.mk (fun h => absurd h (of_decide_eq_false rfl)) (fun _ => ?_); conv => whnf)
          | (refine SBool.mk (fun h => ?_) (fun h => ?_) <;> conv => whnf)
          | (refine SEx.mk _ (by first | exact hs | exact hnm | exact hkn | exact hap | exact refWhen_pure _ _ | exact hsz | exact hct | exact hpl | exact refFirst5_pure _ _ _ _ _) ?_; conv => whnf)
          | (refine SAnd.mk (by first | exact hs | exact hnm | exact hkn | exact hap | exact hsz | exact hct | exact hpl) ?_; conv => whnf)
          | (refine SAnd.mk (by first | exact rfl | kernel_rfl | omega | decide | exact hs | exact hnm | exact hkn | exact hap | exact refWhen_pure _ _ | exact hsz | exact hct | exact hpl | exact refFirst5_pure _ _ _ _ _) ?_; conv => whnf)
          | fail)
        all_goals first
          | exact ⟨PLe.of_eq (congrArg I (by rw [he, hst _ _ _ rfl rfl (ecat _ _)]; exact (if_neg (by assumption)).symm))⟩
          | skip
      all_goals
        refine ⟨⟨k + 1, hkl, by rw [he, hst _ _ _ rfl rfl (ecat _ _), if_pos (by assumption)]⟩, mk, ?_⟩
        skip
        · refine SLe.of [] [(0, 32)] rfl rfl ?_
          conv => whnf
          repeat' (first
          | exact True.intro
          | (refine SAnd.mk (hts) ?_; conv => whnf)
          | (refine SAnd.mk (PLe.refl _) ?_; conv => whnf))
    · have hcn' : ¬ (k : Int) < (((xs.map ac).length : Nat) : Int) := hcn
      rw [hlen] at hcn'
      have hkl : k = xs.length := by omega
      subst hkl
      skip
      conv => whnf
      repeat' (first
        | fail)
      exact ⟨PLe.of_eq (congrArg I (by rw [he]; simp [namedF]))⟩
theorem refAreas_pure {m : Int} (xs : List Ar) (hl : xs.length ≤ 1000000) (hp : xs.length ≤ 16 → ∀ a ∈ xs, a.poly.length ≤ 1000) : APure (C m) 32 [.seq 4 (xs.map ac)] (I (areasE xs)) := by
  have hlen : (((xs.map ac).length : Nat) : Int) = xs.length := by simp
  by_cases hb : 16 < (xs.length : Int)
  · have e : areasE xs = 5 := by
      unfold areasE namedE
      rw [List.length_map, if_pos hb]
    rw [e]
    refine APure.of_body good [] (fn := Tryz.f32) (by kernel_rfl) (by kernel_rfl) rfl rfl (by kernel_rfl) rfl (by kernel_rfl) ?_
    conv => whnf
    repeat' (first
      | (rw [hlen]; conv => whnf)
      | (refine SBool.mk (fun h => ?_) (fun h => ?_) <;> conv => whnf)
      | fail)
    · exact ⟨PLe.refl _⟩
    all_goals exact absurd hb (by assumption)
  · have e : areasE xs = namedF [] (xs.map fun x => (x.name, areaE x)) := by
      unfold areasE namedE
      rw [List.length_map, if_neg hb]
    rw [e]
    have go := refAreas_loop (m := m) xs hl (hp (by omega))
    refine APure.of_wp good (fn := Tryz.f32) (by kernel_rfl) (by kernel_rfl) rfl rfl (by kernel_rfl) rfl (by kernel_rfl) ?_
    refine codeN_sound good (mu := []) (n := 3) ?_
    conv => whnf
    repeat' (first
      | (rw [hlen]; conv => whnf)
      | (refine SBool.mk (fun h => ?_) (fun h => ?_) <;> conv => whnf)
      | fail)
    · exact absurd (by assumption) hb
    · refine ⟨AWp.le ?_ go⟩
      skip
      · refine SLe.of [] [] rfl rfl ?_
        conv => whnf
        repeat' (first
        | exact True.intro
        | (refine SAnd.mk (PLe.refl _) ?_; conv => whnf))
end Go.Proofs.Ab.Area
end
section
/- Lists handed over to the program; short lists. -/
set_option maxRecDepth 100000
set_option linter.unusedVariables false
set_option linter.unusedSimpArgs false
namespace Go.Proofs.Ab.Area
open Go Go.RowKit Go.Proofs.Ab
theorem one_ac (a : Ar) : ∀ c ∈ [ac a].flatten, c.one = true := by
  intro c hc
  simp only [List.flatten_cons, List.flatten_nil, List.append_nil, List.mem_cons, List.not_mem_nil, or_false] at hc
  rcases hc with rfl | rfl | rfl | rfl <;> rfl
theorem one_hc (a : Hd) : ∀ c ∈ [hc a].flatten, c.one = true := by
  intro c hc
  simp only [List.flatten_cons, List.flatten_nil, List.append_nil, List.mem_cons, List.not_mem_nil, or_false] at hc
  rcases hc with rfl | rfl | rfl <;> rfl
theorem held_pure {m : Int} (l : List Hd) (hl : l.length ≤ 1000000) : APure (C m) 31 [.seq 3 (l.map hc)] (.seq 3 (l.map hc)) := by
  have hlen : (((l.map hc).length : Nat) : Int) = l.length := by simp
  refine APure.of_body good [] (fn := Tryz.f31) (by kernel_rfl) (by kernel_rfl) rfl rfl (by kernel_rfl) rfl (by kernel_rfl) ?_
  conv => whnf
  repeat' (first
    | (rw [hlen]; conv => whnf)
    | fail)
  refine ⟨AWp.loop (ι := { k : Nat // k ≤ l.length }) (fun k => ⟨[(8, .p (I k.1)), (7, .p (I l.length)), (6, .p (.seq 3 (l.map hc))), (3, .own 0)], [], [(0, (159, 3, (l.take k.1).map hc))], 1, [], [], []⟩) (fun k => l.length - k.1) ⟨0, by simp⟩ ?_ ?_⟩
  · refine SLe.row 3 159 3 ?_
    conv => whnf
    skip
    · refine SLe.of [] [(0, 0)] rfl rfl ?_
      conv => whnf
      repeat' (first
      | exact True.intro
      | (refine SAnd.mk (PLe.refl _) ?_; conv => whnf)
      | (refine SAnd.mk rfl ?_; conv => whnf))
  · rintro ⟨k, hk⟩
    refine codeK_sound good (mu := []) ?_
    conv => whnf
    refine SBool.mk (fun hcn => ?_) (fun hcn => ?_)
    · have hkl : k < l.length := by simpa using hcn
      have hs := some_at hkl hc
      have mk := sub_lt hkl
      have hts := take_map_succ hkl hc
      have hap : (∀ c ∈ [hc l[k]].flatten, c.one = true) ∧ (((l.take k).map hc).length + 1) * 32 ≤ 140737488355328 ∧ ((l.take k).map hc).length + 1 ≤ 9223372036854775807 := ⟨one_hc _, by rw [List.length_map, List.length_take]; omega, by rw [List.length_map, List.length_take]; omega⟩
      have wk := wsucc (k := k) (by omega)
      clear hcn
      conv => whnf
      skip
      conv => whnf
      repeat' (first
        | (rw [wk]; conv => whnf)
        | (refine SEx.mk _ (by first | exact hs | exact hap) ?_; conv => whnf)
        | (refine SAnd.mk (by first | exact hs | exact hap) ?_; conv => whnf)
        | fail)
      refine ⟨⟨k + 1, hkl⟩, mk, ?_⟩
      skip
      · refine SLe.of [] [(0, 2)] rfl rfl ?_
        conv => whnf
        repeat' (first
        | exact True.intro
        | (refine SAnd.mk (hts.symm) ?_; conv => whnf)
        | (refine SAnd.mk (PLe.refl _) ?_; conv => whnf))
    · have : k = l.length := by simp at hcn; omega
      subst this
      skip
      conv => whnf
      repeat' (first
        | fail)
      exact ⟨PLe.of_eq (by rw [List.take_length])⟩
def shortHoldsB (l : List Hd) : Prop := (∀ a ∈ l, a.name.size ≤ 40) ∧ (l.length ≤ 6 ∨ l.length = 17)
theorem shortHolds_pure {m : Int} (l : List Hd) (hl : l.length ≤ 9223372036854775807) : ∃ b : Bool, (b = true → shortHoldsB l) ∧ APure (C m) 27 [.seq 3 (l.map hc)] (Bo b) := by
  have hlen : (((l.map hc).length : Nat) : Int) = l.length := by simp
  refine ⟨l.all (fun a => decide (a.name.size ≤ 40)) && decide (l.length ≤ 6 ∨ l.length = 17), fun h => ?_, ?_⟩
  · rw [Bool.and_eq_true, List.all_eq_true, decide_eq_true_eq] at h
    exact ⟨fun a ha => by simpa using h.1 a ha, h.2⟩
  · obtain ⟨V, hV⟩ : ∃ V, V = l.all (fun a => decide (a.name.size ≤ 40)) := ⟨_, rfl⟩
    rw [← hV]
    refine APure.of_body good [] (fn := Tryz.f27) (by kernel_rfl) (by kernel_rfl) rfl rfl (by kernel_rfl) rfl (by kernel_rfl) ?_
    conv => whnf
    repeat' (first
      | fail)
    refine ⟨AWp.loop (ι := { k : Nat // k ≤ l.length ∧ V = (l.drop k).all (fun a => decide (a.name.size ≤ 40)) }) (fun k => ⟨[(3, .p (I k.1)), (0, .p (.seq 3 (l.map hc)))], [], [], 0, [], [], []⟩) (fun k => l.length - k.1) ⟨0, by simp, by simpa using hV⟩ ?_ ?_⟩
    · skip
      · refine SLe.of [] [] rfl rfl ?_
        conv => whnf
        repeat' (first
        | exact True.intro
        | (refine SAnd.mk (PLe.refl _) ?_; conv => whnf))
    · rintro ⟨k, hk, he⟩
      clear hV
      refine codeK_sound good (mu := []) ?_
      conv => whnf
      refine SBool.mk (fun hcn => ?_) (fun hcn => ?_)
      · have hcn' : (k : Int) < (((l.map hc).length : Nat) : Int) := hcn
        rw [hlen] at hcn'
        have hkl : k < l.length := by omega
        have hs := some_at hkl hc
        have mk := sub_lt hkl
        have wk : wrapK IntKind.i64 ((k : Int) + 1) = k + 1 := wrap_id (by omega) (by omega)
        have hst : (l.drop k).all (fun a => decide (a.name.size ≤ 40)) = (decide (l[k].name.size ≤ 40) && (l.drop (k + 1)).all (fun a => decide (a.name.size ≤ 40))) := by rw [List.drop_eq_getElem_cons hkl, List.all_cons]
        rw [hst] at he
        clear hcn hcn' hst
        generalize l[k] = x at *
        by_cases hbig : x.name.size ≤ 40
        · rw [decide_eq_true hbig, Bool.true_and] at he
          have hbi : ¬ 40 < ((x.name.size : Nat) : Int) := by omega
          skip
          conv => whnf
          repeat' (first
            | (rw [wk]; conv => whnf)
            | (refine SBool.mk (fun h => ?_) (fun h => ?_) <;> conv => whnf)
            | (refine SEx.mk _ (by first | exact hs) ?_; conv => whnf)
            | fail)
          · exact absurd (by assumption) hbi
          · refine ⟨⟨k + 1, hkl, he⟩, mk, ?_⟩
            skip
            · refine SLe.of [] [] rfl rfl ?_
              conv => whnf
              repeat' (first
              | exact True.intro
              | (refine SAnd.mk (PLe.refl _) ?_; conv => whnf))
        · rw [decide_eq_false hbig, Bool.false_and] at he
          have hbi : 40 < ((x.name.size : Nat) : Int) := by omega
          subst he
          skip
          conv => whnf
          repeat' (first
            | (rw [wk]; conv => whnf)
            | (refine SBool.mk (fun h => ?_) (fun h => ?_) <;> conv => whnf)
            | (refine SEx.mk _ (by first | exact hs) ?_; conv => whnf)
            | fail)
          · exact ⟨PLe.of_eq (by rw [Bool.false_and])⟩
          · exact absurd hbi (by assumption)
      · have hcn' : ¬ (k : Int) < (((l.map hc).length : Nat) : Int) := hcn
        rw [hlen] at hcn'
        have hkl : k = l.length := by omega
        subst hkl
        rw [List.drop_length, List.all_nil] at he
        subst he
        rw [Bool.true_and]
        clear hcn hcn'
        skip
        conv => whnf
        repeat' (first
          | (rw [hlen]; conv => whnf)
          | (refine SBool.mk (fun h => ?_) (fun h => ?_) <;> conv => whnf)
          | fail)
        all_goals first
          | exact ⟨PLe.of_eq (congrArg Bo (decide_eq_true (by omega)).symm)⟩
          | exact ⟨PLe.of_eq (congrArg Bo (decide_eq_false (by omega)).symm)⟩
end Go.Proofs.Ab.Area
end
section
/- Areas handed over: with polygons of their own; short areas; what applies; conflicts compared. -/
set_option maxRecDepth 100000
set_option linter.unusedVariables false
set_option linter.unusedSimpArgs false
namespace Go.Proofs.Ab.Area
open Go Go.RowKit Go.Proofs.Ab
theorem owned_pure {m : Int} (l : List Ar) (hl : l.length ≤ 1000000) (hp : ∀ a ∈ l, a.poly.length ≤ 1000000) : APure (C m) 113 [.seq 4 (l.map ac)] (.seq 4 (l.map ac)) := by
  have hlen : (((l.map ac).length : Nat) : Int) = l.length := by simp
  refine APure.of_body good [] (fn := Tryz.f113) (by kernel_rfl) (by kernel_rfl) rfl rfl (by kernel_rfl) rfl (by kernel_rfl) ?_
  conv => whnf
  repeat' (first
    | fail)
  refine ⟨AWp.loop (ι := { k : Nat // k ≤ l.length }) (fun k => ⟨[(4, .p (I k.1)), (0, .p (.seq 4 (l.map ac))), (3, .own 0)], [], [(0, (178, 4, (l.take k.1).map ac))], 1, [], [], []⟩) (fun k => l.length - k.1) ⟨0, by simp⟩ ?_ ?_⟩
  · refine SLe.row 3 178 4 ?_
    conv => whnf
    skip
    · refine SLe.of [] [(0, 0)] rfl rfl ?_
      conv => whnf
      repeat' (first
      | exact True.intro
      | (refine SAnd.mk (PLe.refl _) ?_; conv => whnf)
      | (refine SAnd.mk rfl ?_; conv => whnf))
  · rintro ⟨k, hk⟩
    refine codeK_sound good (mu := [5, 1016]) ?_
    conv => whnf
    refine SBool.mk (fun hcn => ?_) (fun hcn => ?_)
    · have hcn' : (k : Int) < (((l.map ac).length : Nat) : Int) := hcn
      rw [hlen] at hcn'
      have hkl : k < l.length := by omega
      have hs := some_at hkl ac
      have mk := sub_lt hkl
      have hts := take_map_succ hkl ac
      have hpk := hp _ (List.getElem_mem hkl)
      have hone : ∀ c ∈ (l[k].poly.map pc).flatten, c.one = true := fun c hc => by
        simp only [List.mem_flatten, List.mem_map] at hc
        obtain ⟨x, ⟨p, _, rfl⟩, hx⟩ := hc
        simp at hx
        rcases hx with rfl | rfl <;> rfl
      have hbds : (∀ c ∈ (l[k].poly.map pc).flatten, c.one = true) ∧ (([] : List (List PV)).length + (l[k].poly.map pc).length) * 16 ≤ 140737488355328 ∧ ([] : List (List PV)).length + (l[k].poly.map pc).length ≤ 9223372036854775807 := ⟨hone, by simp only [List.length_nil, List.length_map]; omega, by simp only [List.length_nil, List.length_map]; omega⟩
      have hap : (∀ c ∈ [ac l[k]].flatten, c.one = true) ∧ (((l.take k).map ac).length + 1) * 56 ≤ 140737488355328 ∧ ((l.take k).map ac).length + 1 ≤ 9223372036854775807 := ⟨one_ac _, by rw [List.length_map, List.length_take]; omega, by rw [List.length_map, List.length_take]; omega⟩
      have wk := wsucc (k := k) (by omega)
      clear hcn hcn'
      conv => whnf
      skip
      conv => whnf
      repeat' (first
        | (rw [wk]; conv => whnf)
        | (refine SEx.mk _ (by first | exact hs | exact hbds | exact hap) ?_; conv => whnf)
        | (refine SAnd.mk (by first | exact hs | exact hbds | exact hap) ?_; conv => whnf)
        | fail)
      refine ⟨⟨k + 1, hkl⟩, mk, ?_⟩
      skip
      · refine SLe.of [] [(0, 4)] rfl rfl ?_
        conv => whnf
        repeat' (first
        | exact True.intro
        | (refine SAnd.mk (hts.symm) ?_; conv => whnf)
        | (refine SAnd.mk (PLe.refl _) ?_; conv => whnf))
    · have hcn' : ¬ (k : Int) < (((l.map ac).length : Nat) : Int) := hcn
      rw [hlen] at hcn'
      have : k = l.length := by omega
      subst this
      skip
      conv => whnf
      repeat' (first
        | fail)
      exact ⟨PLe.of_eq (by rw [List.take_length])⟩
theorem given_pure {m : Int} (l : List Ar) (hl : l.length ≤ 1000000) (hp : ∀ a ∈ l, a.poly.length ≤ 1000000) : APure (C m) 29 [.seq 4 (l.map ac)] (.seq 4 (l.map ac)) := by
  have hlen : (((l.map ac).length : Nat) : Int) = l.length := by simp
  have hown := owned_pure (m := m) l hl hp
  refine APure.of_body good [] (fn := Tryz.f29) (by kernel_rfl) (by kernel_rfl) rfl rfl (by kernel_rfl) rfl (by kernel_rfl) ?_
  conv => whnf
  repeat' (first
    | (rw [hlen]; conv => whnf)
    | (refine SEx.mk _ (by first | exact hown) ?_; conv => whnf)
    | fail)
  refine ⟨AWp.loop (ι := { k : Nat // k ≤ l.length }) (fun k => ⟨[(9, .p (I k.1)), (8, .p (I l.length)), (7, .p (.seq 4 (l.map ac))), (3, .own 0)], [], [(0, (181, 4, (l.take k.1).map ac))], 1, [], [], []⟩) (fun k => l.length - k.1) ⟨0, by simp⟩ ?_ ?_⟩
  · refine SLe.row 3 181 4 ?_
    conv => whnf
    skip
    · refine SLe.of [] [(0, 0)] rfl rfl ?_
      conv => whnf
      repeat' (first
      | exact True.intro
      | (refine SAnd.mk (PLe.refl _) ?_; conv => whnf)
      | (refine SAnd.mk rfl ?_; conv => whnf))
  · rintro ⟨k, hk⟩
    refine codeK_sound good (mu := []) ?_
    conv => whnf
    refine SBool.mk (fun hcn => ?_) (fun hcn => ?_)
    · have hkl : k < l.length := by simpa using hcn
      have hs := some_at hkl ac
      have mk := sub_lt hkl
      have hts := take_map_succ hkl ac
      have hap : (∀ c ∈ [ac l[k]].flatten, c.one = true) ∧ (((l.take k).map ac).length + 1) * 56 ≤ 140737488355328 ∧ ((l.take k).map ac).length + 1 ≤ 9223372036854775807 := ⟨one_ac _, by rw [List.length_map, List.length_take]; omega, by rw [List.length_map, List.length_take]; omega⟩
      have wk := wsucc (k := k) (by omega)
      clear hcn
      conv => whnf
      skip
      conv => whnf
      repeat' (first
        | (rw [wk]; conv => whnf)
        | (refine SEx.mk _ (by first | exact hs | exact hap) ?_; conv => whnf)
        | (refine SAnd.mk (by first | exact hs | exact hap) ?_; conv => whnf)
        | fail)
      refine ⟨⟨k + 1, hkl⟩, mk, ?_⟩
      skip
      · refine SLe.of [] [(0, 2)] rfl rfl ?_
        conv => whnf
        repeat' (first
        | exact True.intro
        | (refine SAnd.mk (hts.symm) ?_; conv => whnf)
        | (refine SAnd.mk (PLe.refl _) ?_; conv => whnf))
    · have : k = l.length := by simp at hcn; omega
      subst this
      skip
      conv => whnf
      repeat' (first
        | fail)
      exact ⟨PLe.of_eq (by rw [List.take_length])⟩
def shortAreasB (l : List Ar) : Prop := (∀ a ∈ l, a.name.size ≤ 40 ∧ a.poly.length ≤ 9) ∧ (l.length ≤ 4 ∨ l.length = 17)
theorem shortAreas_pure {m : Int} (l : List Ar) (hl : l.length ≤ 9223372036854775807) : ∃ b : Bool, (b = true → shortAreasB l) ∧ APure (C m) 26 [.seq 4 (l.map ac)] (Bo b) := by
  have hlen : (((l.map ac).length : Nat) : Int) = l.length := by simp
  refine ⟨l.all (fun a => decide (a.name.size ≤ 40 ∧ a.poly.length ≤ 9)) && decide (l.length ≤ 4 ∨ l.length = 17), fun h => ?_, ?_⟩
  · rw [Bool.and_eq_true, List.all_eq_true, decide_eq_true_eq] at h
    exact ⟨fun a ha => by simpa using h.1 a ha, h.2⟩
  · obtain ⟨V, hV⟩ : ∃ V, V = l.all (fun a => decide (a.name.size ≤ 40 ∧ a.poly.length ≤ 9)) := ⟨_, rfl⟩
    rw [← hV]
    refine APure.of_body good [] (fn := Tryz.f26) (by kernel_rfl) (by kernel_rfl) rfl rfl (by kernel_rfl) rfl (by kernel_rfl) ?_
    conv => whnf
    repeat' (first
      | fail)
    refine ⟨AWp.loop (ι := { k : Nat // k ≤ l.length ∧ V = (l.drop k).all (fun a => decide (a.name.size ≤ 40 ∧ a.poly.length ≤ 9)) }) (fun k => ⟨[(3, .p (I k.1)), (0, .p (.seq 4 (l.map ac)))], [], [], 0, [], [], []⟩) (fun k => l.length - k.1) ⟨0, by simp, by simpa using hV⟩ ?_ ?_⟩
    · skip
      · refine SLe.of [] [] rfl rfl ?_
        conv => whnf
        repeat' (first
        | exact True.intro
        | (refine SAnd.mk (PLe.refl _) ?_; conv => whnf))
    · rintro ⟨k, hk, he⟩
      clear hV
      refine codeK_sound good (mu := []) ?_
      conv => whnf
      refine SBool.mk (fun hcn => ?_) (fun hcn => ?_)
      · have hcn' : (k : Int) < (((l.map ac).length : Nat) : Int) := hcn
        rw [hlen] at hcn'
        have hkl : k < l.length := by omega
        have hs := some_at hkl ac
        have mk := sub_lt hkl
        have wk : wrapK IntKind.i64 ((k : Int) + 1) = k + 1 := wrap_id (by omega) (by omega)
        have hst : (l.drop k).all (fun a => decide (a.name.size ≤ 40 ∧ a.poly.length ≤ 9)) = (decide (l[k].name.size ≤ 40 ∧ l[k].poly.length ≤ 9) && (l.drop (k + 1)).all (fun a => decide (a.name.size ≤ 40 ∧ a.poly.length ≤ 9))) := by rw [List.drop_eq_getElem_cons hkl, List.all_cons]
        rw [hst] at he
        clear hcn hcn' hst
        generalize l[k] = x at *
        by_cases hbig : x.name.size ≤ 40 ∧ x.poly.length ≤ 9
        · rw [decide_eq_true hbig, Bool.true_and] at he
          have hbi : ¬ 40 < ((x.name.size : Nat) : Int) := by omega
          have hbp : ¬ 9 < (((x.poly.map pc).length : Nat) : Int) := by rw [List.length_map]; omega
          skip
          conv => whnf
          repeat' (first
            | (rw [wk]; conv => whnf)
            | (refine SBool.mk (fun h => ?_) (fun h => ?_) <;> conv => whnf)
            | (refine SEx.mk _ (by first | exact hs) ?_; conv => whnf)
            | fail)
          · exact absurd (by assumption) hbi
          · exact absurd (by assumption) hbp
          · refine ⟨⟨k + 1, hkl, he⟩, mk, ?_⟩
            skip
            · refine SLe.of [] [] rfl rfl ?_
              conv => whnf
              repeat' (first
              | exact True.intro
              | (refine SAnd.mk (PLe.refl _) ?_; conv => whnf))
        · rw [decide_eq_false hbig, Bool.false_and] at he
          have hbi : 40 < ((x.name.size : Nat) : Int) ∨ 9 < (((x.poly.map pc).length : Nat) : Int) := by rw [List.length_map]; omega
          subst he
          skip
          conv => whnf
          repeat' (first
            | (rw [wk]; conv => whnf)
            | (refine SBool.mk (fun h => ?_) (fun h => ?_) <;> conv => whnf)
            | (refine SEx.mk _ (by first | exact hs) ?_; conv => whnf)
            | fail)
          · exact ⟨PLe.of_eq (by rw [Bool.false_and])⟩
          · exact ⟨PLe.of_eq (by rw [Bool.false_and])⟩
          · rcases hbi with hb | hb <;> exact absurd hb (by assumption)
      · have hcn' : ¬ (k : Int) < (((l.map ac).length : Nat) : Int) := hcn
        rw [hlen] at hcn'
        have hkl : k = l.length := by omega
        subst hkl
        rw [List.drop_length, List.all_nil] at he
        subst he
        rw [Bool.true_and]
        clear hcn hcn'
        skip
        conv => whnf
        repeat' (first
          | (rw [hlen]; conv => whnf)
          | (refine SBool.mk (fun h => ?_) (fun h => ?_) <;> conv => whnf)
          | fail)
        all_goals first
          | exact ⟨PLe.of_eq (congrArg Bo (decide_eq_true (by omega)).symm)⟩
          | exact ⟨PLe.of_eq (congrArg Bo (decide_eq_false (by omega)).symm)⟩
theorem refApplies_pure {m : Int} (a : Ar) (size cat : Int) : APure (C m) 121 [.agg (ac a), I size, I cat] (Bo (appliesB a size cat)) := by
  refine APure.of_body good [] (fn := Tryz.f121) (by kernel_rfl) (by kernel_rfl) rfl rfl (by kernel_rfl) rfl (by kernel_rfl) ?_
  conv => whnf
  repeat' (first
    | (refine SBool.mk (fun h => ?_) (fun h => ?_) <;> conv => whnf)
    | fail)
  all_goals exact ⟨PLe.of_eq (congrArg Bo (by unfold appliesB; first | (rw [decide_eq_true (by omega), decide_eq_true (by omega)]; rfl) | (rw [Bool.and_eq_false_iff.2 (.inl (decide_eq_false (by omega)))]) | (rw [Bool.and_eq_false_iff.2 (.inr (decide_eq_false (by omega)))])))⟩
theorem filter_take {α : Type} (p : α → Bool) {l : List α} {k : Nat} (h : k < l.length) : (l.take (k + 1)).filter p = (l.take k).filter p ++ if p l[k] then [l[k]] else [] := by
  rw [List.take_succ_eq_append_getElem h, List.filter_append]
  congr 1
  cases hp : p l[k] <;> simp [hp]
theorem filter_len {α : Type} (p : α → Bool) (l : List α) (k : Nat) : ((l.take k).filter p).length ≤ l.length := Nat.le_trans (List.length_filter_le _ _) (by rw [List.length_take]; omega)
theorem refApplying_pure {m : Int} (l : List Ar) (size cat : Int) (hl : l.length ≤ 1000000) : APure (C m) 36 [.seq 4 (l.map ac), I size, I cat] (.seq 1 ((applyL l size cat).map cS)) := by
  have hlen : (((l.map ac).length : Nat) : Int) = l.length := by simp
  refine APure.of_body good [] (fn := Tryz.f36) (by kernel_rfl) (by kernel_rfl) rfl rfl (by kernel_rfl) rfl (by kernel_rfl) ?_
  conv => whnf
  repeat' (first
    | fail)
  refine ⟨AWp.loop (ι := { k : Nat // k ≤ l.length }) (fun k => ⟨[(8, .p (I k.1)), (0, .p (.seq 4 (l.map ac))), (1, .p (I size)), (2, .p (I cat)), (7, .own 0)], [], [(0, (9, 1, (((l.take k.1).filter fun a => appliesB a size cat).map (·.name)).map cS))], 1, [], [], []⟩) (fun k => l.length - k.1) ⟨0, by simp⟩ ?_ ?_⟩
  · refine SLe.row 7 9 1 ?_
    conv => whnf
    skip
    · refine SLe.of [] [(0, 0)] rfl rfl ?_
      conv => whnf
      repeat' (first
      | exact True.intro
      | (refine SAnd.mk (PLe.refl _) ?_; conv => whnf)
      | (refine SAnd.mk rfl ?_; conv => whnf))
  · rintro ⟨k, hk⟩
    refine codeK_sound good (mu := []) ?_
    conv => whnf
    refine SBool.mk (fun hcn => ?_) (fun hcn => ?_)
    · have hcn' : (k : Int) < (((l.map ac).length : Nat) : Int) := hcn
      rw [hlen] at hcn'
      have hkl : k < l.length := by omega
      have hs := some_at hkl ac
      have mk := sub_lt hkl
      have wk := wsucc (k := k) (by omega)
      have happ := refApplies_pure (m := m) l[k] size cat
      have hap := app_name (((l.take k).filter fun a => appliesB a size cat).map (·.name)) l[k].name (by rw [List.length_map]; exact Nat.le_trans (filter_len _ l k) hl)
      have hft := filter_take (fun a => appliesB a size cat) hkl
      clear hcn hcn'
      cases hB : appliesB l[k] size cat
      · rw [hB] at happ
        rw [hB] at hft
        have e : (((l.take k).filter fun a => appliesB a size cat).map (·.name)).map cS = (((l.take (k + 1)).filter fun a => appliesB a size cat).map (·.name)).map cS := by rw [hft]; simp
        skip
        conv => whnf
        repeat' (first
          | (rw [wk]; conv => whnf)
          | (refine SEx.mk _ (by first | exact hs | exact happ | exact hap) ?_; conv => whnf)
          | fail)
        refine ⟨⟨k + 1, hkl⟩, mk, ?_⟩
        skip
        · refine SLe.of [] [(0, 0)] rfl rfl ?_
          conv => whnf
          repeat' (first
          | exact True.intro
          | (refine SAnd.mk (show _ = (_ : List (List PV)) from e) ?_; conv => whnf)
          | (refine SAnd.mk (PLe.refl _) ?_; conv => whnf))
      · rw [hB] at happ
        rw [hB] at hft
        have e : (((l.take k).filter fun a => appliesB a size cat).map (·.name)).map cS ++ [[St l[k].name]] = (((l.take (k + 1)).filter fun a => appliesB a size cat).map (·.name)).map cS := by rw [hft]; simp
        skip
        conv => whnf
        repeat' (first
          | (rw [wk]; conv => whnf)
          | (refine SEx.mk _ (by first | exact hs | exact happ | exact hap) ?_; conv => whnf)
          | (refine SAnd.mk (by first | exact hs | exact happ | exact hap) ?_; conv => whnf)
          | fail)
        refine ⟨⟨k + 1, hkl⟩, mk, ?_⟩
        skip
        · refine SLe.of [] [(0, 1)] rfl rfl ?_
          conv => whnf
          repeat' (first
          | exact True.intro
          | (refine SAnd.mk (show _ = (_ : List (List PV)) from e) ?_; conv => whnf)
          | (refine SAnd.mk (PLe.refl _) ?_; conv => whnf))
    · have hcn' : ¬ (k : Int) < (((l.map ac).length : Nat) : Int) := hcn
      rw [hlen] at hcn'
      have : k = l.length := by omega
      subst this
      skip
      conv => whnf
      repeat' (first
        | fail)
      exact ⟨PLe.of_eq (by rw [List.take_length]; rfl)⟩
end Go.Proofs.Ab.Area
end
section
/- The reference's Usable. -/
set_option maxRecDepth 100000
set_option linter.unusedVariables false
set_option linter.unusedSimpArgs false
namespace Go.Proofs.Ab.Area
open Go Go.RowKit Go.Proofs.Ab
theorem any_take {α : Type} (g : α → Bool) {l : List α} {k : Nat} (h : k < l.length) : (l.take (k + 1)).any g = ((l.take k).any g || g l[k]) := by
  rw [List.take_succ_eq_append_getElem h, List.any_append]
  simp
set_option maxHeartbeats 4000000 in
theorem refUsable_pure {m : Int} (l : List Ar) (h : List Hd) (size cat : Int) (hl : l.length ≤ 1000000) (hhl : h.length ≤ 1000000) (hp : ∀ a ∈ l, a.poly.length ≤ 1000 ∧ ∀ q ∈ a.poly, q.Fit) (hq : ∀ x ∈ h, x.at_.Fit) :
    APure (C m) 37 [.seq 4 (l.map ac), .seq 3 (h.map hc), I size, I cat] (.seq 1 ((usableL l h size cat).map cS)) := by
  have hlen : (((l.map ac).length : Nat) : Int) = l.length := by simp
  have hlen2 : (((h.map hc).length : Nat) : Int) = h.length := by simp
  refine APure.of_body good [] (fn := Tryz.f37) (by kernel_rfl) (by kernel_rfl) rfl rfl (by kernel_rfl) rfl (by kernel_rfl) ?_
  conv => whnf
  repeat' (first
    | fail)
  refine ⟨AWp.loop (ι := { k : Nat // k ≤ h.length }) (fun k => ⟨[(10, .p (I k.1)), (0, .p (.seq 4 (l.map ac))), (1, .p (.seq 3 (h.map hc))), (2, .p (I size)), (3, .p (I cat)), (9, .own 0)], [], [(0, (9, 1, (((h.take k.1).filter fun x => !l.any fun a => appliesB a size cat && inB a.poly x.at_).map (·.name)).map cS))], 1, [], [], []⟩) (fun k => h.length - k.1) ⟨0, by simp⟩ ?_ ?_⟩
  · refine SLe.row 9 9 1 ?_
    conv => whnf
    skip
    · refine SLe.of [] [(0, 0)] rfl rfl ?_
      conv => whnf
      repeat' (first
      | exact True.intro
      | (refine SAnd.mk (PLe.refl _) ?_; conv => whnf)
      | (refine SAnd.mk rfl ?_; conv => whnf))
  · rintro ⟨k, hk⟩
    refine codeK_sound good (mu := []) ?_
    conv => whnf
    refine SBool.mk (fun hcn => ?_) (fun hcn => ?_)
    · have hcn' : (k : Int) < (((h.map hc).length : Nat) : Int) := hcn
      rw [hlen2] at hcn'
      have hkl : k < h.length := by omega
      have hs := some_at hkl hc
      have mk := sub_lt hkl
      have wk := wsucc (k := k) (by omega)
      have hap := app_name (((h.take k).filter fun x => !l.any fun a => appliesB a size cat && inB a.poly x.at_).map (·.name)) h[k].name (by rw [List.length_map]; exact Nat.le_trans (filter_len _ h k) hhl)
      have hft := filter_take (fun x => !l.any fun a => appliesB a size cat && inB a.poly x.at_) hkl
      have hxf := hq _ (List.getElem_mem hkl)
      generalize h[k] = x at *
      clear hcn hcn'
      conv => whnf
      refine ⟨AWp.loop (ι := { n : Nat // n ≤ l.length }) (fun n => ⟨[(12, .p (I n.1)), (11, .p (Bo (!(l.take n.1).any fun a => appliesB a size cat && inB a.poly x.at_))), (10, .p (I k)), (0, .p (.seq 4 (l.map ac))), (1, .p (.seq 3 (h.map hc))), (2, .p (I size)), (3, .p (I cat)), (9, .own 0)], [], [(0, (9, 1, (((h.take k).filter fun x => !l.any fun a => appliesB a size cat && inB a.poly x.at_).map (·.name)).map cS))], 1, [], [], []⟩) (fun n => l.length - n.1) ⟨0, by simp⟩ ?_ ?_⟩
      · skip
        · refine SLe.of [] [(0, 0)] rfl rfl ?_
          conv => whnf
          repeat' (first
          | exact True.intro
          | (refine SAnd.mk (PLe.refl _) ?_; conv => whnf)
          | (refine SAnd.mk rfl ?_; conv => whnf))
      · rintro ⟨n, hn⟩
        refine codeK_sound good (mu := []) ?_
        conv => whnf
        refine SBool.mk (fun hcn => ?_) (fun hcn => ?_)
        · have hcn' : (n : Int) < (((l.map ac).length : Nat) : Int) := hcn
          rw [hlen] at hcn'
          have hnl : n < l.length := by omega
          have hs2 := some_at hnl ac
          have mn := sub_lt hnl
          have wn := wsucc (k := n) (by omega)
          have hat := any_take (fun a => appliesB a size cat && inB a.poly x.at_) hnl
          have hpl := hp _ (List.getElem_mem hnl)
          generalize l[n] = a at *
          have happ := refApplies_pure (m := m) a size cat
          have hin := refIn_pure (m := m) a.poly x.at_ hpl.1 hpl.2 hxf
          clear hcn hcn' hpl
          obtain ⟨V, hV⟩ : ∃ V, V = (l.take n).any fun a => appliesB a size cat && inB a.poly x.at_ := ⟨_, rfl⟩
          rw [← hV] at hat ⊢
          cases V
          · cases hA : appliesB a size cat
            · rw [hA] at happ hat
              have e : true = !((l.take (n + 1)).any fun a => appliesB a size cat && inB a.poly x.at_) := by rw [hat]; rfl
              skip
              conv => whnf
              repeat' (first
                | (rw [wn]; conv => whnf)
                | (refine SEx.mk _ (by first | exact hs2 | exact hs | exact happ | exact hin) ?_; conv => whnf)
                | (refine SAnd.mk (by first | exact rfl | kernel_rfl | omega | decide | exact hs2 | exact hs | exact happ | exact hin) ?_; conv => whnf)
                | fail)
              refine ⟨⟨n + 1, hnl⟩, mn, ?_⟩
              skip
              · refine SLe.of [] [(0, 0)] rfl rfl ?_
                conv => whnf
                repeat' (first
                | exact True.intro
                | (refine SAnd.mk (PLe.of_eq (congrArg Bo e)) ?_; conv => whnf)
                | (refine SAnd.mk (PLe.refl _) ?_; conv => whnf)
                | (refine SAnd.mk rfl ?_; conv => whnf))
            · cases hI : inB a.poly x.at_
              · rw [hA] at happ hat
                rw [hI] at hin hat
                have e : true = !((l.take (n + 1)).any fun a => appliesB a size cat && inB a.poly x.at_) := by rw [hat]; rfl
                skip
                conv => whnf
                repeat' (first
                  | (rw [wn]; conv => whnf)
                  | (refine SEx.mk _ (by first | exact hs2 | exact hs | exact happ | exact hin) ?_; conv => whnf)
                  | (refine SAnd.mk (by first | exact rfl | kernel_rfl | omega | decide | exact hs2 | exact hs | exact happ | exact hin) ?_; conv => whnf)
                  | fail)
                refine ⟨⟨n + 1, hnl⟩, mn, ?_⟩
                skip
                · refine SLe.of [] [(0, 0)] rfl rfl ?_
                  conv => whnf
                  repeat' (first
                  | exact True.intro
                  | (refine SAnd.mk (PLe.of_eq (congrArg Bo e)) ?_; conv => whnf)
                  | (refine SAnd.mk (PLe.refl _) ?_; conv => whnf)
                  | (refine SAnd.mk rfl ?_; conv => whnf))
              · rw [hA] at happ hat
                rw [hI] at hin hat
                have e : false = !((l.take (n + 1)).any fun a => appliesB a size cat && inB a.poly x.at_) := by rw [hat]; rfl
                skip
                conv => whnf
                repeat' (first
                  | (rw [wn]; conv => whnf)
                  | (refine SEx.mk _ (by first | exact hs2 | exact hs | exact happ | exact hin) ?_; conv => whnf)
                  | (refine SAnd.mk (by first | exact rfl | kernel_rfl | omega | decide | exact hs2 | exact hs | exact happ | exact hin) ?_; conv => whnf)
                  | fail)
                refine ⟨⟨n + 1, hnl⟩, mn, ?_⟩
                skip
                · refine SLe.of [] [(0, 0)] rfl rfl ?_
                  conv => whnf
                  repeat' (first
                  | exact True.intro
                  | (refine SAnd.mk (PLe.of_eq (congrArg Bo e)) ?_; conv => whnf)
                  | (refine SAnd.mk (PLe.refl _) ?_; conv => whnf)
                  | (refine SAnd.mk rfl ?_; conv => whnf))
          · have e : false = !((l.take (n + 1)).any fun a => appliesB a size cat && inB a.poly x.at_) := by rw [hat]; rfl
            skip
            conv => whnf
            repeat' (first
              | (rw [wn]; conv => whnf)
              | (refine SAnd.mk (by first | exact rfl | kernel_rfl | omega | decide | exact hs2 | exact hs | exact happ | exact hin) ?_; conv => whnf)
              | fail)
            refine ⟨⟨n + 1, hnl⟩, mn, ?_⟩
            skip
            · refine SLe.of [] [(0, 0)] rfl rfl ?_
              conv => whnf
              repeat' (first
              | exact True.intro
              | (refine SAnd.mk (PLe.of_eq (congrArg Bo e)) ?_; conv => whnf)
              | (refine SAnd.mk (PLe.refl _) ?_; conv => whnf)
              | (refine SAnd.mk rfl ?_; conv => whnf))
        · have hcn' : ¬ (n : Int) < (((l.map ac).length : Nat) : Int) := hcn
          rw [hlen] at hcn'
          have : n = l.length := by omega
          subst this
          clear hcn hcn'
          rw [List.take_length]
          cases hB : l.any fun a => appliesB a size cat && inB a.poly x.at_
          · rw [hB] at hft
            have e : (((h.take k).filter fun x => !l.any fun a => appliesB a size cat && inB a.poly x.at_).map (·.name)).map cS ++ [[St x.name]] = (((h.take (k + 1)).filter fun x => !l.any fun a => appliesB a size cat && inB a.poly x.at_).map (·.name)).map cS := by rw [hft]; simp
            skip
            conv => whnf
            repeat' (first
              | (rw [wk]; conv => whnf)
              | (refine SEx.mk _ (by first | exact hs | exact hap) ?_; conv => whnf)
              | (refine SAnd.mk (by first | exact hs | exact hap) ?_; conv => whnf)
              | fail)
            refine ⟨⟨k + 1, hkl⟩, mk, ?_⟩
            skip
            · refine SLe.of [] [(0, 1)] rfl rfl ?_
              conv => whnf
              repeat' (first
              | exact True.intro
              | (refine SAnd.mk (show _ = (_ : List (List PV)) from e) ?_; conv => whnf)
              | (refine SAnd.mk (PLe.refl _) ?_; conv => whnf))
          · rw [hB] at hft
            have e : (((h.take k).filter fun x => !l.any fun a => appliesB a size cat && inB a.poly x.at_).map (·.name)).map cS = (((h.take (k + 1)).filter fun x => !l.any fun a => appliesB a size cat && inB a.poly x.at_).map (·.name)).map cS := by rw [hft]; simp
            skip
            conv => whnf
            repeat' (first
              | (rw [wk]; conv => whnf)
              | fail)
            refine ⟨⟨k + 1, hkl⟩, mk, ?_⟩
            skip
            · refine SLe.of [] [(0, 0)] rfl rfl ?_
              conv => whnf
              repeat' (first
              | exact True.intro
              | (refine SAnd.mk (show _ = (_ : List (List PV)) from e) ?_; conv => whnf)
              | (refine SAnd.mk (PLe.refl _) ?_; conv => whnf))
    · have hcn' : ¬ (k : Int) < (((h.map hc).length : Nat) : Int) := hcn
      rw [hlen2] at hcn'
      have : k = h.length := by omega
      subst this
      skip
      conv => whnf
      repeat' (first
        | fail)
      exact ⟨PLe.of_eq (by rw [List.take_length]; rfl)⟩
end Go.Proofs.Ab.Area
end
section
/- The reference's Conflicts, Permitted, Clear. -/
set_option maxRecDepth 100000
set_option linter.unusedVariables false
set_option linter.unusedSimpArgs false
namespace Go.Proofs.Ab.Area
open Go Go.RowKit Go.Proofs.Ab
structure Good3 (areas : List Ar) (lands : List Ld) (moves : List Mv) : Prop where
  ha : areas.length ≤ 1000
  hl : lands.length ≤ 1000
  hm : moves.length ≤ 1000
  hp : ∀ a ∈ areas, 0 < a.poly.length ∧ a.poly.length ≤ 1000 ∧ ∀ q ∈ a.poly, q.Fit
  hlt : ∀ x ∈ lands, x.lo < x.hi
  hmt : ∀ x ∈ moves, x.lo < x.hi ∧ x.box.Fit
end Go.Proofs.Ab.Area
end
section
/- The reference's Conflicts, Permitted. -/
set_option maxRecDepth 100000
set_option linter.unusedVariables false
set_option linter.unusedSimpArgs false
namespace Go.Proofs.Ab.Area
open Go Go.RowKit Go.Proofs.Ab
end Go.Proofs.Ab.Area
end
section
/- The reference's Clear. -/
set_option maxRecDepth 100000
set_option linter.unusedVariables false
set_option linter.unusedSimpArgs false
namespace Go.Proofs.Ab.Area
open Go Go.RowKit Go.Proofs.Ab
end Go.Proofs.Ab.Area
end
section
/- The reference's Earliest. -/
set_option maxRecDepth 100000
set_option linter.unusedVariables false
set_option linter.unusedSimpArgs false
namespace Go.Proofs.Ab.Area
open Go Go.RowKit Go.Proofs.Ab
structure ErlOk (areas : List Ar) (lands : List Ld) (x : Mv) (d : Int) : Prop where
  g : Good3 areas lands [x]
  lo : 0 ≤ x.lo ∧ x.lo ≤ 100000000
  d0 : 0 < d ∧ d ≤ 10000
  hh : ∀ l ∈ lands, 0 ≤ l.hi ∧ l.hi ≤ 100000000
theorem ErlOk.at {areas : List Ar} {lands : List Ld} {x : Mv} {d : Int} (h : ErlOk areas lands x d) (t : Int) : Good3 areas lands [atT x t d] :=
  ⟨h.g.ha, h.g.hl, by simp, h.g.hp, h.g.hlt, fun y hy => by
    have hy : y = atT x t d := by simpa using hy
    subst hy
    exact ⟨by show t < t + d; have := h.d0; omega, (h.g.hmt x (by simp)).2⟩⟩
end Go.Proofs.Ab.Area
end
section
/- The law of what applies. -/
set_option maxRecDepth 100000
set_option linter.unusedVariables false
set_option linter.unusedSimpArgs false
namespace Go.Proofs.Ab.Area
open Go Go.RowKit Go.Proofs.Ab
theorem sameWords_self {m : Int} (a : List ByteArray) (hl : a.length ≤ 1000000) : APure (C m) 39 [.seq 1 (a.map cS), .seq 1 (a.map cS)] (Bo true) := by
  have := sameWords_pure (m := m) a a hl hl
  rw [decide_eq_true rfl] at this
  exact this
theorem sameWords_nil {m : Int} : APure (C m) 39 [nilS, nilS] (Bo true) :=
  (sameWords_self (m := m) [] (by simp)).weaken (.cons (PLe.nil 1) (.cons (PLe.nil 1) .nil)) (PLe.refl _)
section
attribute [local irreducible] APure
set_option maxHeartbeats 16000000 in
theorem AreaApplies_parts {m : Int} (l : List Ar) (h : List Hd) (n0 n1 e1 e2 bad s c hb : Int) (A U : PV) (hw : APure (C m) 13 [] (Bo true))
    (c26 : APure (C m) 26 [.seq 4 (l.map ac)] (Bo true)) (c27 : APure (C m) 27 [.seq 3 (h.map hc)] (Bo true)) (c29 : APure (C m) 29 [.seq 4 (l.map ac)] (.seq 4 (l.map ac))) (c31 : APure (C m) 31 [.seq 3 (h.map hc)] (.seq 3 (h.map hc)))
    (c28 : APure (C m) 28 [.seq 4 (l.map ac), I n0, I n1] (.tup [A, I e1])) (c30 : APure (C m) 30 [.seq 4 (l.map ac), .seq 3 (h.map hc), I n0, I n1] (.tup [U, I e2]))
    (c32 : APure (C m) 32 [.seq 4 (l.map ac)] (I bad)) (c33 : APure (C m) 33 [I n0] (I s)) (c34 : APure (C m) 34 [I n1] (I c)) (c35 : APure (C m) 35 [.seq 3 (h.map hc)] (I hb))
    (c19a : APure (C m) 19 [.seq 1 [[I bad], [I s], [I c]]] (I e1)) (c19b : APure (C m) 19 [.seq 1 [[I bad], [I hb], [I s], [I c]]] (I e2))
    (c36 : e1 = 0 → APure (C m) 36 [.seq 4 (l.map ac), I n0, I n1] A) (k1 : e1 = 0 → APure (C m) 39 [A, A] (Bo true)) (k2 : e1 ≠ 0 → APure (C m) 39 [A, nilS] (Bo true))
    (c37 : e2 = 0 → APure (C m) 37 [.seq 4 (l.map ac), .seq 3 (h.map hc), I n0, I n1] U) (k3 : e2 = 0 → APure (C m) 39 [U, U] (Bo true)) (k4 : e2 ≠ 0 → APure (C m) 39 [U, nilS] (Bo true))
    (c38 : APure (C m) 38 [.seq 4 (l.map ac)] (I bad)) : APure (C m) 4 [.seq 4 (l.map ac), .seq 3 (h.map hc), .agg [I n0, I n1]] (Bo true) := by
  refine APure.of_body good [] (fn := Tryz.f4) (by kernel_rfl) (by kernel_rfl) rfl rfl (by kernel_rfl) rfl (by kernel_rfl) ?_
  conv => whnf
  repeat' (first
    | (refine SBool.mk (fun h => ?_) (fun h => ?_) <;> conv => whnf)
    | (refine SEx.mk _ (by first | exact hw | exact c26 | exact c27 | exact c29 | exact c31 | exact c28 | exact c30 | exact c32 | exact c33 | exact c34 | exact c35 | exact c19a | exact c19b | exact c36 (by assumption) | exact c37 (by assumption) | exact k1 (by assumption) | exact k2 (by assumption) | exact k3 (by assumption) | exact k4 (by assumption) | exact c38) ?_; conv => whnf)
    | (refine SAnd.mk (by first | exact rfl | kernel_rfl | omega | decide | exact hw | exact c26 | exact c27 | exact c29 | exact c31 | exact c28 | exact c30 | exact c32 | exact c33 | exact c34 | exact c35 | exact c19a | exact c19b | exact c36 (by assumption) | exact c37 (by assumption) | exact k1 (by assumption) | exact k2 (by assumption) | exact k3 (by assumption) | exact k4 (by assumption) | exact c38) ?_; conv => whnf)
    | fail)
  all_goals first
    | exact ⟨PLe.refl _⟩
    | exact absurd rfl (by assumption)
end
theorem areas_good {l : List Ar} (h : areasE l = 0) : ∀ a ∈ l, 0 < a.poly.length ∧ a.poly.length ≤ 1000 ∧ ∀ q ∈ a.poly, q.Fit := fun a ha => by
  have h1 := (areas_ok h).2 a ha
  have h2 := area_fit h1
  unfold areaE at h1
  rw [firstOf_zero, firstOf_zero, firstOf_zero] at h1
  have := (polyE_zero.1 h1.2.2.1).conv.n3
  exact ⟨by omega, h2⟩
set_option maxHeartbeats 4000000 in
theorem AreaApplies_pure {m : Int} (l : List Ar) (h : List Hd) (n0 n1 : Int) (hl : l.length ≤ 9223372036854775807) (hh : h.length ≤ 9223372036854775807) : APure (C m) 4 [.seq 4 (l.map ac), .seq 3 (h.map hc), .agg [I n0, I n1]] (Bo true) := by
  obtain ⟨b1, s1, c26⟩ := shortAreas_pure (m := m) l hl
  obtain ⟨b2, s2, c27⟩ := shortHolds_pure (m := m) h hh
  cases b1
  · refine APure.of_body good [] (fn := Tryz.f4) (by kernel_rfl) (by kernel_rfl) rfl rfl (by kernel_rfl) rfl (by kernel_rfl) ?_
    conv => whnf
    repeat' (first
      | (refine SEx.mk _ (by first | exact c26 | exact awake_pure) ?_; conv => whnf)
      | fail)
    exact ⟨PLe.refl _⟩
  cases b2
  · refine APure.of_body good [] (fn := Tryz.f4) (by kernel_rfl) (by kernel_rfl) rfl rfl (by kernel_rfl) rfl (by kernel_rfl) ?_
    conv => whnf
    repeat' (first
      | (refine SEx.mk _ (by first | exact c26 | exact c27 | exact awake_pure) ?_; conv => whnf)
      | fail)
    exact ⟨PLe.refl _⟩
  have q1 := s1 rfl
  have q2 := s2 rfl
  have l1 : l.length ≤ 1000 := by have := q1.2; omega
  have l2 : h.length ≤ 1000 := by have := q2.2; omega
  have l1' : l.length ≤ 1000000 := by omega
  have l2' : h.length ≤ 1000000 := by omega
  have lp : ∀ a ∈ l, a.poly.length ≤ 1000 := fun a ha => by have := (q1.1 a ha).2; omega
  refine AreaApplies_parts l h n0 n1 (applyE l n0 n1) (usableE l h n0 n1) (areasE l) (sizeE n0) (catE n1) (holdsE h) (applyV l n0 n1) (usableV l h n0 n1) awake_pure c26 c27 (given_pure l l1' (fun a ha => Nat.le_trans (lp a ha) (by decide))) (held_pure h l2') (Applying_pure l n0 n1 l1' (fun _ => lp)) (Usable_pure l h n0 n1 l1' (fun _ => lp) l2') (refAreas_pure l l1' (fun _ => lp)) (refSz_pure n0) (refCat_pure n1) (refHolds_pure h l2')
    (lawFirst_pure [areasE l, sizeE n0, catE n1] (by simp)) (lawFirst_pure [areasE l, holdsE h, sizeE n0, catE n1] (by simp)) (fun e => ?_) (fun e => ?_) (fun e => ?_) (fun e => ?_) (fun e => ?_) (fun e => ?_) (CheckAreas_pure l l1' (fun _ => lp))
  · unfold applyV
    rw [if_pos e]
    exact refApplying_pure l n0 n1 l1'
  · unfold applyV
    rw [if_pos e]
    exact sameWords_self _ (by unfold applyL; rw [List.length_map]; exact Nat.le_trans (List.length_filter_le _ _) l1')
  · unfold applyV
    rw [if_neg e]
    exact sameWords_nil
  · unfold usableV
    rw [if_pos e]
    have e' : firstOf [areasE l, holdsE h, sizeE n0, catE n1] = 0 := e
    rw [firstOf_zero, firstOf_zero] at e'
    exact refUsable_pure l h n0 n1 l1' l2' (fun a ha => (areas_good e'.1 a ha).2) (fun x hx => fit_of ((holds_ok e'.2.1).2 x hx))
  · unfold usableV
    rw [if_pos e]
    exact sameWords_self _ (by unfold usableL; rw [List.length_map]; exact Nat.le_trans (List.length_filter_le _ _) l2')
  · unfold usableV
    rw [if_neg e]
    exact sameWords_nil
end Go.Proofs.Ab.Area
end
section
/- AreaApplies: for every list of areas and of holding points, size and category the program's CheckAreas, Applying and Usable, or their errors, are the reference's: the law returns true. (Longer lists and names are left out by the law itself, but for one too many; the listed variables are as the program's text lays them.) -/
set_option maxRecDepth 100000
set_option linter.unusedVariables false
set_option linter.unusedSimpArgs false
namespace Go.Proofs.YtlgkijilmpjdmaaGreatDoor
open Go Go.RowKit Go.Proofs.Ab Go.Proofs.Ab.Area
theorem areaApplies_lifted (os : Os) (started : os.Started) (H : Type) (enc : TypeId × Value → H) :
    ReturnsInHanded {} Tryz.checked os 4 .any (fun w args => (Rows.areaAppliesSpec.pre enc Tryz.prog Tryz.f4 [] false w args ∧ laidMetH Tryz.prog listed w) ∧ sizedMet enc Tryz.prog Tryz.f4 (OpenSpec.ofChange Rows.areaAppliesSpec) false w args)
      (Rows.areaAppliesSpec.post enc Tryz.prog Tryz.f4 false true false false) := by
  refine lifted_of started (by as_aux_lemma => kernel_rfl) Tryz.func4 (ss := [(false, [.sl arSh]), (false, [.sl hdSh]), (true, [.int .i64, .int .i64])])
    (witness #[.slice none 0 0, .slice none 0 0, .agg #[.int .i64 0, .int .i64 0]] (by as_aux_lemma => kernel_rfl) (by as_aux_lemma => kernel_rfl) (by as_aux_lemma => kernel_rfl) (World.shaped_of_ZipB (by as_aux_lemma => kernel_rfl) (by as_aux_lemma => kernel_rfl)) (laidMet_laidAll _ (by as_aux_lemma => kernel_rfl) (by as_aux_lemma => kernel_rfl)))
    ?_ (by as_aux_lemma => kernel_rfl) (by as_aux_lemma => kernel_rfl) rfl ?_ ?_
  · rw [Tryz.params4]
    intro t ht
    have hall : ([44, 45, 46].all fun u => Tryz.prog.readableRec u && decide (u < Tryz.prog.types.size)) = true := by as_aux_lemma => kernel_rfl
    have := List.all_eq_true.1 hall t (by simpa using ht)
    rw [Bool.and_eq_true, decide_eq_true_eq] at this
    exact this
  · rw [Tryz.params4]
    intro ds hd
    match ds, hd with
    | [d0, d1, d2], _ => exact ⟨rfl, rfl, rfl⟩
  · intro m xs h
    obtain ⟨x0, xs, rfl, h0, h⟩ := h.uncons
    obtain ⟨x1, xs, rfl, h1, h⟩ := h.uncons
    obtain ⟨x2, xs, rfl, h2, h⟩ := h.uncons
    obtain rfl := h.unnil
    obtain ⟨l, rfl, hl⟩ := fit_areas h0
    obtain ⟨k, rfl, hk⟩ := fit_holds h1
    obtain ⟨a, b, rfl⟩ := fit_two h2
    exact AreaApplies_pure l k a b hl hk
set_option maxHeartbeats 40000000 in
theorem areaApplies_facts : joinedFacts Tryz.pinned.checked.prog 4 Tryz.f4 Rows.areaAppliesSpec Rows.areaAppliesRow = true := by
  unfold joinedFacts
  simp only [Bool.and_eq_true]
  repeat' apply And.intro
  all_goals as_aux_lemma => kernel_rfl
theorem areaApplies_row : Rows.AreaAppliesSaid :=
  OpenClaim.holds_of_wide 4 Tryz.f4 rfl rfl rfl rfl rfl rfl rfl ⟨rfl, rfl, rfl, rfl, rfl⟩ rfl rfl rfl rfl rfl (by as_aux_lemma => kernel_rfl) Tryz.func4 areaApplies_facts
    (of_decide_eq_true (by as_aux_lemma => kernel_rfl)) (by as_aux_lemma => unfold Func.isWrapper; first | (rw [if_pos (by decide +kernel)]; kernel_rfl) | (rw [if_neg (by decide +kernel)]; exact ⟨rfl, rfl⟩))
    (fun os started H enc _ => areaApplies_lifted os started H enc)
theorem areaApplies_named : Tryz.prog.funcNamed "glideslope/glideslopelaw05.AreaApplies" = some 4 := by kernel_rfl
theorem areaApplies_holds : Rows.AreaAppliesCardSaid :=
  Claim7.holds_tied_plain_at .later [] [.data, .data, .data, .data, .pinned] true (true, "8d132721e60c3e414474b7b7d1fa76c26332388e2b61df2dc171e81fefcccd9a") false areaApplies_row (fun _ h => by cases h) (by as_aux_lemma => kernel_rfl) (fun _ h => by cases h) areaApplies_row_tie rfl ⟨rfl, rfl⟩ (by as_aux_lemma => kernel_rfl) rfl
    (fun f fn hf hfn => by
      obtain rfl : f = 4 := Option.some.inj (areaApplies_named.symm.trans hf) |>.symm
      obtain rfl : fn = Tryz.f4 := (Option.some.inj (Tryz.func4.symm.trans hfn)).symm
      exact ⟨by as_aux_lemma => kernel_rfl, fun j t ht => by
        rw [Tryz.params4] at ht
        have hm : t ∈ [44, 45, 46] := by simpa using Array.mem_of_getElem? ht
        have hall : ([44, 45, 46].all fun u => !Tryz.prog.wantsStandIn u) = true := by as_aux_lemma => kernel_rfl
        exact (show Tryz.prog.wantsStandIn t = false by simpa using List.all_eq_true.1 hall t hm)⟩)
    (by as_aux_lemma => kernel_rfl)
#print axioms areaApplies_holds
end Go.Proofs.YtlgkijilmpjdmaaGreatDoor
end
