/- The proof of AreaClear (see the last theorem): for every input that can be read the law returns true; the listed package-level variables are as the program's text lays them. -/
import Derived.Test.YtlgkijilmpjdmaaGreatDoorK6
section
/- The shapes of the laws' parameters. -/
set_option maxRecDepth 100000
set_option linter.unusedVariables false
set_option linter.unusedSimpArgs false
namespace Go.Proofs.Ab.Area
open Go Go.RowKit Go.Proofs.Ab
abbrev arSh : List Sh := [.str, .int .i64, .int .i64, .sl ptSh]
abbrev ldSh : List Sh := [.str, .int .i64, .int .i64, .int .i64]
abbrev mvSh : List Sh := [.str, .int .i64, .int .i64, .int .i64, .int .i64, .int .i64, .int .i64, .int .i64]
theorem maxLen_eq : maxLen = 9223372036854775807 := rfl
theorem fitL_ar {xs : List PV} (h : FitL arSh xs) : ∃ a : Ar, xs = ac a := by
  obtain ⟨c1, xs, rfl, h1, h⟩ := h.uncons
  obtain ⟨c2, xs, rfl, h2, h⟩ := h.uncons
  obtain ⟨c3, xs, rfl, h3, h⟩ := h.uncons
  obtain ⟨c4, xs, rfl, h4, h⟩ := h.uncons
  obtain rfl := h.unnil
  obtain ⟨s, rfl, _⟩ := h1.str_inv
  obtain ⟨n2, rfl, _⟩ := h2.int_inv
  obtain ⟨n3, rfl, _⟩ := h3.int_inv
  obtain ⟨ys, rfl, _, hx⟩ := h4.sl_inv
  obtain ⟨l, rfl⟩ := rows_of (fun _ => fitL_pt) hx
  exact ⟨⟨s, n2, n3, l⟩, rfl⟩
theorem fitL_ld {xs : List PV} (h : FitL ldSh xs) : ∃ a : Ld, xs = lc a := by
  obtain ⟨c1, xs, rfl, h1, h⟩ := h.uncons
  obtain ⟨c2, xs, rfl, h2, h⟩ := h.uncons
  obtain ⟨c3, xs, rfl, h3, h⟩ := h.uncons
  obtain ⟨c4, xs, rfl, h4, h⟩ := h.uncons
  obtain rfl := h.unnil
  obtain ⟨s, rfl, _⟩ := h1.str_inv
  obtain ⟨n2, rfl, _⟩ := h2.int_inv
  obtain ⟨n3, rfl, _⟩ := h3.int_inv
  obtain ⟨n4, rfl, _⟩ := h4.int_inv
  exact ⟨⟨s, n2, n3, n4⟩, rfl⟩
theorem fitL_mv {xs : List PV} (h : FitL mvSh xs) : ∃ a : Mv, xs = mc a := by
  obtain ⟨c1, xs, rfl, h1, h⟩ := h.uncons
  obtain ⟨c2, xs, rfl, h2, h⟩ := h.uncons
  obtain ⟨c3, xs, rfl, h3, h⟩ := h.uncons
  obtain ⟨c4, xs, rfl, h4, h⟩ := h.uncons
  obtain ⟨c5, xs, rfl, h5, h⟩ := h.uncons
  obtain ⟨c6, xs, rfl, h6, h⟩ := h.uncons
  obtain ⟨c7, xs, rfl, h7, h⟩ := h.uncons
  obtain ⟨c8, xs, rfl, h8, h⟩ := h.uncons
  obtain rfl := h.unnil
  obtain ⟨s, rfl, _⟩ := h1.str_inv
  obtain ⟨n2, rfl, _⟩ := h2.int_inv
  obtain ⟨n3, rfl, _⟩ := h3.int_inv
  obtain ⟨n4, rfl, _⟩ := h4.int_inv
  obtain ⟨n5, rfl, _⟩ := h5.int_inv
  obtain ⟨n6, rfl, _⟩ := h6.int_inv
  obtain ⟨n7, rfl, _⟩ := h7.int_inv
  obtain ⟨n8, rfl, _⟩ := h8.int_inv
  exact ⟨⟨s, n2, ⟨⟨n3, n4⟩, ⟨n5, n6⟩⟩, n7, n8⟩, rfl⟩
theorem fit_sl {el : List Sh} {α : Type} {f : α → List PV} (hf : ∀ x, FitL el x → ∃ a, x = f a) {c : PV} (h : Fit (.sl el) c) : ∃ l : List α, c = .seq el.length (l.map f) ∧ l.length ≤ 9223372036854775807 := by
  obtain ⟨xs, rfl, hl, hx⟩ := h.sl_inv
  obtain ⟨l, rfl⟩ := rows_of hf hx
  exact ⟨l, rfl, by rw [← maxLen_eq]; simpa using hl⟩
theorem fit_list {el : List Sh} {α : Type} {f : α → List PV} (hf : ∀ x, FitL el x → ∃ a, x = f a) {x : PV} (h : FitP (false, [.sl el]) x) : ∃ l : List α, x = .seq el.length (l.map f) ∧ l.length ≤ 9223372036854775807 := by
  obtain ⟨c1, xs, e, h1, _⟩ := FitL.uncons h
  cases e
  exact fit_sl hf h1
theorem fit_areas {x : PV} (h : FitP (false, [.sl arSh]) x) : ∃ l : List Ar, x = .seq 4 (l.map ac) ∧ l.length ≤ 9223372036854775807 := fit_list (fun _ => fitL_ar) h
theorem fit_traffic {x : PV} (h : FitP (true, [.sl ldSh, .sl mvSh, .int .i64]) x) : ∃ (a : List Ld) (b : List Mv) (t : Int), x = .agg [.seq 4 (a.map lc), .seq 8 (b.map mc), I t] ∧ a.length ≤ 9223372036854775807 ∧ b.length ≤ 9223372036854775807 := by
  obtain ⟨xs, rfl, h⟩ := h
  obtain ⟨c1, xs, rfl, h1, h⟩ := h.uncons
  obtain ⟨c2, xs, rfl, h2, h⟩ := h.uncons
  obtain ⟨c3, xs, rfl, h3, h⟩ := h.uncons
  obtain rfl := h.unnil
  obtain ⟨a, rfl, ha⟩ := fit_sl (fun _ => fitL_ld) h1
  obtain ⟨b, rfl, hb⟩ := fit_sl (fun _ => fitL_mv) h2
  obtain ⟨t, rfl, _⟩ := h3.int_inv
  exact ⟨a, b, t, rfl, ha, hb⟩
theorem fit_move {x : PV} (h : FitP (true, mvSh) x) : ∃ a : Mv, x = .agg (mc a) := by
  obtain ⟨xs, rfl, h⟩ := h
  obtain ⟨a, rfl⟩ := fitL_mv h
  exact ⟨a, rfl⟩
end Go.Proofs.Ab.Area
end
section
/- The shapes of tables and orders. -/
set_option maxRecDepth 100000
set_option linter.unusedVariables false
set_option linter.unusedSimpArgs false
namespace Go.Proofs.Ab.Area
open Go Go.RowKit Go.Proofs.Ab
end Go.Proofs.Ab.Area
end
section
/- The reference's CheckPolygon, Size, CheckBox and Meets. -/
set_option maxRecDepth 100000
set_option linter.unusedVariables false
set_option linter.unusedSimpArgs false
namespace Go.Proofs.Ab.Area
open Go Go.RowKit Go.Proofs.Ab
theorem firstM_drop {α : Type} (f : α → Int) {xs : List α} {k : Nat} (h : k < xs.length) : firstOf ((xs.drop k).map f) = if f xs[k] = 0 then firstOf ((xs.drop (k + 1)).map f) else f xs[k] := by
  rw [List.drop_eq_getElem_cons h]
  rfl
theorem firstOf_one (x : Int) : firstOf [x] = x := by
  simp only [firstOf]
  split
  · rename_i h; exact h.symm
  · rfl
theorem refPoly1 {m : Int} (l : List Pt) (h3 : 3 ≤ l.length) (hl : l.length ≤ 1000) :
    AWp (C m) Tryz.f18.ntmps (pieceAt [1, 1] c18) (endV m [ResultVar.tmp 2] (I (if firstOf (l.map ptE) = 0 then (if (List.range l.length).any (badB l) then 1 else 0) else firstOf (l.map ptE)))) ⟨[(0, .p (.seq 2 (l.map pc)))], [], [], 0, [], [], []⟩ := by
  refine codeN_sound good (mu := []) (n := 1) ?_
  conv => whnf
  refine ⟨AWp.loop (ι := { k : Nat // k ≤ l.length ∧ firstOf (l.map ptE) = firstOf ((l.drop k).map ptE) }) (fun k => ⟨[(4, .p (I k.1)), (0, .p (.seq 2 (l.map pc)))], [], [], 0, [], [], []⟩) (fun k => l.length - k.1) ⟨0, by simp⟩ ?_ ?_⟩
  · skip
    · refine SLe.of [] [] rfl rfl ?_
      conv => whnf
      repeat' (first
      | exact True.intro
      | (refine SAnd.mk (PLe.refl _) ?_; conv => whnf))
  · rintro ⟨k, hk, he⟩
    refine codeK_sound good (mu := []) ?_
    conv => whnf
    refine SBool.mk (fun hcn => ?_) (fun hcn => ?_)
    · have hkl : k < l.length := by simpa using hcn
      have hs0 : 0 ≤ (k : Int) ∧ (l.map pc)[((k : Int)).toNat]? = some (pc l[k]) := ⟨by omega, by show (l.map pc)[k]? = _; simp [hkl]⟩
      have mk : l.length - (k + 1) < l.length - k := by omega
      have hd := firstM_drop ptE hkl
      have wk : wrapK IntKind.i64 ((k : Int) + 1) = k + 1 := w64 (by omega)
      have hp := refPoint_pure (m := m) l[k]
      generalize ptE l[k] = e at hp hd
      have ret : ¬ e = 0 → (if firstOf (l.map ptE) = 0 then (if (List.range l.length).any (badB l) then (1 : Int) else 0) else firstOf (l.map ptE)) = e := fun h => by rw [he, hd, if_neg h, if_neg h]
      have nxt : e = 0 → firstOf (l.map ptE) = firstOf ((l.drop (k + 1)).map ptE) := fun h => by rw [he, hd, if_pos h]
      conv => whnf
      conv => whnf
      repeat' (first
        | (rw [wk]; conv => whnf)
        | (refine SBool.mk (fun h => ?_) (fun h => ?_) <;> conv => whnf)
        | (refine SEx.mk _ (by first | exact hs0 | exact hp) ?_; conv => whnf)
        | fail)
      all_goals first
        | exact ⟨PLe.of_eq (congrArg I (ret (by assumption)).symm)⟩
        | refine ⟨⟨k + 1, hkl, nxt (by assumption)⟩, mk, ?_⟩
      skip
      · refine SLe.of [] [] rfl rfl ?_
        conv => whnf
        repeat' (first
        | exact True.intro
        | (refine SAnd.mk (PLe.refl _) ?_; conv => whnf))
    · have : k = l.length := by simp at hcn; omega
      subst this
      have hz : firstOf (l.map ptE) = 0 := by rw [he, List.drop_length]; rfl
      have hfit : ∀ q ∈ l, q.Fit := fun q hq => fit_of (firstOf_all.1 hz _ (List.mem_map_of_mem hq))
      have go := refPoly2 (m := m) l h3 hl hfit
      rw [if_pos hz]
      conv => whnf
      refine ⟨AWp.le ?_ go⟩
      skip
      · refine SLe.of [] [] rfl rfl ?_
        conv => whnf
        repeat' (first
        | exact True.intro
        | (refine SAnd.mk (PLe.refl _) ?_; conv => whnf))
theorem refPolygon_pure {m : Int} (l : List Pt) (hl : l.length ≤ 1000) : APure (C m) 18 [.seq 2 (l.map pc)] (I (polyE l)) := by
  have hlen : (((l.map pc).length : Nat) : Int) = l.length := by simp
  have pe : ∀ a b : Int, a = (if l.length < 3 then 16 else 0) → b = (if 8 < l.length then 5 else 0) → polyF l = firstOf [a, b, firstOf (l.map ptE)] := fun a b ha hb => by rw [ha, hb]; rfl
  have ret : ∀ a b : Int, a = (if l.length < 3 then 16 else 0) → b = (if 8 < l.length then 5 else 0) → ¬ firstOf [a, b] = 0 → firstOf [a, b] = polyE l := fun a b ha hb h => by
    have e : polyF l = firstOf [a, b] := by
      rw [pe a b ha hb]
      simp only [firstOf] at h ⊢
      split
      · split
        · rename_i h1 h2; simp [h1, h2] at h
        · rfl
      · rfl
    unfold polyE
    rw [e, if_neg h]
  have go : ∀ a b : Int, a = (if l.length < 3 then 16 else 0) → b = (if 8 < l.length then 5 else 0) → firstOf [a, b] = 0 →
      AWp (C m) Tryz.f18.ntmps (pieceAt [1, 1] c18) (endV m [ResultVar.tmp 2] (I (polyE l))) ⟨[(0, .p (.seq 2 (l.map pc)))], [], [], 0, [], [], []⟩ := fun a b ha hb h => by
    rw [firstOf_zero, firstOf_zero] at h
    have h3 : 3 ≤ l.length := by
      rcases Nat.lt_or_ge l.length 3 with hh | hh
      · rw [if_pos hh] at ha; rw [ha] at h; exact absurd h.1 (by decide)
      · exact hh
    have e : polyF l = firstOf (l.map ptE) := by
      rw [pe a b ha hb, h.1, h.2.1]
      exact firstOf_one _
    have e2 : polyE l = if firstOf (l.map ptE) = 0 then (if (List.range l.length).any (badB l) then 1 else 0) else firstOf (l.map ptE) := by unfold polyE; rw [e]
    rw [e2]
    exact refPoly1 l h3 hl
  refine APure.of_wp good (fn := Tryz.f18) (by kernel_rfl) (by kernel_rfl) rfl rfl (by kernel_rfl) rfl (by kernel_rfl) ?_
  refine codeN_sound good (mu := []) (n := 2) ?_
  conv => whnf
  repeat' (first
    | (rw [hlen]; conv => whnf)
    | (refine SBool.mk (fun _ => ?_) (fun h => absurd (of_decide_eq_true rfl) h); conv => whnf)
    | (refine SBool.mk (fun h => absurd h (of_decide_eq_false rfl)) (fun _ => ?_); conv => whnf)
    | (refine SBool.mk (fun h => ?_) (fun h => ?_) <;> conv => whnf)
    | (refine SEx.mk _ (by first | exact refWhen_pure _ _ | exact refFirst2_pure _ _) ?_; conv => whnf)
    | fail)
  all_goals first
    | exact ⟨PLe.of_eq (congrArg I (ret _ _ (by first | exact (if_pos (by omega)).symm | exact (if_neg (by omega)).symm) (by first | exact (if_pos (by omega)).symm | exact (if_neg (by omega)).symm) (by assumption)))⟩
    | refine ⟨AWp.le ?_ (go _ _ (by first | exact (if_pos (by omega)).symm | exact (if_neg (by omega)).symm) (by first | exact (if_pos (by omega)).symm | exact (if_neg (by omega)).symm) (by assumption))⟩
  all_goals
    skip
    · refine SLe.of [] [] rfl rfl ?_
      conv => whnf
      repeat' (first
      | exact True.intro
      | (refine SAnd.mk (PLe.refl _) ?_; conv => whnf))
theorem refBox_pure {m : Int} (b : Bx) : APure (C m) 21 [.agg (bc b)] (I (boxE b)) := by
  have e : ∀ a : Int, a = (if b.hi.x < b.lo.x ∨ b.hi.y < b.lo.y then 11 else 0) → firstOf [ptE b.lo, ptE b.hi, a] = boxE b := fun a h => by rw [h]; rfl
  refine APure.of_body good [] (fn := Tryz.f21) (by kernel_rfl) (by kernel_rfl) rfl rfl (by kernel_rfl) rfl (by kernel_rfl) ?_
  conv => whnf
  repeat' (first
    | (refine SBool.mk (fun h => ?_) (fun h => ?_) <;> conv => whnf)
    | (refine SEx.mk _ (by first | exact refPoint_pure b.lo | exact refPoint_pure b.hi | exact refWhen_pure _ _ | exact refFirst3_pure _ _ _) ?_; conv => whnf)
    | (refine SAnd.mk (by first | exact rfl | kernel_rfl | omega | decide | exact refPoint_pure b.lo | exact refPoint_pure b.hi | exact refWhen_pure _ _ | exact refFirst3_pure _ _ _) ?_; conv => whnf)
    | fail)
  all_goals exact ⟨PLe.of_eq (congrArg I (e _ (by first | exact (if_pos (by omega)).symm | exact (if_neg (by omega)).symm)))⟩
end Go.Proofs.Ab.Area
end
section
/- The reference's Meets. -/
set_option maxRecDepth 100000
set_option linter.unusedVariables false
set_option linter.unusedSimpArgs false
namespace Go.Proofs.Ab.Area
open Go Go.RowKit Go.Proofs.Ab
end Go.Proofs.Ab.Area
end
section
/- The law of the shapes, given that the program is awake. -/
set_option maxRecDepth 100000
set_option linter.unusedVariables false
set_option linter.unusedSimpArgs false
namespace Go.Proofs.Ab.Area
open Go Go.RowKit Go.Proofs.Ab
theorem eql_bool {m : Int} (a b : Bool) : ∀ w, (binOp .eql 4 (.bool a) (.bool b)).run (C m).P w = .ok (.bool (a == b)) w := fun w => run_eql_bool w 4 a b (by kernel_rfl)
section
attribute [local irreducible] APure
end
end Go.Proofs.Ab.Area
end
section
/- The reference's names and small checks. -/
set_option maxRecDepth 100000
set_option linter.unusedVariables false
set_option linter.unusedSimpArgs false
namespace Go.Proofs.Ab.Area
open Go Go.RowKit Go.Proofs.Ab
theorem byte_at {l : List UInt8} {k : Nat} (h : k < l.length) : byteAt ⟨l.toArray⟩ ((k : Int)).toNat = (l[k].toNat : Int) := by
  show byteAt ⟨l.toArray⟩ k = _
  have hs : k < (⟨l.toArray⟩ : ByteArray).size := by simpa [ByteArray.size] using h
  unfold byteAt
  rw [getElem?_pos (⟨l.toArray⟩ : ByteArray) k hs]
  rfl
theorem name_cases (l : List UInt8) : (l.length = 0 → nameB ⟨l.toArray⟩ = false) ∧ (24 < l.length → nameB ⟨l.toArray⟩ = false) ∧ (¬ l.length = 0 → ¬ 24 < l.length → nameB ⟨l.toArray⟩ = goodN 0 l) := by
  have hn : nameB ⟨l.toArray⟩ = (goodN 0 l && decide (l ≠ []) && decide (l.length ≤ 24)) := by
    have : nameB ⟨l.toArray⟩ = nameL l := by unfold nameB; simp
    rw [this, nameL_eq]
  refine ⟨fun h => ?_, fun h => ?_, fun h1 h2 => ?_⟩
  · have : l = [] := List.eq_nil_of_length_eq_zero h
    subst this
    rw [hn]
    simp
  · rw [hn, decide_eq_false (show ¬ l.length ≤ 24 by omega), Bool.and_false]
  · rw [hn, decide_eq_true (show l ≠ [] from fun e => h1 (by rw [e]; rfl)), decide_eq_true (show l.length ≤ 24 by omega), Bool.and_true, Bool.and_true]
set_option maxHeartbeats 4000000 in
theorem refIsName_pure {m : Int} (s : ByteArray) : APure (C m) 182 [St s] (Bo (nameB s)) := by
  obtain ⟨l, rfl⟩ : ∃ l : List UInt8, s = ⟨l.toArray⟩ := ⟨s.data.toList, by simp⟩
  have hbs : (⟨l.toArray⟩ : ByteArray).size = l.length := by simp [ByteArray.size]
  have hbi : (((⟨l.toArray⟩ : ByteArray).size : Nat) : Int) = (l.length : Int) := by rw [hbs]
  obtain ⟨c0, c1, c2⟩ := name_cases l
  generalize nameB ⟨l.toArray⟩ = V at *
  refine APure.of_body good [] (fn := Tryz.f182) (by kernel_rfl) (by kernel_rfl) rfl rfl (by kernel_rfl) rfl (by kernel_rfl) ?_
  conv => whnf
  repeat' (first
    | (rw [hbi]; conv => whnf)
    | (refine SBool.mk (fun h => ?_) (fun h => ?_) <;> conv => whnf)
    | fail)
  · exact ⟨PLe.of_eq (congrArg Bo (c0 (by have h : (l.length : Int) = 0 := h; omega)).symm)⟩
  · exact ⟨PLe.of_eq (congrArg Bo (c1 (by have h : 24 < (l.length : Int) := h; omega)).symm)⟩
  · rename_i h1
    have h24 : ¬ 24 < l.length := by have h : ¬ 24 < (l.length : Int) := h; omega
    have h0 : ¬ l.length = 0 := by have h : ¬ (l.length : Int) = 0 := h1; omega
    have hV := c2 h0 h24
    clear c0 c1 c2 h h1
    refine ⟨AWp.loop (ι := { k : Nat // k ≤ l.length ∧ V = goodN k (l.drop k) }) (fun k => ⟨[(3, .p (I k.1)), (0, .p (St ⟨l.toArray⟩))], [], [], 0, [], [], []⟩) (fun k => l.length - k.1) ⟨0, by simp, by simpa using hV⟩ ?_ ?_⟩
    · skip
      · refine SLe.of [] [] rfl rfl ?_
        conv => whnf
        repeat' (first
        | exact True.intro
        | (refine SAnd.mk (PLe.refl _) ?_; conv => whnf))
    · rintro ⟨k, hk, hg⟩
      refine codeK_sound good (mu := []) ?_
      conv => whnf
      refine SBool.mk (fun hc => ?_) (fun hc => ?_)
      · have hc' : (k : Int) < (((⟨l.toArray⟩ : ByteArray).size : Nat) : Int) := hc
        rw [hbs] at hc'
        have hkl : k < l.length := by omega
        have hs0 : (0 : Int) ≤ (k : Int) ∧ (k : Int) < ((⟨l.toArray⟩ : ByteArray).size : Int) := ⟨by omega, by rw [hbs]; omega⟩
        have hby := byte_at hkl
        have mk := sub_lt hkl
        have wk := wsucc (k := k) (by omega)
        have bad : ¬ letterP l[k].toNat → (k = 0 ∨ ¬ otherP l[k].toNat) → V = false := fun h1 h2 => by rw [hg]; exact goodN_bad hkl h1 h2
        have ok : (letterP l[k].toNat ∨ (k ≠ 0 ∧ otherP l[k].toNat)) → V = goodN (k + 1) (l.drop (k + 1)) := fun h => by rw [hg]; exact goodN_ok hkl h
        unfold letterP otherP at bad ok
        clear hc hc' hV hbs hbi
        generalize l[k].toNat = c at *
        conv => whnf
        conv => whnf
        repeat' (first
          | (rw [wk]; conv => whnf)
          | (rw [hby]; conv => whnf)
          | (refine SBool.mk (fun h => ?_) (fun h => ?_) <;> conv => whnf)
          | (refine SAnd.mk (by first | exact hs0) ?_; conv => whnf)
          | fail)
        all_goals
          dsimp only at *
          first
            | exact ⟨PLe.of_eq (congrArg Bo (bad (by omega) (by omega)).symm)⟩
            | skip
        all_goals
          refine ⟨⟨k + 1, hkl, ok (by omega)⟩, mk, ?_⟩
          skip
          · refine SLe.of [] [] rfl rfl ?_
            conv => whnf
            repeat' (first
            | exact True.intro
            | (refine SAnd.mk (PLe.refl _) ?_; conv => whnf))
      · have hc' : ¬ (k : Int) < (((⟨l.toArray⟩ : ByteArray).size : Nat) : Int) := hc
        rw [hbs] at hc'
        have hkl : k = l.length := by omega
        subst hkl
        have hg' : V = true := by rw [hg, List.drop_length]; rfl
        skip
        conv => whnf
        repeat' (first
          | fail)
        exact ⟨PLe.of_eq (congrArg Bo hg'.symm)⟩
theorem refName_pure {m : Int} (s : ByteArray) : APure (C m) 119 [St s] (I (if nameB s then 0 else 8)) := by
  have h := refIsName_pure (m := m) s
  generalize nameB s = b at h ⊢
  cases b
  · refine APure.of_body good [] (fn := Tryz.f119) (by kernel_rfl) (by kernel_rfl) rfl rfl (by kernel_rfl) rfl (by kernel_rfl) ?_
    conv => whnf
    repeat' (first
      | (refine SEx.mk _ (by first | exact h | exact refWhen_pure _ _) ?_; conv => whnf)
      | fail)
    exact ⟨PLe.refl _⟩
  · refine APure.of_body good [] (fn := Tryz.f119) (by kernel_rfl) (by kernel_rfl) rfl rfl (by kernel_rfl) rfl (by kernel_rfl) ?_
    conv => whnf
    repeat' (first
      | (refine SEx.mk _ (by first | exact h | exact refWhen_pure _ _) ?_; conv => whnf)
      | fail)
    exact ⟨PLe.refl _⟩
theorem refSz_pure {m : Int} (n : Int) : APure (C m) 33 [I n] (I (sizeE n)) := by
  refine APure.of_body good [] (fn := Tryz.f33) (by kernel_rfl) (by kernel_rfl) rfl rfl (by kernel_rfl) rfl (by kernel_rfl) ?_
  conv => whnf
  repeat' (first
    | (refine SEx.mk _ (by first | exact refRange_pure _ _ _) ?_; conv => whnf)
    | fail)
  exact ⟨PLe.refl _⟩
theorem refCat_pure {m : Int} (n : Int) : APure (C m) 34 [I n] (I (catE n)) := by
  refine APure.of_body good [] (fn := Tryz.f34) (by kernel_rfl) (by kernel_rfl) rfl rfl (by kernel_rfl) rfl (by kernel_rfl) ?_
  conv => whnf
  repeat' (first
    | (refine SEx.mk _ (by first | exact refRange_pure _ _ _) ?_; conv => whnf)
    | fail)
  exact ⟨PLe.refl _⟩
theorem refTicks_pure {m : Int} (x y : Int) : APure (C m) 130 [.agg [I x, I y]] (I (ticksE x y)) := by
  refine APure.of_body good [] (fn := Tryz.f130) (by kernel_rfl) (by kernel_rfl) rfl rfl (by kernel_rfl) rfl (by kernel_rfl) ?_
  conv => whnf
  repeat' (first
    | (refine SBool.mk (fun h => ?_) (fun h => ?_) <;> conv => whnf)
    | (refine SEx.mk _ (by first | exact refWhen_pure _ _) ?_; conv => whnf)
    | fail)
  all_goals exact ⟨PLe.of_eq (congrArg I (by unfold ticksE; first | exact (if_pos (by omega)).symm | exact (if_neg (by omega)).symm))⟩
end Go.Proofs.Ab.Area
end
section
/- The reference's checks of lists of things with names. -/
set_option maxRecDepth 100000
set_option linter.unusedVariables false
set_option linter.unusedSimpArgs false
namespace Go.Proofs.Ab.Area
open Go Go.RowKit Go.Proofs.Ab
theorem firstOf_cat : ∀ (xs ys : List Int), firstOf (xs ++ [firstOf ys]) = firstOf (xs ++ ys)
  | [], ys => by
    show (if firstOf ys = 0 then 0 else firstOf ys) = firstOf ys
    split
    · rename_i h; exact h.symm
    · rfl
  | x :: xs, ys => by
    show (if x = 0 then firstOf (xs ++ [firstOf ys]) else x) = (if x = 0 then firstOf (xs ++ ys) else x)
    rw [firstOf_cat xs ys]
theorem refFirst5_pure {m : Int} (a b c d e : Int) : APure (C m) 98 [.seq 1 [[I a], [I b], [I c], [I d], [I e]]] (I (firstOf [a, b, c, d, e])) := refFirst_pure [a, b, c, d, e] (by simp)
theorem namedF_step {α : Type} (nm : α → ByteArray) (er : α → Int) {xs : List α} {k : Nat} (hkl : k < xs.length) {a b z : Int} (ha : a = if nameB (nm xs[k]) then 0 else 8) (hb : b = if knownB ((xs.take k).map nm) (nm xs[k]) then 9 else 0) (hz : z = firstOf [a, b, er xs[k]]) :
    namedF ((xs.take k).map nm) ((xs.drop k).map fun x => (nm x, er x)) = if z = 0 then namedF ((xs.take (k + 1)).map nm) ((xs.drop (k + 1)).map fun x => (nm x, er x)) else z := by
  rw [List.drop_eq_getElem_cons hkl, take_map_succ hkl, hz, ha, hb]
  rfl
theorem app_name (l : List ByteArray) (s : ByteArray) (h : l.length ≤ 1000000) : (∀ c ∈ ([[St s]] : List (List PV)).flatten, c.one = true) ∧ ((l.map cS).length + 1) * 16 ≤ 140737488355328 ∧ (l.map cS).length + 1 ≤ 9223372036854775807 := by
  refine ⟨fun c hc => ?_, by simp only [List.length_map]; omega, by simp only [List.length_map]; omega⟩
  simp at hc
  rw [hc]
  rfl
theorem refMove_pure {m : Int} (x : Mv) : APure (C m) 58 [.agg (mc x)] (I (firstOf [if nameB x.name then 0 else 8, moveE x])) := by
  have e : firstOf [if nameB x.name then 0 else 8, sizeE x.size, boxE x.box, ticksE x.lo x.hi] = firstOf [if nameB x.name then 0 else 8, moveE x] := (firstOf_cat [if nameB x.name then 0 else 8] [sizeE x.size, boxE x.box, ticksE x.lo x.hi]).symm
  have hn := refName_pure (m := m) x.name
  refine APure.of_body good [] (fn := Tryz.f58) (by kernel_rfl) (by kernel_rfl) rfl rfl (by kernel_rfl) rfl (by kernel_rfl) ?_
  conv => whnf
  repeat' (first
    | (refine SEx.mk _ (by first | exact hn | exact refSz_pure _ | exact refBox_pure x.box | exact refTicks_pure _ _ | exact refFirst4_pure _ _ _ _) ?_; conv => whnf)
    | (refine SAnd.mk (by first | exact rfl | kernel_rfl | omega | decide | exact hn | exact refSz_pure _ | exact refBox_pure x.box | exact refTicks_pure _ _ | exact refFirst4_pure _ _ _ _) ?_; conv => whnf)
    | fail)
  exact ⟨PLe.of_eq (congrArg I e)⟩
noncomputable def c32 : Code := Tryz.f32.body.getD .skip
set_option maxHeartbeats 4000000 in
theorem refAreas_loop {m : Int} (xs : List Ar) (hl : xs.length ≤ 1000000) (hp : ∀ a ∈ xs, a.poly.length ≤ 1000) :
    AWp (C m) Tryz.f32.ntmps (pieceAt [1, 1, 1] c32) (endV m [ResultVar.tmp 2] (I (namedF [] (xs.map fun x => (x.name, areaE x))))) ⟨[(3, .p nilS), (0, .p (.seq 4 (xs.map ac)))], [], [], 0, [], [], []⟩ := by
  have hlen : (((xs.map ac).length : Nat) : Int) = xs.length := by simp
  obtain ⟨V, hV⟩ : ∃ V, V = namedF [] (xs.map fun x => (x.name, areaE x)) := ⟨_, rfl⟩
  rw [← hV]
  refine codeK_sound good (mu := []) ?_
  conv => whnf
  repeat' (first
    | fail)
  refine ⟨AWp.loop (ι := { k : Nat // k ≤ xs.length ∧ V = namedF ((xs.take k).map (·.name)) ((xs.drop k).map fun x => (x.name, areaE x)) }) (fun k => ⟨[(4, .p (I k.1)), (0, .p (.seq 4 (xs.map ac))), (3, .own 0)], [], [(0, (9, 1, ((xs.take k.1).map (·.name)).map cS))], 1, [], [], []⟩) (fun k => xs.length - k.1) ⟨0, by simp, by simpa using hV⟩ ?_ ?_⟩
  · refine SLe.row 3 9 1 ?_
    conv => whnf
    skip
    · refine SLe.of [] [(0, 0)] rfl rfl ?_
      conv => whnf
      repeat' (first
      | exact True.intro
      | (refine SAnd.mk (PLe.refl _) ?_; conv => whnf)
      | (refine SAnd.mk rfl ?_; conv => whnf))
  · rintro ⟨k, hk, he⟩
    refine codeK_sound good (mu := []) ?_
    conv => whnf
    refine SBool.mk (fun hcn => ?_) (fun hcn => ?_)
    · have hcn' : (k : Int) < (((xs.map ac).length : Nat) : Int) := hcn
      rw [hlen] at hcn'
      have hkl : k < xs.length := by omega
      have hs := some_at hkl ac
      have mk := sub_lt hkl
      have wk := wsucc (k := k) (by omega)
      have hnm := refName_pure (m := m) xs[k].name
      have hkn := hasWord_pure (m := m) ((xs.take k).map (·.name)) xs[k].name (by rw [List.length_map, List.length_take]; omega)
      have hap := app_name ((xs.take k).map (·.name)) xs[k].name (by rw [List.length_map, List.length_take]; omega)
      have hts : ((xs.take k).map (·.name)).map cS ++ [[St xs[k].name]] = ((xs.take (k + 1)).map (·.name)).map cS := by rw [take_map_succ hkl (fun x : Ar => x.name), List.map_append]; rfl
      have hst := fun a b z ha hb hz => namedF_step (fun x : Ar => x.name) (fun x => areaE x) hkl (a := a) (b := b) (z := z) ha hb hz
      have hsz := refSz_pure (m := m) xs[k].size
      have hct := refCat_pure (m := m) xs[k].cat
      have hpl := refPolygon_pure (m := m) xs[k].poly (hp _ (List.getElem_mem hkl))
      have ecat : ∀ a b, firstOf [a, b, sizeE xs[k].size, catE xs[k].cat, polyE xs[k].poly] = firstOf [a, b, areaE xs[k]] := fun a b => (firstOf_cat [a, b] [sizeE xs[k].size, catE xs[k].cat, polyE xs[k].poly]).symm
      clear hcn hcn'
      generalize hnb : nameB xs[k].name = b1 at *
      generalize hkb : knownB ((xs.take k).map (·.name)) xs[k].name = b2 at *
      cases b1 <;> cases b2
      all_goals
        conv => whnf
        repeat' (first
          | (rw [wk]; conv => whnf)
          | (refine SBool.mk (fun h => absurd h (of_decide_eq_false rfl)) (fun _ => ?_); conv => whnf)
          | (refine SBool.mk (fun h => ?_) (fun h => ?_) <;> conv => whnf)
          | (refine SEx.mk _ (by first | exact hs | exact hnm | exact hkn | exact hap | exact refWhen_pure _ _ | exact hsz | exact hct | exact hpl | exact refFirst5_pure _ _ _ _ _) ?_; conv => whnf)
          | (refine SAnd.mk (by first | exact hs | exact hnm | exact hkn | exact hap | exact hsz | exact hct | exact hpl) ?_; conv => whnf)
          | (refine SAnd.mk (by first | exact rfl | kernel_rfl | omega | decide | exact hs | exact hnm | exact hkn | exact hap | exact refWhen_pure _ _ | exact hsz | exact hct | exact hpl | exact refFirst5_pure _ _ _ _ _) ?_; conv => whnf)
          | fail)
        all_goals first
          | exact ⟨PLe.of_eq (congrArg I (by rw [he, hst _ _ _ rfl rfl (ecat _ _)]; exact (if_neg (by assumption)).symm))⟩
          | skip
      all_goals
        refine ⟨⟨k + 1, hkl, by rw [he, hst _ _ _ rfl rfl (ecat _ _), if_pos (by assumption)]⟩, mk, ?_⟩
        skip
        · refine SLe.of [] [(0, 32)] rfl rfl ?_
          conv => whnf
          repeat' (first
          | exact True.intro
          | (refine SAnd.mk (hts) ?_; conv => whnf)
          | (refine SAnd.mk (PLe.refl _) ?_; conv => whnf))
    · have hcn' : ¬ (k : Int) < (((xs.map ac).length : Nat) : Int) := hcn
      rw [hlen] at hcn'
      have hkl : k = xs.length := by omega
      subst hkl
      skip
      conv => whnf
      repeat' (first
        | fail)
      exact ⟨PLe.of_eq (congrArg I (by rw [he]; simp [namedF]))⟩
theorem refAreas_pure {m : Int} (xs : List Ar) (hl : xs.length ≤ 1000000) (hp : xs.length ≤ 16 → ∀ a ∈ xs, a.poly.length ≤ 1000) : APure (C m) 32 [.seq 4 (xs.map ac)] (I (areasE xs)) := by
  have hlen : (((xs.map ac).length : Nat) : Int) = xs.length := by simp
  by_cases hb : 16 < (xs.length : Int)
  · have e : areasE xs = 5 := by
      unfold areasE namedE
      rw [List.length_map, if_pos hb]
    rw [e]
    refine APure.of_body good [] (fn := Tryz.f32) (by kernel_rfl) (by kernel_rfl) rfl rfl (by kernel_rfl) rfl (by kernel_rfl) ?_
    conv => whnf
    repeat' (first
      | (rw [hlen]; conv => whnf)
      | (refine SBool.mk (fun h => ?_) (fun h => ?_) <;> conv => whnf)
      | fail)
    · exact ⟨PLe.refl _⟩
    all_goals exact absurd hb (by assumption)
  · have e : areasE xs = namedF [] (xs.map fun x => (x.name, areaE x)) := by
      unfold areasE namedE
      rw [List.length_map, if_neg hb]
    rw [e]
    have go := refAreas_loop (m := m) xs hl (hp (by omega))
    refine APure.of_wp good (fn := Tryz.f32) (by kernel_rfl) (by kernel_rfl) rfl rfl (by kernel_rfl) rfl (by kernel_rfl) ?_
    refine codeN_sound good (mu := []) (n := 3) ?_
    conv => whnf
    repeat' (first
      | (rw [hlen]; conv => whnf)
      | (refine SBool.mk (fun h => ?_) (fun h => ?_) <;> conv => whnf)
      | fail)
    · exact absurd (by assumption) hb
    · refine ⟨AWp.le ?_ go⟩
      skip
      · refine SLe.of [] [] rfl rfl ?_
        conv => whnf
        repeat' (first
        | exact True.intro
        | (refine SAnd.mk (PLe.refl _) ?_; conv => whnf))
noncomputable def c45 : Code := Tryz.f45.body.getD .skip
set_option maxHeartbeats 4000000 in
theorem refLands_loop {m : Int} (xs : List Ld) (hl : xs.length ≤ 1000000) :
    AWp (C m) Tryz.f45.ntmps (pieceAt [1, 1, 1] c45) (endV m [ResultVar.tmp 2] (I (namedF [] (xs.map fun x => (x.name, landE x))))) ⟨[(3, .p nilS), (0, .p (.seq 4 (xs.map lc)))], [], [], 0, [], [], []⟩ := by
  have hlen : (((xs.map lc).length : Nat) : Int) = xs.length := by simp
  obtain ⟨V, hV⟩ : ∃ V, V = namedF [] (xs.map fun x => (x.name, landE x)) := ⟨_, rfl⟩
  rw [← hV]
  refine codeK_sound good (mu := []) ?_
  conv => whnf
  repeat' (first
    | fail)
  refine ⟨AWp.loop (ι := { k : Nat // k ≤ xs.length ∧ V = namedF ((xs.take k).map (·.name)) ((xs.drop k).map fun x => (x.name, landE x)) }) (fun k => ⟨[(4, .p (I k.1)), (0, .p (.seq 4 (xs.map lc))), (3, .own 0)], [], [(0, (9, 1, ((xs.take k.1).map (·.name)).map cS))], 1, [], [], []⟩) (fun k => xs.length - k.1) ⟨0, by simp, by simpa using hV⟩ ?_ ?_⟩
  · refine SLe.row 3 9 1 ?_
    conv => whnf
    skip
    · refine SLe.of [] [(0, 0)] rfl rfl ?_
      conv => whnf
      repeat' (first
      | exact True.intro
      | (refine SAnd.mk (PLe.refl _) ?_; conv => whnf)
      | (refine SAnd.mk rfl ?_; conv => whnf))
  · rintro ⟨k, hk, he⟩
    refine codeK_sound good (mu := []) ?_
    conv => whnf
    refine SBool.mk (fun hcn => ?_) (fun hcn => ?_)
    · have hcn' : (k : Int) < (((xs.map lc).length : Nat) : Int) := hcn
      rw [hlen] at hcn'
      have hkl : k < xs.length := by omega
      have hs := some_at hkl lc
      have mk := sub_lt hkl
      have wk := wsucc (k := k) (by omega)
      have hnm := refName_pure (m := m) xs[k].name
      have hkn := hasWord_pure (m := m) ((xs.take k).map (·.name)) xs[k].name (by rw [List.length_map, List.length_take]; omega)
      have hap := app_name ((xs.take k).map (·.name)) xs[k].name (by rw [List.length_map, List.length_take]; omega)
      have hts : ((xs.take k).map (·.name)).map cS ++ [[St xs[k].name]] = ((xs.take (k + 1)).map (·.name)).map cS := by rw [take_map_succ hkl (fun x : Ld => x.name), List.map_append]; rfl
      have hst := fun a b z ha hb hz => namedF_step (fun x : Ld => x.name) (fun x => landE x) hkl (a := a) (b := b) (z := z) ha hb hz
      have hct := refCat_pure (m := m) xs[k].cat
      have htk := refTicks_pure (m := m) xs[k].lo xs[k].hi
      have ecat : ∀ a b, firstOf [a, b, catE xs[k].cat, ticksE xs[k].lo xs[k].hi] = firstOf [a, b, landE xs[k]] := fun a b => (firstOf_cat [a, b] [catE xs[k].cat, ticksE xs[k].lo xs[k].hi]).symm
      clear hcn hcn'
      generalize hnb : nameB xs[k].name = b1 at *
      generalize hkb : knownB ((xs.take k).map (·.name)) xs[k].name = b2 at *
      cases b1 <;> cases b2
      all_goals
        conv => whnf
        repeat' (first
          | (rw [wk]; conv => whnf)
          | (refine SBool.mk (fun h => absurd h (of_decide_eq_false rfl)) (fun _ => ?_); conv => whnf)
          | (refine SBool.mk (fun h => ?_) (fun h => ?_) <;> conv => whnf)
          | (refine SEx.mk _ (by first | exact hs | exact hnm | exact hkn | exact hap | exact refWhen_pure _ _ | exact hct | exact htk | exact refFirst4_pure _ _ _ _) ?_; conv => whnf)
          | (refine SAnd.mk (by first | exact hs | exact hnm | exact hkn | exact hap | exact hct | exact htk) ?_; conv => whnf)
          | (refine SAnd.mk (by first | exact rfl | kernel_rfl | omega | decide | exact hs | exact hnm | exact hkn | exact hap | exact refWhen_pure _ _ | exact hct | exact htk | exact refFirst4_pure _ _ _ _) ?_; conv => whnf)
          | fail)
        all_goals first
          | exact ⟨PLe.of_eq (congrArg I (by rw [he, hst _ _ _ rfl rfl (ecat _ _)]; exact (if_neg (by assumption)).symm))⟩
          | skip
      all_goals
        refine ⟨⟨k + 1, hkl, by rw [he, hst _ _ _ rfl rfl (ecat _ _), if_pos (by assumption)]⟩, mk, ?_⟩
        skip
        · refine SLe.of [] [(0, 26)] rfl rfl ?_
          conv => whnf
          repeat' (first
          | exact True.intro
          | (refine SAnd.mk (hts) ?_; conv => whnf)
          | (refine SAnd.mk (PLe.refl _) ?_; conv => whnf))
    · have hcn' : ¬ (k : Int) < (((xs.map lc).length : Nat) : Int) := hcn
      rw [hlen] at hcn'
      have hkl : k = xs.length := by omega
      subst hkl
      skip
      conv => whnf
      repeat' (first
        | fail)
      exact ⟨PLe.of_eq (congrArg I (by rw [he]; simp [namedF]))⟩
theorem refLands_pure {m : Int} (xs : List Ld) (hl : xs.length ≤ 1000000) : APure (C m) 45 [.seq 4 (xs.map lc)] (I (landsE xs)) := by
  have hlen : (((xs.map lc).length : Nat) : Int) = xs.length := by simp
  by_cases hb : 32 < (xs.length : Int)
  · have e : landsE xs = 5 := by
      unfold landsE namedE
      rw [List.length_map, if_pos hb]
    rw [e]
    refine APure.of_body good [] (fn := Tryz.f45) (by kernel_rfl) (by kernel_rfl) rfl rfl (by kernel_rfl) rfl (by kernel_rfl) ?_
    conv => whnf
    repeat' (first
      | (rw [hlen]; conv => whnf)
      | (refine SBool.mk (fun h => ?_) (fun h => ?_) <;> conv => whnf)
      | fail)
    · exact ⟨PLe.refl _⟩
    all_goals exact absurd hb (by assumption)
  · have e : landsE xs = namedF [] (xs.map fun x => (x.name, landE x)) := by
      unfold landsE namedE
      rw [List.length_map, if_neg hb]
    rw [e]
    have go := refLands_loop (m := m) xs hl
    refine APure.of_wp good (fn := Tryz.f45) (by kernel_rfl) (by kernel_rfl) rfl rfl (by kernel_rfl) rfl (by kernel_rfl) ?_
    refine codeN_sound good (mu := []) (n := 3) ?_
    conv => whnf
    repeat' (first
      | (rw [hlen]; conv => whnf)
      | (refine SBool.mk (fun h => ?_) (fun h => ?_) <;> conv => whnf)
      | fail)
    · exact absurd (by assumption) hb
    · refine ⟨AWp.le ?_ go⟩
      skip
      · refine SLe.of [] [] rfl rfl ?_
        conv => whnf
        repeat' (first
        | exact True.intro
        | (refine SAnd.mk (PLe.refl _) ?_; conv => whnf))
noncomputable def c46 : Code := Tryz.f46.body.getD .skip
set_option maxHeartbeats 4000000 in
theorem refMoves_loop {m : Int} (xs : List Mv) (hl : xs.length ≤ 1000000) :
    AWp (C m) Tryz.f46.ntmps (pieceAt [1, 1, 1] c46) (endV m [ResultVar.tmp 2] (I (namedF [] (xs.map fun x => (x.name, moveE x))))) ⟨[(3, .p nilS), (0, .p (.seq 8 (xs.map mc)))], [], [], 0, [], [], []⟩ := by
  have hlen : (((xs.map mc).length : Nat) : Int) = xs.length := by simp
  obtain ⟨V, hV⟩ : ∃ V, V = namedF [] (xs.map fun x => (x.name, moveE x)) := ⟨_, rfl⟩
  rw [← hV]
  refine codeK_sound good (mu := []) ?_
  conv => whnf
  repeat' (first
    | fail)
  refine ⟨AWp.loop (ι := { k : Nat // k ≤ xs.length ∧ V = namedF ((xs.take k).map (·.name)) ((xs.drop k).map fun x => (x.name, moveE x)) }) (fun k => ⟨[(4, .p (I k.1)), (0, .p (.seq 8 (xs.map mc))), (3, .own 0)], [], [(0, (9, 1, ((xs.take k.1).map (·.name)).map cS))], 1, [], [], []⟩) (fun k => xs.length - k.1) ⟨0, by simp, by simpa using hV⟩ ?_ ?_⟩
  · refine SLe.row 3 9 1 ?_
    conv => whnf
    skip
    · refine SLe.of [] [(0, 0)] rfl rfl ?_
      conv => whnf
      repeat' (first
      | exact True.intro
      | (refine SAnd.mk (PLe.refl _) ?_; conv => whnf)
      | (refine SAnd.mk rfl ?_; conv => whnf))
  · rintro ⟨k, hk, he⟩
    refine codeK_sound good (mu := []) ?_
    conv => whnf
    refine SBool.mk (fun hcn => ?_) (fun hcn => ?_)
    · have hcn' : (k : Int) < (((xs.map mc).length : Nat) : Int) := hcn
      rw [hlen] at hcn'
      have hkl : k < xs.length := by omega
      have hs := some_at hkl mc
      have mk := sub_lt hkl
      have wk := wsucc (k := k) (by omega)
      have hnm := refName_pure (m := m) xs[k].name
      have hkn := hasWord_pure (m := m) ((xs.take k).map (·.name)) xs[k].name (by rw [List.length_map, List.length_take]; omega)
      have hap := app_name ((xs.take k).map (·.name)) xs[k].name (by rw [List.length_map, List.length_take]; omega)
      have hts : ((xs.take k).map (·.name)).map cS ++ [[St xs[k].name]] = ((xs.take (k + 1)).map (·.name)).map cS := by rw [take_map_succ hkl (fun x : Mv => x.name), List.map_append]; rfl
      have hst := fun a b z ha hb hz => namedF_step (fun x : Mv => x.name) (fun x => moveE x) hkl (a := a) (b := b) (z := z) ha hb hz
      have hmv := refMove_pure (m := m) xs[k]
      have ecat : ∀ b, firstOf [if nameB xs[k].name then 0 else 8, b, firstOf [if nameB xs[k].name then 0 else 8, moveE xs[k]]] = firstOf [if nameB xs[k].name then 0 else 8, b, moveE xs[k]] := fun b => by
        cases nameB xs[k].name
        · rfl
        · exact firstOf_cat [0, b] [moveE xs[k]]
      clear hcn hcn'
      generalize hnb : nameB xs[k].name = b1 at *
      generalize hkb : knownB ((xs.take k).map (·.name)) xs[k].name = b2 at *
      cases b1 <;> cases b2
      all_goals
        conv => whnf
        repeat' (first
          | (rw [wk]; conv => whnf)
          | (refine SBool.mk (fun h => absurd h (of_decide_eq_false rfl)) (fun _ => ?_); conv => whnf)
          | (refine SBool.mk (fun h => ?_) (fun h => ?_) <;> conv => whnf)
          | (refine SEx.mk _ (by first | exact hs | exact hnm | exact hkn | exact hap | exact refWhen_pure _ _ | exact hmv | exact refFirst3_pure _ _ _) ?_; conv => whnf)
          | (refine SAnd.mk (by first | exact hs | exact hnm | exact hkn | exact hap | exact hmv) ?_; conv => whnf)
          | (refine SAnd.mk (by first | exact rfl | kernel_rfl | omega | decide | exact hs | exact hnm | exact hkn | exact hap | exact refWhen_pure _ _ | exact hmv | exact refFirst3_pure _ _ _) ?_; conv => whnf)
          | fail)
        all_goals first
          | exact ⟨PLe.of_eq (congrArg I (by rw [he, hst _ _ _ rfl rfl (ecat _)]; exact (if_neg (by assumption)).symm))⟩
          | skip
      all_goals
        refine ⟨⟨k + 1, hkl, by rw [he, hst _ _ _ rfl rfl (ecat _), if_pos (by assumption)]⟩, mk, ?_⟩
        skip
        · refine SLe.of [] [(0, 19)] rfl rfl ?_
          conv => whnf
          repeat' (first
          | exact True.intro
          | (refine SAnd.mk (hts) ?_; conv => whnf)
          | (refine SAnd.mk (PLe.refl _) ?_; conv => whnf))
    · have hcn' : ¬ (k : Int) < (((xs.map mc).length : Nat) : Int) := hcn
      rw [hlen] at hcn'
      have hkl : k = xs.length := by omega
      subst hkl
      skip
      conv => whnf
      repeat' (first
        | fail)
      exact ⟨PLe.of_eq (congrArg I (by rw [he]; simp [namedF]))⟩
theorem refMoves_pure {m : Int} (xs : List Mv) (hl : xs.length ≤ 1000000) : APure (C m) 46 [.seq 8 (xs.map mc)] (I (movesE xs)) := by
  have hlen : (((xs.map mc).length : Nat) : Int) = xs.length := by simp
  by_cases hb : 32 < (xs.length : Int)
  · have e : movesE xs = 5 := by
      unfold movesE namedE
      rw [List.length_map, if_pos hb]
    rw [e]
    refine APure.of_body good [] (fn := Tryz.f46) (by kernel_rfl) (by kernel_rfl) rfl rfl (by kernel_rfl) rfl (by kernel_rfl) ?_
    conv => whnf
    repeat' (first
      | (rw [hlen]; conv => whnf)
      | (refine SBool.mk (fun h => ?_) (fun h => ?_) <;> conv => whnf)
      | fail)
    · exact ⟨PLe.refl _⟩
    all_goals exact absurd hb (by assumption)
  · have e : movesE xs = namedF [] (xs.map fun x => (x.name, moveE x)) := by
      unfold movesE namedE
      rw [List.length_map, if_neg hb]
    rw [e]
    have go := refMoves_loop (m := m) xs hl
    refine APure.of_wp good (fn := Tryz.f46) (by kernel_rfl) (by kernel_rfl) rfl rfl (by kernel_rfl) rfl (by kernel_rfl) ?_
    refine codeN_sound good (mu := []) (n := 3) ?_
    conv => whnf
    repeat' (first
      | (rw [hlen]; conv => whnf)
      | (refine SBool.mk (fun h => ?_) (fun h => ?_) <;> conv => whnf)
      | fail)
    · exact absurd (by assumption) hb
    · refine ⟨AWp.le ?_ go⟩
      skip
      · refine SLe.of [] [] rfl rfl ?_
        conv => whnf
        repeat' (first
        | exact True.intro
        | (refine SAnd.mk (PLe.refl _) ?_; conv => whnf))
end Go.Proofs.Ab.Area
end
section
/- Lists handed over to the program; short lists. -/
set_option maxRecDepth 100000
set_option linter.unusedVariables false
set_option linter.unusedSimpArgs false
namespace Go.Proofs.Ab.Area
open Go Go.RowKit Go.Proofs.Ab
theorem one_ac (a : Ar) : ∀ c ∈ [ac a].flatten, c.one = true := by
  intro c hc
  simp only [List.flatten_cons, List.flatten_nil, List.append_nil, List.mem_cons, List.not_mem_nil, or_false] at hc
  rcases hc with rfl | rfl | rfl | rfl <;> rfl
theorem one_lc (a : Ld) : ∀ c ∈ [lc a].flatten, c.one = true := by
  intro c hc
  simp only [List.flatten_cons, List.flatten_nil, List.append_nil, List.mem_cons, List.not_mem_nil, or_false] at hc
  rcases hc with rfl | rfl | rfl | rfl <;> rfl
theorem one_mc (a : Mv) : ∀ c ∈ [mc a].flatten, c.one = true := by
  intro c hc
  simp only [List.flatten_cons, List.flatten_nil, List.append_nil, List.mem_cons, List.not_mem_nil, or_false] at hc
  rcases hc with rfl | rfl | rfl | rfl | rfl | rfl | rfl | rfl <;> rfl
theorem single_pure {m : Int} (x : Mv) : APure (C m) 56 [.agg (mc x)] (.agg (mc x)) := by
  refine APure.of_body good [] (fn := Tryz.f56) (by kernel_rfl) (by kernel_rfl) rfl rfl (by kernel_rfl) rfl (by kernel_rfl) ?_
  conv => whnf
  repeat' (first
    | fail)
  exact ⟨PLe.refl _⟩
theorem landed_pure {m : Int} (l : List Ld) (hl : l.length ≤ 1000000) : APure (C m) 42 [.seq 4 (l.map lc)] (.seq 4 (l.map lc)) := by
  have hlen : (((l.map lc).length : Nat) : Int) = l.length := by simp
  refine APure.of_body good [] (fn := Tryz.f42) (by kernel_rfl) (by kernel_rfl) rfl rfl (by kernel_rfl) rfl (by kernel_rfl) ?_
  conv => whnf
  repeat' (first
    | (rw [hlen]; conv => whnf)
    | fail)
  refine ⟨AWp.loop (ι := { k : Nat // k ≤ l.length }) (fun k => ⟨[(8, .p (I k.1)), (7, .p (I l.length)), (6, .p (.seq 4 (l.map lc))), (3, .own 0)], [], [(0, (202, 4, (l.take k.1).map lc))], 1, [], [], []⟩) (fun k => l.length - k.1) ⟨0, by simp⟩ ?_ ?_⟩
  · refine SLe.row 3 202 4 ?_
    conv => whnf
    skip
    · refine SLe.of [] [(0, 0)] rfl rfl ?_
      conv => whnf
      repeat' (first
      | exact True.intro
      | (refine SAnd.mk (PLe.refl _) ?_; conv => whnf)
      | (refine SAnd.mk rfl ?_; conv => whnf))
  · rintro ⟨k, hk⟩
    refine codeK_sound good (mu := []) ?_
    conv => whnf
    refine SBool.mk (fun hcn => ?_) (fun hcn => ?_)
    · have hkl : k < l.length := by simpa using hcn
      have hs := some_at hkl lc
      have mk := sub_lt hkl
      have hts := take_map_succ hkl lc
      have hap : (∀ c ∈ [lc l[k]].flatten, c.one = true) ∧ (((l.take k).map lc).length + 1) * 40 ≤ 140737488355328 ∧ ((l.take k).map lc).length + 1 ≤ 9223372036854775807 := ⟨one_lc _, by rw [List.length_map, List.length_take]; omega, by rw [List.length_map, List.length_take]; omega⟩
      have wk := wsucc (k := k) (by omega)
      clear hcn
      conv => whnf
      skip
      conv => whnf
      repeat' (first
        | (rw [wk]; conv => whnf)
        | (refine SEx.mk _ (by first | exact hs | exact hap) ?_; conv => whnf)
        | (refine SAnd.mk (by first | exact hs | exact hap) ?_; conv => whnf)
        | fail)
      refine ⟨⟨k + 1, hkl⟩, mk, ?_⟩
      skip
      · refine SLe.of [] [(0, 2)] rfl rfl ?_
        conv => whnf
        repeat' (first
        | exact True.intro
        | (refine SAnd.mk (hts.symm) ?_; conv => whnf)
        | (refine SAnd.mk (PLe.refl _) ?_; conv => whnf))
    · have : k = l.length := by simp at hcn; omega
      subst this
      skip
      conv => whnf
      repeat' (first
        | fail)
      exact ⟨PLe.of_eq (by rw [List.take_length])⟩
theorem moved_pure {m : Int} (l : List Mv) (hl : l.length ≤ 1000000) : APure (C m) 43 [.seq 8 (l.map mc)] (.seq 8 (l.map mc)) := by
  have hlen : (((l.map mc).length : Nat) : Int) = l.length := by simp
  refine APure.of_body good [] (fn := Tryz.f43) (by kernel_rfl) (by kernel_rfl) rfl rfl (by kernel_rfl) rfl (by kernel_rfl) ?_
  conv => whnf
  repeat' (first
    | (rw [hlen]; conv => whnf)
    | fail)
  refine ⟨AWp.loop (ι := { k : Nat // k ≤ l.length }) (fun k => ⟨[(8, .p (I k.1)), (7, .p (I l.length)), (6, .p (.seq 8 (l.map mc))), (3, .own 0)], [], [(0, (95, 8, (l.take k.1).map mc))], 1, [], [], []⟩) (fun k => l.length - k.1) ⟨0, by simp⟩ ?_ ?_⟩
  · refine SLe.row 3 95 8 ?_
    conv => whnf
    skip
    · refine SLe.of [] [(0, 0)] rfl rfl ?_
      conv => whnf
      repeat' (first
      | exact True.intro
      | (refine SAnd.mk (PLe.refl _) ?_; conv => whnf)
      | (refine SAnd.mk rfl ?_; conv => whnf))
  · rintro ⟨k, hk⟩
    refine codeK_sound good (mu := []) ?_
    conv => whnf
    refine SBool.mk (fun hcn => ?_) (fun hcn => ?_)
    · have hkl : k < l.length := by simpa using hcn
      have hs := some_at hkl mc
      have mk := sub_lt hkl
      have hts := take_map_succ hkl mc
      have hap : (∀ c ∈ [mc l[k]].flatten, c.one = true) ∧ (((l.take k).map mc).length + 1) * 72 ≤ 140737488355328 ∧ ((l.take k).map mc).length + 1 ≤ 9223372036854775807 := ⟨one_mc _, by rw [List.length_map, List.length_take]; omega, by rw [List.length_map, List.length_take]; omega⟩
      have wk := wsucc (k := k) (by omega)
      clear hcn
      conv => whnf
      skip
      conv => whnf
      repeat' (first
        | (rw [wk]; conv => whnf)
        | (refine SEx.mk _ (by first | exact hs | exact hap | exact single_pure _) ?_; conv => whnf)
        | (refine SAnd.mk (by first | exact hs | exact hap) ?_; conv => whnf)
        | fail)
      refine ⟨⟨k + 1, hkl⟩, mk, ?_⟩
      skip
      · refine SLe.of [] [(0, 2)] rfl rfl ?_
        conv => whnf
        repeat' (first
        | exact True.intro
        | (refine SAnd.mk (hts.symm) ?_; conv => whnf)
        | (refine SAnd.mk (PLe.refl _) ?_; conv => whnf))
    · have : k = l.length := by simp at hcn; omega
      subst this
      skip
      conv => whnf
      repeat' (first
        | fail)
      exact ⟨PLe.of_eq (by rw [List.take_length])⟩
def shortLandsB (l : List Ld) : Prop := (∀ a ∈ l, a.name.size ≤ 40) ∧ (l.length ≤ 6 ∨ l.length = 33)
theorem shortLands_pure {m : Int} (l : List Ld) (hl : l.length ≤ 9223372036854775807) : ∃ b : Bool, (b = true → shortLandsB l) ∧ APure (C m) 54 [.seq 4 (l.map lc)] (Bo b) := by
  have hlen : (((l.map lc).length : Nat) : Int) = l.length := by simp
  refine ⟨l.all (fun a => decide (a.name.size ≤ 40)) && decide (l.length ≤ 6 ∨ l.length = 33), fun h => ?_, ?_⟩
  · rw [Bool.and_eq_true, List.all_eq_true, decide_eq_true_eq] at h
    exact ⟨fun a ha => by simpa using h.1 a ha, h.2⟩
  · obtain ⟨V, hV⟩ : ∃ V, V = l.all (fun a => decide (a.name.size ≤ 40)) := ⟨_, rfl⟩
    rw [← hV]
    refine APure.of_body good [] (fn := Tryz.f54) (by kernel_rfl) (by kernel_rfl) rfl rfl (by kernel_rfl) rfl (by kernel_rfl) ?_
    conv => whnf
    repeat' (first
      | fail)
    refine ⟨AWp.loop (ι := { k : Nat // k ≤ l.length ∧ V = (l.drop k).all (fun a => decide (a.name.size ≤ 40)) }) (fun k => ⟨[(3, .p (I k.1)), (0, .p (.seq 4 (l.map lc)))], [], [], 0, [], [], []⟩) (fun k => l.length - k.1) ⟨0, by simp, by simpa using hV⟩ ?_ ?_⟩
    · skip
      · refine SLe.of [] [] rfl rfl ?_
        conv => whnf
        repeat' (first
        | exact True.intro
        | (refine SAnd.mk (PLe.refl _) ?_; conv => whnf))
    · rintro ⟨k, hk, he⟩
      clear hV
      refine codeK_sound good (mu := []) ?_
      conv => whnf
      refine SBool.mk (fun hcn => ?_) (fun hcn => ?_)
      · have hcn' : (k : Int) < (((l.map lc).length : Nat) : Int) := hcn
        rw [hlen] at hcn'
        have hkl : k < l.length := by omega
        have hs := some_at hkl lc
        have mk := sub_lt hkl
        have wk : wrapK IntKind.i64 ((k : Int) + 1) = k + 1 := wrap_id (by omega) (by omega)
        have hst : (l.drop k).all (fun a => decide (a.name.size ≤ 40)) = (decide (l[k].name.size ≤ 40) && (l.drop (k + 1)).all (fun a => decide (a.name.size ≤ 40))) := by rw [List.drop_eq_getElem_cons hkl, List.all_cons]
        rw [hst] at he
        clear hcn hcn' hst
        generalize l[k] = x at *
        by_cases hbig : x.name.size ≤ 40
        · rw [decide_eq_true hbig, Bool.true_and] at he
          have hbi : ¬ 40 < ((x.name.size : Nat) : Int) := by omega
          skip
          conv => whnf
          repeat' (first
            | (rw [wk]; conv => whnf)
            | (refine SBool.mk (fun h => ?_) (fun h => ?_) <;> conv => whnf)
            | (refine SEx.mk _ (by first | exact hs) ?_; conv => whnf)
            | fail)
          · exact absurd (by assumption) hbi
          · refine ⟨⟨k + 1, hkl, he⟩, mk, ?_⟩
            skip
            · refine SLe.of [] [] rfl rfl ?_
              conv => whnf
              repeat' (first
              | exact True.intro
              | (refine SAnd.mk (PLe.refl _) ?_; conv => whnf))
        · rw [decide_eq_false hbig, Bool.false_and] at he
          have hbi : 40 < ((x.name.size : Nat) : Int) := by omega
          subst he
          skip
          conv => whnf
          repeat' (first
            | (rw [wk]; conv => whnf)
            | (refine SBool.mk (fun h => ?_) (fun h => ?_) <;> conv => whnf)
            | (refine SEx.mk _ (by first | exact hs) ?_; conv => whnf)
            | fail)
          · exact ⟨PLe.of_eq (by rw [Bool.false_and])⟩
          · exact absurd hbi (by assumption)
      · have hcn' : ¬ (k : Int) < (((l.map lc).length : Nat) : Int) := hcn
        rw [hlen] at hcn'
        have hkl : k = l.length := by omega
        subst hkl
        rw [List.drop_length, List.all_nil] at he
        subst he
        rw [Bool.true_and]
        clear hcn hcn'
        skip
        conv => whnf
        repeat' (first
          | (rw [hlen]; conv => whnf)
          | (refine SBool.mk (fun h => ?_) (fun h => ?_) <;> conv => whnf)
          | fail)
        all_goals first
          | exact ⟨PLe.of_eq (congrArg Bo (decide_eq_true (by omega)).symm)⟩
          | exact ⟨PLe.of_eq (congrArg Bo (decide_eq_false (by omega)).symm)⟩
def shortMovesB (l : List Mv) : Prop := (∀ a ∈ l, a.name.size ≤ 40) ∧ (l.length ≤ 6 ∨ l.length = 33)
theorem shortMoves_pure {m : Int} (l : List Mv) (hl : l.length ≤ 9223372036854775807) : ∃ b : Bool, (b = true → shortMovesB l) ∧ APure (C m) 85 [.seq 8 (l.map mc)] (Bo b) := by
  have hlen : (((l.map mc).length : Nat) : Int) = l.length := by simp
  refine ⟨l.all (fun a => decide (a.name.size ≤ 40)) && decide (l.length ≤ 6 ∨ l.length = 33), fun h => ?_, ?_⟩
  · rw [Bool.and_eq_true, List.all_eq_true, decide_eq_true_eq] at h
    exact ⟨fun a ha => by simpa using h.1 a ha, h.2⟩
  · obtain ⟨V, hV⟩ : ∃ V, V = l.all (fun a => decide (a.name.size ≤ 40)) := ⟨_, rfl⟩
    rw [← hV]
    refine APure.of_body good [] (fn := Tryz.f85) (by kernel_rfl) (by kernel_rfl) rfl rfl (by kernel_rfl) rfl (by kernel_rfl) ?_
    conv => whnf
    repeat' (first
      | fail)
    refine ⟨AWp.loop (ι := { k : Nat // k ≤ l.length ∧ V = (l.drop k).all (fun a => decide (a.name.size ≤ 40)) }) (fun k => ⟨[(3, .p (I k.1)), (0, .p (.seq 8 (l.map mc)))], [], [], 0, [], [], []⟩) (fun k => l.length - k.1) ⟨0, by simp, by simpa using hV⟩ ?_ ?_⟩
    · skip
      · refine SLe.of [] [] rfl rfl ?_
        conv => whnf
        repeat' (first
        | exact True.intro
        | (refine SAnd.mk (PLe.refl _) ?_; conv => whnf))
    · rintro ⟨k, hk, he⟩
      clear hV
      refine codeK_sound good (mu := []) ?_
      conv => whnf
      refine SBool.mk (fun hcn => ?_) (fun hcn => ?_)
      · have hcn' : (k : Int) < (((l.map mc).length : Nat) : Int) := hcn
        rw [hlen] at hcn'
        have hkl : k < l.length := by omega
        have hs := some_at hkl mc
        have mk := sub_lt hkl
        have wk : wrapK IntKind.i64 ((k : Int) + 1) = k + 1 := wrap_id (by omega) (by omega)
        have hst : (l.drop k).all (fun a => decide (a.name.size ≤ 40)) = (decide (l[k].name.size ≤ 40) && (l.drop (k + 1)).all (fun a => decide (a.name.size ≤ 40))) := by rw [List.drop_eq_getElem_cons hkl, List.all_cons]
        rw [hst] at he
        clear hcn hcn' hst
        generalize l[k] = x at *
        by_cases hbig : x.name.size ≤ 40
        · rw [decide_eq_true hbig, Bool.true_and] at he
          have hbi : ¬ 40 < ((x.name.size : Nat) : Int) := by omega
          skip
          conv => whnf
          repeat' (first
            | (rw [wk]; conv => whnf)
            | (refine SBool.mk (fun h => ?_) (fun h => ?_) <;> conv => whnf)
            | (refine SEx.mk _ (by first | exact hs) ?_; conv => whnf)
            | fail)
          · exact absurd (by assumption) hbi
          · refine ⟨⟨k + 1, hkl, he⟩, mk, ?_⟩
            skip
            · refine SLe.of [] [] rfl rfl ?_
              conv => whnf
              repeat' (first
              | exact True.intro
              | (refine SAnd.mk (PLe.refl _) ?_; conv => whnf))
        · rw [decide_eq_false hbig, Bool.false_and] at he
          have hbi : 40 < ((x.name.size : Nat) : Int) := by omega
          subst he
          skip
          conv => whnf
          repeat' (first
            | (rw [wk]; conv => whnf)
            | (refine SBool.mk (fun h => ?_) (fun h => ?_) <;> conv => whnf)
            | (refine SEx.mk _ (by first | exact hs) ?_; conv => whnf)
            | fail)
          · exact ⟨PLe.of_eq (by rw [Bool.false_and])⟩
          · exact absurd hbi (by assumption)
      · have hcn' : ¬ (k : Int) < (((l.map mc).length : Nat) : Int) := hcn
        rw [hlen] at hcn'
        have hkl : k = l.length := by omega
        subst hkl
        rw [List.drop_length, List.all_nil] at he
        subst he
        rw [Bool.true_and]
        clear hcn hcn'
        skip
        conv => whnf
        repeat' (first
          | (rw [hlen]; conv => whnf)
          | (refine SBool.mk (fun h => ?_) (fun h => ?_) <;> conv => whnf)
          | fail)
        all_goals first
          | exact ⟨PLe.of_eq (congrArg Bo (decide_eq_true (by omega)).symm)⟩
          | exact ⟨PLe.of_eq (congrArg Bo (decide_eq_false (by omega)).symm)⟩
end Go.Proofs.Ab.Area
end
section
/- Areas handed over: with polygons of their own; short areas; what applies; conflicts compared. -/
set_option maxRecDepth 100000
set_option linter.unusedVariables false
set_option linter.unusedSimpArgs false
namespace Go.Proofs.Ab.Area
open Go Go.RowKit Go.Proofs.Ab
theorem owned_pure {m : Int} (l : List Ar) (hl : l.length ≤ 1000000) (hp : ∀ a ∈ l, a.poly.length ≤ 1000000) : APure (C m) 113 [.seq 4 (l.map ac)] (.seq 4 (l.map ac)) := by
  have hlen : (((l.map ac).length : Nat) : Int) = l.length := by simp
  refine APure.of_body good [] (fn := Tryz.f113) (by kernel_rfl) (by kernel_rfl) rfl rfl (by kernel_rfl) rfl (by kernel_rfl) ?_
  conv => whnf
  repeat' (first
    | fail)
  refine ⟨AWp.loop (ι := { k : Nat // k ≤ l.length }) (fun k => ⟨[(4, .p (I k.1)), (0, .p (.seq 4 (l.map ac))), (3, .own 0)], [], [(0, (178, 4, (l.take k.1).map ac))], 1, [], [], []⟩) (fun k => l.length - k.1) ⟨0, by simp⟩ ?_ ?_⟩
  · refine SLe.row 3 178 4 ?_
    conv => whnf
    skip
    · refine SLe.of [] [(0, 0)] rfl rfl ?_
      conv => whnf
      repeat' (first
      | exact True.intro
      | (refine SAnd.mk (PLe.refl _) ?_; conv => whnf)
      | (refine SAnd.mk rfl ?_; conv => whnf))
  · rintro ⟨k, hk⟩
    refine codeK_sound good (mu := [5, 1016]) ?_
    conv => whnf
    refine SBool.mk (fun hcn => ?_) (fun hcn => ?_)
    · have hcn' : (k : Int) < (((l.map ac).length : Nat) : Int) := hcn
      rw [hlen] at hcn'
      have hkl : k < l.length := by omega
      have hs := some_at hkl ac
      have mk := sub_lt hkl
      have hts := take_map_succ hkl ac
      have hpk := hp _ (List.getElem_mem hkl)
      have hone : ∀ c ∈ (l[k].poly.map pc).flatten, c.one = true := fun c hc => by
        simp only [List.mem_flatten, List.mem_map] at hc
        obtain ⟨x, ⟨p, _, rfl⟩, hx⟩ := hc
        simp at hx
        rcases hx with rfl | rfl <;> rfl
      have hbds : (∀ c ∈ (l[k].poly.map pc).flatten, c.one = true) ∧ (([] : List (List PV)).length + (l[k].poly.map pc).length) * 16 ≤ 140737488355328 ∧ ([] : List (List PV)).length + (l[k].poly.map pc).length ≤ 9223372036854775807 := ⟨hone, by simp only [List.length_nil, List.length_map]; omega, by simp only [List.length_nil, List.length_map]; omega⟩
      have hap : (∀ c ∈ [ac l[k]].flatten, c.one = true) ∧ (((l.take k).map ac).length + 1) * 56 ≤ 140737488355328 ∧ ((l.take k).map ac).length + 1 ≤ 9223372036854775807 := ⟨one_ac _, by rw [List.length_map, List.length_take]; omega, by rw [List.length_map, List.length_take]; omega⟩
      have wk := wsucc (k := k) (by omega)
      clear hcn hcn'
      conv => whnf
      skip
      conv => whnf
      repeat' (first
        | (rw [wk]; conv => whnf)
        | (refine SEx.mk _ (by first | exact hs | exact hbds | exact hap) ?_; conv => whnf)
        | (refine SAnd.mk (by first | exact hs | exact hbds | exact hap) ?_; conv => whnf)
        | fail)
      refine ⟨⟨k + 1, hkl⟩, mk, ?_⟩
      skip
      · refine SLe.of [] [(0, 4)] rfl rfl ?_
        conv => whnf
        repeat' (first
        | exact True.intro
        | (refine SAnd.mk (hts.symm) ?_; conv => whnf)
        | (refine SAnd.mk (PLe.refl _) ?_; conv => whnf))
    · have hcn' : ¬ (k : Int) < (((l.map ac).length : Nat) : Int) := hcn
      rw [hlen] at hcn'
      have : k = l.length := by omega
      subst this
      skip
      conv => whnf
      repeat' (first
        | fail)
      exact ⟨PLe.of_eq (by rw [List.take_length])⟩
theorem given_pure {m : Int} (l : List Ar) (hl : l.length ≤ 1000000) (hp : ∀ a ∈ l, a.poly.length ≤ 1000000) : APure (C m) 29 [.seq 4 (l.map ac)] (.seq 4 (l.map ac)) := by
  have hlen : (((l.map ac).length : Nat) : Int) = l.length := by simp
  have hown := owned_pure (m := m) l hl hp
  refine APure.of_body good [] (fn := Tryz.f29) (by kernel_rfl) (by kernel_rfl) rfl rfl (by kernel_rfl) rfl (by kernel_rfl) ?_
  conv => whnf
  repeat' (first
    | (rw [hlen]; conv => whnf)
    | (refine SEx.mk _ (by first | exact hown) ?_; conv => whnf)
    | fail)
  refine ⟨AWp.loop (ι := { k : Nat // k ≤ l.length }) (fun k => ⟨[(9, .p (I k.1)), (8, .p (I l.length)), (7, .p (.seq 4 (l.map ac))), (3, .own 0)], [], [(0, (181, 4, (l.take k.1).map ac))], 1, [], [], []⟩) (fun k => l.length - k.1) ⟨0, by simp⟩ ?_ ?_⟩
  · refine SLe.row 3 181 4 ?_
    conv => whnf
    skip
    · refine SLe.of [] [(0, 0)] rfl rfl ?_
      conv => whnf
      repeat' (first
      | exact True.intro
      | (refine SAnd.mk (PLe.refl _) ?_; conv => whnf)
      | (refine SAnd.mk rfl ?_; conv => whnf))
  · rintro ⟨k, hk⟩
    refine codeK_sound good (mu := []) ?_
    conv => whnf
    refine SBool.mk (fun hcn => ?_) (fun hcn => ?_)
    · have hkl : k < l.length := by simpa using hcn
      have hs := some_at hkl ac
      have mk := sub_lt hkl
      have hts := take_map_succ hkl ac
      have hap : (∀ c ∈ [ac l[k]].flatten, c.one = true) ∧ (((l.take k).map ac).length + 1) * 56 ≤ 140737488355328 ∧ ((l.take k).map ac).length + 1 ≤ 9223372036854775807 := ⟨one_ac _, by rw [List.length_map, List.length_take]; omega, by rw [List.length_map, List.length_take]; omega⟩
      have wk := wsucc (k := k) (by omega)
      clear hcn
      conv => whnf
      skip
      conv => whnf
      repeat' (first
        | (rw [wk]; conv => whnf)
        | (refine SEx.mk _ (by first | exact hs | exact hap) ?_; conv => whnf)
        | (refine SAnd.mk (by first | exact hs | exact hap) ?_; conv => whnf)
        | fail)
      refine ⟨⟨k + 1, hkl⟩, mk, ?_⟩
      skip
      · refine SLe.of [] [(0, 2)] rfl rfl ?_
        conv => whnf
        repeat' (first
        | exact True.intro
        | (refine SAnd.mk (hts.symm) ?_; conv => whnf)
        | (refine SAnd.mk (PLe.refl _) ?_; conv => whnf))
    · have : k = l.length := by simp at hcn; omega
      subst this
      skip
      conv => whnf
      repeat' (first
        | fail)
      exact ⟨PLe.of_eq (by rw [List.take_length])⟩
def shortAreasB (l : List Ar) : Prop := (∀ a ∈ l, a.name.size ≤ 40 ∧ a.poly.length ≤ 9) ∧ (l.length ≤ 4 ∨ l.length = 17)
theorem shortAreas_pure {m : Int} (l : List Ar) (hl : l.length ≤ 9223372036854775807) : ∃ b : Bool, (b = true → shortAreasB l) ∧ APure (C m) 26 [.seq 4 (l.map ac)] (Bo b) := by
  have hlen : (((l.map ac).length : Nat) : Int) = l.length := by simp
  refine ⟨l.all (fun a => decide (a.name.size ≤ 40 ∧ a.poly.length ≤ 9)) && decide (l.length ≤ 4 ∨ l.length = 17), fun h => ?_, ?_⟩
  · rw [Bool.and_eq_true, List.all_eq_true, decide_eq_true_eq] at h
    exact ⟨fun a ha => by simpa using h.1 a ha, h.2⟩
  · obtain ⟨V, hV⟩ : ∃ V, V = l.all (fun a => decide (a.name.size ≤ 40 ∧ a.poly.length ≤ 9)) := ⟨_, rfl⟩
    rw [← hV]
    refine APure.of_body good [] (fn := Tryz.f26) (by kernel_rfl) (by kernel_rfl) rfl rfl (by kernel_rfl) rfl (by kernel_rfl) ?_
    conv => whnf
    repeat' (first
      | fail)
    refine ⟨AWp.loop (ι := { k : Nat // k ≤ l.length ∧ V = (l.drop k).all (fun a => decide (a.name.size ≤ 40 ∧ a.poly.length ≤ 9)) }) (fun k => ⟨[(3, .p (I k.1)), (0, .p (.seq 4 (l.map ac)))], [], [], 0, [], [], []⟩) (fun k => l.length - k.1) ⟨0, by simp, by simpa using hV⟩ ?_ ?_⟩
    · skip
      · refine SLe.of [] [] rfl rfl ?_
        conv => whnf
        repeat' (first
        | exact True.intro
        | (refine SAnd.mk (PLe.refl _) ?_; conv => whnf))
    · rintro ⟨k, hk, he⟩
      clear hV
      refine codeK_sound good (mu := []) ?_
      conv => whnf
      refine SBool.mk (fun hcn => ?_) (fun hcn => ?_)
      · have hcn' : (k : Int) < (((l.map ac).length : Nat) : Int) := hcn
        rw [hlen] at hcn'
        have hkl : k < l.length := by omega
        have hs := some_at hkl ac
        have mk := sub_lt hkl
        have wk : wrapK IntKind.i64 ((k : Int) + 1) = k + 1 := wrap_id (by omega) (by omega)
        have hst : (l.drop k).all (fun a => decide (a.name.size ≤ 40 ∧ a.poly.length ≤ 9)) = (decide (l[k].name.size ≤ 40 ∧ l[k].poly.length ≤ 9) && (l.drop (k + 1)).all (fun a => decide (a.name.size ≤ 40 ∧ a.poly.length ≤ 9))) := by rw [List.drop_eq_getElem_cons hkl, List.all_cons]
        rw [hst] at he
        clear hcn hcn' hst
        generalize l[k] = x at *
        by_cases hbig : x.name.size ≤ 40 ∧ x.poly.length ≤ 9
        · rw [decide_eq_true hbig, Bool.true_and] at he
          have hbi : ¬ 40 < ((x.name.size : Nat) : Int) := by omega
          have hbp : ¬ 9 < (((x.poly.map pc).length : Nat) : Int) := by rw [List.length_map]; omega
          skip
          conv => whnf
          repeat' (first
            | (rw [wk]; conv => whnf)
            | (refine SBool.mk (fun h => ?_) (fun h => ?_) <;> conv => whnf)
            | (refine SEx.mk _ (by first | exact hs) ?_; conv => whnf)
            | fail)
          · exact absurd (by assumption) hbi
          · exact absurd (by assumption) hbp
          · refine ⟨⟨k + 1, hkl, he⟩, mk, ?_⟩
            skip
            · refine SLe.of [] [] rfl rfl ?_
              conv => whnf
              repeat' (first
              | exact True.intro
              | (refine SAnd.mk (PLe.refl _) ?_; conv => whnf))
        · rw [decide_eq_false hbig, Bool.false_and] at he
          have hbi : 40 < ((x.name.size : Nat) : Int) ∨ 9 < (((x.poly.map pc).length : Nat) : Int) := by rw [List.length_map]; omega
          subst he
          skip
          conv => whnf
          repeat' (first
            | (rw [wk]; conv => whnf)
            | (refine SBool.mk (fun h => ?_) (fun h => ?_) <;> conv => whnf)
            | (refine SEx.mk _ (by first | exact hs) ?_; conv => whnf)
            | fail)
          · exact ⟨PLe.of_eq (by rw [Bool.false_and])⟩
          · exact ⟨PLe.of_eq (by rw [Bool.false_and])⟩
          · rcases hbi with hb | hb <;> exact absurd hb (by assumption)
      · have hcn' : ¬ (k : Int) < (((l.map ac).length : Nat) : Int) := hcn
        rw [hlen] at hcn'
        have hkl : k = l.length := by omega
        subst hkl
        rw [List.drop_length, List.all_nil] at he
        subst he
        rw [Bool.true_and]
        clear hcn hcn'
        skip
        conv => whnf
        repeat' (first
          | (rw [hlen]; conv => whnf)
          | (refine SBool.mk (fun h => ?_) (fun h => ?_) <;> conv => whnf)
          | fail)
        all_goals first
          | exact ⟨PLe.of_eq (congrArg Bo (decide_eq_true (by omega)).symm)⟩
          | exact ⟨PLe.of_eq (congrArg Bo (decide_eq_false (by omega)).symm)⟩
end Go.Proofs.Ab.Area
end
section
/- The reference's Usable. -/
set_option maxRecDepth 100000
set_option linter.unusedVariables false
set_option linter.unusedSimpArgs false
namespace Go.Proofs.Ab.Area
open Go Go.RowKit Go.Proofs.Ab
end Go.Proofs.Ab.Area
end
section
/- The reference's Conflicts, Permitted, Clear. -/
set_option maxRecDepth 100000
set_option linter.unusedVariables false
set_option linter.unusedSimpArgs false
namespace Go.Proofs.Ab.Area
open Go Go.RowKit Go.Proofs.Ab
structure Good3 (areas : List Ar) (lands : List Ld) (moves : List Mv) : Prop where
  ha : areas.length ≤ 1000
  hl : lands.length ≤ 1000
  hm : moves.length ≤ 1000
  hp : ∀ a ∈ areas, 0 < a.poly.length ∧ a.poly.length ≤ 1000 ∧ ∀ q ∈ a.poly, q.Fit
  hlt : ∀ x ∈ lands, x.lo < x.hi
  hmt : ∀ x ∈ moves, x.lo < x.hi ∧ x.box.Fit
end Go.Proofs.Ab.Area
end
section
/- The reference's Conflicts, Permitted. -/
set_option maxRecDepth 100000
set_option linter.unusedVariables false
set_option linter.unusedSimpArgs false
namespace Go.Proofs.Ab.Area
open Go Go.RowKit Go.Proofs.Ab
end Go.Proofs.Ab.Area
end
section
/- The reference's Clear. -/
set_option maxRecDepth 100000
set_option linter.unusedVariables false
set_option linter.unusedSimpArgs false
namespace Go.Proofs.Ab.Area
open Go Go.RowKit Go.Proofs.Ab
def qC (t : Int) (lands : List Ld) (moves : List Mv) (c : Cf) : Bool := hasT t (lands.getD c.l.toNat default) (moves.getD c.m.toNat default)
theorem any_confA (q : Cf → Bool) (areas : List Ar) (l : Ld) (x : Mv) (i k : Nat) : ∀ n, (confA areas l x i k n).any q = (List.range n).any fun j => gA areas l x j && q ⟨i, k, j⟩
  | 0 => rfl
  | n + 1 => by
    rw [confA_succ, List.any_append, range_any, any_confA q areas l x i k n]
    cases gA areas l x n <;> simp
theorem any_confM (q : Cf → Bool) (areas : List Ar) (moves : List Mv) (l : Ld) (i : Nat) : ∀ k, (confM areas moves l i k).any q = (List.range k).any fun k' => (List.range areas.length).any fun j => gA areas l (moves.getD k' default) j && q ⟨i, k', j⟩
  | 0 => rfl
  | k + 1 => by
    rw [confM, List.any_append, range_any, any_confM q areas moves l i k, any_confA]
theorem any_confL (q : Cf → Bool) (areas : List Ar) (lands : List Ld) (moves : List Mv) : ∀ i, (confL areas lands moves i).any q = (List.range i).any fun i' => (List.range moves.length).any fun k' => (List.range areas.length).any fun j => gA areas (lands.getD i' default) (moves.getD k' default) j && q ⟨i', k', j⟩
  | 0 => rfl
  | i + 1 => by
    rw [confL, List.any_append, range_any, any_confL q areas lands moves i, any_confM]
theorem clear_any (l : List Ar) (x : List Ld) (y : List Mv) (t : Int) : clearL l x y t = !(conf l x y).any (qC t x y) := by
  unfold clearL conf
  rw [any_confL]
  rfl
theorem mem_confA {areas : List Ar} {l : Ld} {x : Mv} {i k : Nat} {c : Cf} : ∀ {n}, c ∈ confA areas l x i k n → ∃ j < n, gA areas l x j = true ∧ c = ⟨i, k, j⟩
  | 0, h => by simp [confA] at h
  | n + 1, h => by
    rw [confA_succ] at h
    rcases List.mem_append.1 h with h | h
    · obtain ⟨j, h1, h2⟩ := mem_confA h
      exact ⟨j, by omega, h2⟩
    · split at h
      · rename_i hg
        exact ⟨n, by omega, hg, by simpa using h⟩
      · simp at h
theorem mem_confM {areas : List Ar} {moves : List Mv} {l : Ld} {i : Nat} {c : Cf} : ∀ {k}, c ∈ confM areas moves l i k → ∃ k' < k, ∃ j < areas.length, gA areas l (moves.getD k' default) j = true ∧ c = ⟨i, k', j⟩
  | 0, h => by simp [confM] at h
  | k + 1, h => by
    rw [confM] at h
    rcases List.mem_append.1 h with h | h
    · obtain ⟨k', h1, h2⟩ := mem_confM h
      exact ⟨k', by omega, h2⟩
    · obtain ⟨j, h1, h2⟩ := mem_confA h
      exact ⟨k, by omega, j, h1, h2⟩
theorem mem_confL {areas : List Ar} {lands : List Ld} {moves : List Mv} {c : Cf} : ∀ {i}, c ∈ confL areas lands moves i → ∃ i' < i, ∃ k' < moves.length, ∃ j < areas.length, gA areas (lands.getD i' default) (moves.getD k' default) j = true ∧ c = ⟨i', k', j⟩
  | 0, h => by simp [confL] at h
  | i + 1, h => by
    rw [confL] at h
    rcases List.mem_append.1 h with h | h
    · obtain ⟨i', h1, h2⟩ := mem_confL h
      exact ⟨i', by omega, h2⟩
    · obtain ⟨k', h1, h2⟩ := mem_confM h
      exact ⟨i, by omega, k', h1, h2⟩
end Go.Proofs.Ab.Area
end
section
/- The reference's Earliest. -/
set_option maxRecDepth 100000
set_option linter.unusedVariables false
set_option linter.unusedSimpArgs false
namespace Go.Proofs.Ab.Area
open Go Go.RowKit Go.Proofs.Ab
structure ErlOk (areas : List Ar) (lands : List Ld) (x : Mv) (d : Int) : Prop where
  g : Good3 areas lands [x]
  lo : 0 ≤ x.lo ∧ x.lo ≤ 100000000
  d0 : 0 < d ∧ d ≤ 10000
  hh : ∀ l ∈ lands, 0 ≤ l.hi ∧ l.hi ≤ 100000000
theorem ErlOk.at {areas : List Ar} {lands : List Ld} {x : Mv} {d : Int} (h : ErlOk areas lands x d) (t : Int) : Good3 areas lands [atT x t d] :=
  ⟨h.g.ha, h.g.hl, by simp, h.g.hp, h.g.hlt, fun y hy => by
    have hy : y = atT x t d := by simpa using hy
    subst hy
    exact ⟨by show t < t + d; have := h.d0; omega, (h.g.hmt x (by simp)).2⟩⟩
end Go.Proofs.Ab.Area
end
section
/- The law of what applies. -/
set_option maxRecDepth 100000
set_option linter.unusedVariables false
set_option linter.unusedSimpArgs false
namespace Go.Proofs.Ab.Area
open Go Go.RowKit Go.Proofs.Ab
section
attribute [local irreducible] APure
end
end Go.Proofs.Ab.Area
end
section
/- The law of the conflicts. -/
set_option maxRecDepth 100000
set_option linter.unusedVariables false
set_option linter.unusedSimpArgs false
namespace Go.Proofs.Ab.Area
open Go Go.RowKit Go.Proofs.Ab
abbrev trc (x : List Ld) (y : List Mv) (t : Int) : List PV := [.seq 4 (x.map lc), .seq 8 (y.map mc), I t]
section
attribute [local irreducible] APure
end
theorem lands_good {x : List Ld} (h : landsE x = 0) : x.length ≤ 32 ∧ ∀ a ∈ x, 0 ≤ a.lo ∧ a.lo < a.hi ∧ a.hi ≤ 100000000 := by
  have h1 := lands_ok h
  exact ⟨h1.1, fun a ha => land_ticks (h1.2 a ha)⟩
theorem moves_good {x : List Mv} (h : movesE x = 0) : x.length ≤ 32 ∧ ∀ a ∈ x, (0 ≤ a.lo ∧ a.lo < a.hi ∧ a.hi ≤ 100000000) ∧ a.box.Fit := by
  have h1 := moves_ok h
  exact ⟨h1.1, fun a ha => ⟨move_ticks (h1.2 a ha), move_fit (h1.2 a ha)⟩⟩
theorem countM {areas : List Ar} (moves : List Mv) (l : Ld) (i : Nat) : ∀ k, (confM areas moves l i k).length ≤ k * areas.length
  | 0 => by simp [confM]
  | k + 1 => by
    have ih := countM (areas := areas) moves l i k
    have := confA_len areas l (moves.getD k default) i k areas.length
    rw [confM, List.length_append, Nat.succ_mul]
    omega
theorem countL {areas : List Ar} (lands : List Ld) (moves : List Mv) : ∀ i, (confL areas lands moves i).length ≤ i * (moves.length * areas.length)
  | 0 => by simp [confL]
  | i + 1 => by
    have ih := countL (areas := areas) lands moves i
    have := countM (areas := areas) moves (lands.getD i default) i moves.length
    rw [confL, List.length_append, Nat.succ_mul]
    omega
theorem conf_count (l : List Ar) (x : List Ld) (y : List Mv) : (conf l x y).length ≤ x.length * y.length * l.length := by
  have := countL (areas := l) x y x.length
  rw [Nat.mul_assoc]
  exact this
end Go.Proofs.Ab.Area
end
section
/- The law of the moves. -/
set_option maxRecDepth 100000
set_option linter.unusedVariables false
set_option linter.unusedSimpArgs false
namespace Go.Proofs.Ab.Area
open Go Go.RowKit Go.Proofs.Ab
theorem moves_one (y : Mv) : movesE [y] = firstOf [if nameB y.name then 0 else 8, moveE y] := by
  have e : movesE [y] = if firstOf [if nameB y.name then 0 else 8, 0, moveE y] = 0 then 0 else firstOf [if nameB y.name then 0 else 8, 0, moveE y] := rfl
  have e2 : firstOf [if nameB y.name then 0 else 8, 0, moveE y] = firstOf [if nameB y.name then 0 else 8, moveE y] := by cases nameB y.name <;> rfl
  rw [e, e2]
  by_cases h : firstOf [if nameB y.name then 0 else 8, moveE y] = 0
  · rw [if_pos h, h]
  · rw [if_neg h]
section
attribute [local irreducible] APure
end
end Go.Proofs.Ab.Area
end
section
/- A law on conflicts: plain laws. -/
set_option linter.unusedVariables false
set_option linter.unusedSimpArgs false
namespace Go.Proofs.Ab.Area
open Go Go.Proofs.Ab
theorem named_all : ∀ (r : List (ByteArray × Int)) (k k' : List ByteArray), (∀ s ∈ k', s ∈ k) → namedF k r = 0 → namedF k' r = 0 ∧ ∀ a ∈ r, nameB a.1 = true ∧ a.2 = 0
  | [], k, k', _, _ => ⟨rfl, fun a ha => by cases ha⟩
  | x :: r, k, k', hs, h => by
    rw [namedF] at h
    by_cases h0 : firstOf [if nameB x.1 then 0 else 8, if knownB k x.1 then 9 else 0, x.2] = 0
    · rw [if_pos h0] at h
      rw [firstOf_zero, firstOf_zero, firstOf_zero] at h0
      obtain ⟨a1, a2, a3, _⟩ := h0
      have b1 : nameB x.1 = true := by
        cases hn : nameB x.1
        · rw [hn] at a1; exact absurd a1 (by decide)
        · rfl
      have b2 : knownB k' x.1 = false := by
        cases hk : knownB k' x.1
        · rfl
        · unfold knownB at hk
          rw [List.any_eq_true] at hk
          obtain ⟨s, hs', he⟩ := hk
          have : knownB k x.1 = true := by unfold knownB; rw [List.any_eq_true]; exact ⟨s, hs s hs', he⟩
          rw [this] at a2
          exact absurd a2 (by decide)
      have ih := named_all r (k ++ [x.1]) (k' ++ [x.1]) (fun s h => by
        rcases List.mem_append.1 h with h | h
        · exact List.mem_append.2 (.inl (hs s h))
        · exact List.mem_append.2 (.inr h)) h
      refine ⟨?_, fun a ha => ?_⟩
      · rw [namedF, if_pos]
        · exact ih.1
        · rw [firstOf_zero, firstOf_zero, firstOf_zero, b1, b2]
          exact ⟨rfl, rfl, a3, rfl⟩
      · rcases List.mem_cons.1 ha with rfl | ha
        · exact ⟨b1, a3⟩
        · exact ih.2 a ha
    · rw [if_neg h0] at h
      exact absurd h h0
theorem named_zero {most : Int} {r : List (ByteArray × Int)} (h : namedE most r = 0) : (r.length : Int) ≤ most ∧ namedF [] r = 0 := by
  unfold namedE at h
  by_cases hm : most < r.length
  · rw [if_pos hm] at h; exact absurd h (by decide)
  · rw [if_neg hm] at h; exact ⟨by omega, h⟩
theorem named_tail {most : Int} {r : List (ByteArray × Int)} (h : namedE most r = 0) : namedE most (r.drop 1) = 0 := by
  obtain ⟨h1, h2⟩ := named_zero h
  unfold namedE
  rw [if_neg (by rw [List.length_drop]; omega)]
  cases r with
  | nil => exact h2
  | cons a r =>
    rw [namedF] at h2
    by_cases h0 : firstOf [if nameB a.1 then 0 else 8, if knownB [] a.1 then 9 else 0, a.2] = 0
    · rw [if_pos h0] at h2
      exact (named_all r _ [] (fun s hs => by cases hs) h2).1
    · rw [if_neg h0] at h2
      exact absurd h2 h0
theorem areas_tail {l : List Ar} (h : areasE l = 0) : areasE (l.drop 1) = 0 := by
  unfold areasE at *
  rw [List.map_drop]
  exact named_tail h
theorem lands_tail {l : List Ld} (h : landsE l = 0) : landsE (l.drop 1) = 0 := by
  unfold landsE at *
  rw [List.map_drop]
  exact named_tail h
theorem moves_one_of {y : List Mv} (h : movesE y = 0) {v w : Mv} (hv : v ∈ y) (hn : w.name = v.name) (hw : moveE w = 0) : movesE [w] = 0 := by
  obtain ⟨_, h2⟩ := named_zero h
  have h3 := ((named_all _ [] [] (fun s h => h) h2).2 _ (List.mem_map_of_mem (f := fun a : Mv => (a.name, moveE a)) hv)).1
  rw [moves_one, hn, hw, show nameB v.name = true from h3]
  rfl
theorem scene_of {l : List Ar} {x : List Ld} {y : List Mv} : sceneE l x y = 0 ↔ areasE l = 0 ∧ landsE x = 0 ∧ movesE y = 0 := by
  unfold sceneE
  rw [firstOf_zero, firstOf_zero, firstOf_zero]
  exact ⟨fun h => ⟨h.1, h.2.1, h.2.2.1⟩, fun h => ⟨h.1, h.2.1, h.2.2, rfl⟩⟩
theorem move_of {w : Mv} : moveE w = 0 ↔ (0 ≤ w.size ∧ w.size ≤ 3) ∧ boxE w.box = 0 ∧ 0 ≤ w.lo ∧ w.lo < w.hi ∧ w.hi ≤ 100000000 := by
  unfold moveE sizeE within ticksE
  rw [firstOf_zero, firstOf_zero, firstOf_zero]
  constructor
  · rintro ⟨h1, h2, h3, _⟩
    refine ⟨?_, h2, ?_⟩
    · by_cases h : w.size < 0 ∨ 3 < w.size
      · rw [if_pos (by omega)] at h1; exact absurd h1 (by decide)
      · omega
    · by_cases h : w.lo < 0 ∨ w.hi ≤ w.lo ∨ 100000000 < w.hi
      · rw [if_pos h] at h3; exact absurd h3 (by decide)
      · omega
  · rintro ⟨h1, h2, h3⟩
    exact ⟨if_neg (by omega), h2, if_neg (by omega), rfl⟩
/-- Permitted, with no search. -/
theorem perm_iff {A : List Ar} {L : List Ld} {y : Mv} : permB A L y = false ↔ ∃ i < L.length, ∃ j < A.length, gA A (L.getD i default) y j = true := by
  rw [permB_eq, Bool.not_eq_false', List.any_eq_true]
  have one : ∀ i, gL A L [y] i = (List.range A.length).any (gA A (L.getD i default) y) := fun i => by
    unfold gL gM
    simp
  constructor
  · rintro ⟨i, hi, h⟩
    rw [one, List.any_eq_true] at h
    obtain ⟨j, hj, h⟩ := h
    exact ⟨i, List.mem_range.1 hi, j, List.mem_range.1 hj, h⟩
  · rintro ⟨i, hi, j, hj, h⟩
    refine ⟨i, List.mem_range.2 hi, ?_⟩
    rw [one, List.any_eq_true]
    exact ⟨j, List.mem_range.2 hj, h⟩
theorem conf_iff {A : List Ar} {L : List Ld} {X : List Mv} (q : Cf → Bool) : (conf A L X).any q = true ↔ ∃ i < L.length, ∃ k < X.length, ∃ j < A.length, gA A (L.getD i default) (X.getD k default) j = true ∧ q ⟨i, k, j⟩ = true := by
  unfold conf
  rw [any_confL]
  simp only [List.any_eq_true, List.mem_range, Bool.and_eq_true]
theorem perm_has {A : List Ar} {L : List Ld} {X : List Mv} {i : Nat} (hi : i < X.length) : permB A L X[i] = !(conf A L X).any fun c => decide (c.m = i) := by
  cases hp : permB A L X[i]
  · rw [perm_iff] at hp
    obtain ⟨a, ha, j, hj, h⟩ := hp
    have : ((conf A L X).any fun c => decide (c.m = i)) = true := (conf_iff _).2 ⟨a, ha, i, hi, j, hj, by rw [getD_lt hi]; exact h, decide_eq_true rfl⟩
    rw [this]
    rfl
  · cases hc : (conf A L X).any fun c => decide (c.m = i)
    · rfl
    · obtain ⟨a, ha, k, hk, j, hj, h, hq⟩ := (conf_iff _).1 hc
      have hki : k = i := by have := of_decide_eq_true hq; simp only at this; omega
      subst hki
      rw [getD_lt hi] at h
      rw [perm_iff.2 ⟨a, ha, j, hj, h⟩] at hp
      exact absurd hp (by decide)
theorem perm_great {A : List Ar} {L : List Ld} {y : Mv} (hs : y.size ≤ 3) (h : permB A L { y with size := 3 } = true) : permB A L y = true := by
  cases hp : permB A L y
  · rw [perm_iff] at hp
    obtain ⟨i, hi, j, hj, hg⟩ := hp
    have : permB A L { y with size := 3 } = false := perm_iff.2 ⟨i, hi, j, hj, by
      unfold gA againstB appliesB at *
      simp only [Bool.and_eq_true, decide_eq_true_eq] at *
      exact ⟨⟨hg.1.1, by omega, hg.1.2.2⟩, hg.2⟩⟩
    rw [this] at h
    exact absurd h (by decide)
  · rfl
theorem clear_iff {A : List Ar} {L : List Ld} {X : List Mv} {t : Int} : clearL A L X t = false ↔ ∃ i < L.length, ∃ k < X.length, ∃ j < A.length, gA A (L.getD i default) (X.getD k default) j = true ∧ hasT t (L.getD i default) (X.getD k default) = true := by
  rw [clear_any, Bool.not_eq_false', conf_iff]
  rfl
theorem clear_perm {A : List Ar} {L : List Ld} {X : List Mv} {t : Int} (h : ∀ y ∈ X, permB A L y = true) : clearL A L X t = true := by
  cases hc : clearL A L X t
  · obtain ⟨i, hi, k, hk, j, hj, hg, _⟩ := clear_iff.1 hc
    rw [getD_lt hk] at hg
    have := h _ (List.getElem_mem hk)
    rw [perm_iff.2 ⟨i, hi, j, hj, hg⟩] at this
    exact absurd this (by decide)
  · rfl
theorem clear_has {A : List Ar} {L : List Ld} {X : List Mv} {t : Int} (h : clearL A L X t = false) : (L.any fun l => hasB l.lo l.hi t) = true ∧ (X.any fun y => hasB y.lo y.hi t) = true := by
  obtain ⟨i, hi, k, hk, j, hj, _, ht⟩ := clear_iff.1 h
  rw [getD_lt hi, getD_lt hk] at ht
  unfold hasT at ht
  rw [Bool.and_eq_true] at ht
  exact ⟨List.any_eq_true.2 ⟨_, List.getElem_mem hi, ht.1⟩, List.any_eq_true.2 ⟨_, List.getElem_mem hk, ht.2⟩⟩
theorem lenA_tail (A : List Ar) (l : Ld) (x : Mv) (i k i' k' : Nat) : ∀ n, (confA (A.drop 1) l x i k n).length ≤ (confA A l x i' k' (n + 1)).length := fun n => by
  unfold confA
  rw [List.length_map, List.length_map, List.range_succ_eq_map, List.filter_cons]
  have e : ((List.range n).map Nat.succ).filter (fun j => againstB l x (A.getD j default)) = ((List.range n).filter fun j => againstB l x ((A.drop 1).getD j default)).map Nat.succ := by
    rw [List.filter_map]
    congr 1
    refine List.filter_congr fun j _ => ?_
    show againstB l x (A.getD (j + 1) default) = againstB l x ((A.drop 1).getD j default)
    rw [List.getD_eq_getElem?_getD, List.getD_eq_getElem?_getD, List.getElem?_drop, Nat.add_comm 1 j]
  split
  · rw [List.length_cons, e, List.length_map]; omega
  · rw [e, List.length_map]; omega
theorem lenM_tail (A : List Ar) (X : List Mv) (l : Ld) (i i' : Nat) : ∀ k, (confM (A.drop 1) X l i k).length ≤ (confM A X l i' k).length
  | 0 => by simp [confM]
  | k + 1 => by
    have ih := lenM_tail A X l i i' k
    rw [confM, confM, List.length_append, List.length_append]
    have : (confA (A.drop 1) l (X.getD k default) i k (A.drop 1).length).length ≤ (confA A l (X.getD k default) i' k A.length).length := by
      cases A with
      | nil => simp [confA]
      | cons a A => exact lenA_tail (a :: A) l _ i k i' k A.length
    omega
theorem lenL_tail (A : List Ar) (L : List Ld) (X : List Mv) : ∀ i, (confL (A.drop 1) L X i).length ≤ (confL A L X i).length
  | 0 => by simp [confL]
  | i + 1 => by
    have ih := lenL_tail A L X i
    have := lenM_tail A X (L.getD i default) i i X.length
    rw [confL, confL, List.length_append, List.length_append]
    omega
theorem lenM_idx (A : List Ar) (X : List Mv) (l : Ld) (i i' : Nat) : ∀ k, (confM A X l i k).length = (confM A X l i' k).length
  | 0 => by simp [confM]
  | k + 1 => by
    rw [confM, confM, List.length_append, List.length_append, lenM_idx A X l i i' k]
    simp [confA]
theorem lenL_less (A : List Ar) (L : List Ld) (X : List Mv) : ∀ i, (confL A (L.drop 1) X i).length + (confM A X (L.getD 0 default) 0 X.length).length = (confL A L X (i + 1)).length
  | 0 => by simp [confL]
  | i + 1 => by
    have ih := lenL_less A L X i
    have e : (L.drop 1).getD i default = L.getD (i + 1) default := by rw [List.getD_eq_getElem?_getD, List.getD_eq_getElem?_getD, List.getElem?_drop, Nat.add_comm 1 i]
    have e2 := lenM_idx A X (L.getD (i + 1) default) i (i + 1) X.length
    rw [confL, List.length_append, e, confL, List.length_append, ← ih]
    omega
theorem conf_tailA (A : List Ar) (L : List Ld) (X : List Mv) : (conf (A.drop 1) L X).length ≤ (conf A L X).length := lenL_tail A L X L.length
theorem conf_tailL (A : List Ar) (L : List Ld) (X : List Mv) : (conf A (L.drop 1) X).length ≤ (conf A L X).length := by
  unfold conf
  cases L with
  | nil => exact Nat.le_refl _
  | cons a L =>
    have := lenL_less A (a :: L) X L.length
    rw [List.length_cons, ← this]
    show (confL A L X L.length).length ≤ _
    exact Nat.le_add_right _ _
theorem earl_all {A : List Ar} {L : List Ld} {y : Mv} (h : sceneE A L [y] = 0) (hy : y.hi ≤ 200) (hL : ∀ l ∈ L, l.hi ≤ 200) (hd : y.hi - y.lo ≤ 20) :
    earlR A L y = (bestE A L y (y.hi - y.lo), 0) ∧ y.lo ≤ bestE A L y (y.hi - y.lo) ∧ bestE A L y (y.hi - y.lo) ≤ 200 ∧
    (∀ t, y.lo ≤ t → t ≤ bestE A L y (y.hi - y.lo) → permB A L (atT y t (y.hi - y.lo)) = decide (t = bestE A L y (y.hi - y.lo))) := by
  obtain ⟨h1, h2, h3⟩ := scene_of.1 h
  have hm := (moves_good h3).2 y (by simp)
  have hl := fun a ha => (lands_good h2).2 a ha
  obtain ⟨b1, b2, b3⟩ := best_spec (areas := A) (lands := L) (x := y) (y.hi - y.lo) hm.1.1 (fun a ha => by have := hl a ha; omega)
  have hb : y.lo ≤ bestE A L y (y.hi - y.lo) ∧ bestE A L y (y.hi - y.lo) ≤ 200 := by
    rcases List.mem_cons.1 b1 with h | h
    · rw [h]; omega
    · obtain ⟨l, hl', e⟩ := List.mem_map.1 h
      have := hL l hl'
      rw [← e]
      omega
  refine ⟨?_, hb.1, hb.2, fun t t1 t2 => ?_⟩
  · rw [earl_same h]
    unfold earlS
    rw [if_neg (by omega), if_neg (by omega)]
  · by_cases ht : t = bestE A L y (y.hi - y.lo)
    · rw [decide_eq_true ht, ht]
      exact b2
    · rw [decide_eq_false ht]
      exact earl_before hm.1.1 (fun a ha => by have := hl a ha; omega) t1 (by omega)
end Go.Proofs.Ab.Area
end
section
/- The law of the shapes. -/
set_option maxRecDepth 100000
set_option linter.unusedVariables false
set_option linter.unusedSimpArgs false
namespace Go.Proofs.Ab.Area
open Go Go.RowKit Go.Proofs.Ab
end Go.Proofs.Ab.Area
end
section
/- Polygons that begin with another corner, that are moved, that are cut: plain laws. -/
namespace Go.Proofs.Ab.Area
open Go Go.Proofs.Ab
end Go.Proofs.Ab.Area
end
section
/- A law on insides: what it calls. -/
set_option maxRecDepth 100000
set_option linter.unusedVariables false
set_option linter.unusedSimpArgs false
namespace Go.Proofs.Ab.Area
open Go Go.RowKit Go.Proofs.Ab
theorem neq_bool {m : Int} (a b : Bool) : ∀ w, (binOp .neq 4 (.bool a) (.bool b)).run (C m).P w = .ok (.bool (!(a == b))) w := fun w => by
  have := run_neq_bool w 4 a b (by kernel_rfl) (P := (C m).P)
  rw [this]
end Go.Proofs.Ab.Area
end
section
/- A law on conflicts: its end. -/
set_option maxRecDepth 100000
set_option linter.unusedVariables false
set_option linter.unusedSimpArgs false
namespace Go.Proofs.Ab.Area
open Go Go.RowKit Go.Proofs.Ab
noncomputable def c11 : Code := Tryz.f11.body.getD .skip
noncomputable abbrev q11 (n : Nat) : Code := pieceAt (List.replicate n 1) c11
abbrev sC (fr : List (Nat × SV)) (A : List Ar) (L : List Ld) (X : List Mv) (T : Int) (y : Mv) : AS := ⟨fr ++ [(0, .p (.seq 4 (A.map ac))), (4, .p (.ref (trc L X T))), (5, .p (.ref (mc y)))], [], [], 0, [], [], []⟩
abbrev aA (A : List Ar) : PV := .seq 4 (A.map ac)
abbrev aL (L : List Ld) : PV := .seq 4 (L.map lc)
abbrev aX (X : List Mv) : PV := .seq 8 (X.map mc)
section
attribute [local irreducible] APure
set_option maxHeartbeats 4000000 in
theorem clr_end {m : Int} (A : List Ar) (L : List Ld) (X : List Mv) (T : Int) (y : Mv) (at_ : Int) (hy : 0 ≤ y.lo ∧ y.lo < y.hi ∧ y.hi ≤ 200) (hat : y.lo ≤ at_ ∧ at_ ≤ 200) (hw : APure (C m) 13 [] (Bo true))
    (c29 : APure (C m) 29 [aA A] (aA A)) (c42 : APure (C m) 42 [aL L] (aL L)) (c56 : ∀ y : Mv, APure (C m) 56 [.agg (mc y)] (.agg (mc y))) (c86 : ∀ a b : Int, APure (C m) 86 [I a, I b] (.agg [I a, I b]))
    (c55 : ∀ t, y.lo ≤ t → t ≤ at_ → APure (C m) 55 [aA A, aL L, .agg (mc (atT y t (y.hi - y.lo)))] (.tup [Bo (decide (t = at_)), I 0])) :
    AWp (C m) Tryz.f11.ntmps (q11 13) (endV m [ResultVar.tmp 6] (Bo true)) (sC [(37, .p (I at_))] A L X T y) := by
  have wd : wrapK .i64 (y.hi - y.lo) = y.hi - y.lo := w64 (by omega)
  refine codeK_sound good (mu := []) ?_
  conv => whnf
  repeat' (first
    | (rw [wd]; conv => whnf)
    | fail)
  refine ⟨AWp.loop (ι := { t : Int // y.lo ≤ t ∧ t ≤ at_ + 1 }) (fun t => sC [(40, .p (I t.1)), (39, .p (I (y.hi - y.lo))), (37, .p (I at_))] A L X T y) (fun t => (at_ + 1 - t.1).toNat) ⟨y.lo, by omega⟩ ?_ ?_⟩
  · skip
    · refine SLe.of [] [] rfl rfl ?_
      conv => whnf
      repeat' (first
      | exact True.intro
      | (refine SAnd.mk (PLe.refl _) ?_; conv => whnf))
  · rintro ⟨t, ht⟩
    refine codeK_sound good (mu := []) ?_
    conv => whnf
    refine SBool.mk (fun hc => ?_) (fun hc => ?_)
    · replace hc : t ≤ at_ := hc
      have c := c55 t ht.1 hc
      have e1 : wrapK .i64 (t + (y.hi - y.lo)) = t + (y.hi - y.lo) := w64 (by omega)
      have w1 : wrapK .i64 (t + 1) = t + 1 := w64 (by omega)
      have mk : (at_ + 1 - (t + 1)).toNat < (at_ + 1 - t).toNat := by omega
      have s1 := c86 t (t + (y.hi - y.lo))
      have s2 : APure (C m) 56 [.agg [St y.name, I y.size, I y.box.lo.x, I y.box.lo.y, I y.box.hi.x, I y.box.hi.y, I t, I (t + (y.hi - y.lo))]] (.agg (mc (atT y t (y.hi - y.lo)))) := c56 (atT y t (y.hi - y.lo))
      cases hd : decide (t = at_)
      · have hne := of_decide_eq_false hd
        rw [hd] at c
        skip
        conv => whnf
        repeat' (first
          | (rw [w1]; conv => whnf)
          | (rw [e1]; conv => whnf)
          | (refine SBool.mk (fun _ => ?_) (fun h => absurd (of_decide_eq_true rfl) h); conv => whnf)
          | (refine SBool.mk (fun h => absurd h (of_decide_eq_false rfl)) (fun _ => ?_); conv => whnf)
          | (refine SBool.mk (fun h => ?_) (fun h => ?_) <;> conv => whnf)
          | (refine SEx.mk _ (by first | exact c29 | exact c42 | exact s1 | exact s2 | exact c | exact neq_bool _ _) ?_; conv => whnf)
          | (refine SAnd.mk (by first | exact rfl | kernel_rfl | omega | decide | exact c29 | exact c42 | exact s1 | exact s2 | exact c | exact neq_bool _ _) ?_; conv => whnf)
          | fail)
        all_goals first
          | exact absurd (by assumption) hne
          | refine ⟨⟨t + 1, by omega⟩, mk, ?_⟩
        skip
        · refine SLe.of [] [] rfl rfl ?_
          conv => whnf
          repeat' (first
          | exact True.intro
          | (refine SAnd.mk (PLe.refl _) ?_; conv => whnf))
      · have he := of_decide_eq_true hd
        rw [hd] at c
        skip
        conv => whnf
        repeat' (first
          | (rw [w1]; conv => whnf)
          | (rw [e1]; conv => whnf)
          | (refine SBool.mk (fun _ => ?_) (fun h => absurd (of_decide_eq_true rfl) h); conv => whnf)
          | (refine SBool.mk (fun h => absurd h (of_decide_eq_false rfl)) (fun _ => ?_); conv => whnf)
          | (refine SBool.mk (fun h => ?_) (fun h => ?_) <;> conv => whnf)
          | (refine SEx.mk _ (by first | exact c29 | exact c42 | exact s1 | exact s2 | exact c | exact neq_bool _ _) ?_; conv => whnf)
          | (refine SAnd.mk (by first | exact rfl | kernel_rfl | omega | decide | exact c29 | exact c42 | exact s1 | exact s2 | exact c | exact neq_bool _ _) ?_; conv => whnf)
          | fail)
        all_goals first
          | exact absurd he (by assumption)
          | refine ⟨⟨t + 1, by omega⟩, mk, ?_⟩
        skip
        · refine SLe.of [] [] rfl rfl ?_
          conv => whnf
          repeat' (first
          | exact True.intro
          | (refine SAnd.mk (PLe.refl _) ?_; conv => whnf))
    · skip
      conv => whnf
      repeat' (first
        | (refine SEx.mk _ (by first | exact hw) ?_; conv => whnf)
        | fail)
      exact ⟨PLe.refl _⟩
set_option maxHeartbeats 4000000 in
theorem clr_earl {m : Int} (A : List Ar) (L : List Ld) (X : List Mv) (T : Int) (y : Mv) (at_ : Int) (hat : y.lo ≤ at_ ∧ at_ ≤ 200)
    (c29 : APure (C m) 29 [aA A] (aA A)) (c42 : APure (C m) 42 [aL L] (aL L)) (c56 : APure (C m) 56 [.agg (mc y)] (.agg (mc y)))
    (c57 : APure (C m) 57 [aA A, aL L, .agg (mc y)] (.tup [I at_, I 0]))
    (go : AWp (C m) Tryz.f11.ntmps (q11 13) (endV m [ResultVar.tmp 6] (Bo true)) (sC [(37, .p (I at_))] A L X T y)) :
    AWp (C m) Tryz.f11.ntmps (q11 11) (endV m [ResultVar.tmp 6] (Bo true)) (sC [] A L X T y) := by
  have h1 : ¬ at_ < y.lo := by omega
  have h2 : ¬ 200 < at_ := by omega
  refine AWp.mid (sC [(37, .p (I at_)), (38, .p (I 0))] A L X T y) (AWp.mid _ go ?_) ?_
  · refine codeK_sound good (mu := []) ?_
    conv => whnf
    repeat' (first
      | (refine SBool.mk (fun _ => ?_) (fun h => absurd (of_decide_eq_true rfl) h); conv => whnf)
      | (refine SBool.mk (fun h => ?_) (fun h => ?_) <;> conv => whnf)
      | fail)
    all_goals first
      | exact absurd (by assumption) h1
      | exact absurd (by assumption) h2
      | skip
    all_goals
      skip
      · refine SLe.of [] [] rfl rfl ?_
        conv => whnf
        repeat' (first
        | exact True.intro
        | (refine SAnd.mk (PLe.refl _) ?_; conv => whnf))
  · refine codeK_sound good (mu := []) ?_
    conv => whnf
    repeat' (first
      | (refine SEx.mk _ (by first | exact c29 | exact c42 | exact c56 | exact c57) ?_; conv => whnf)
      | (refine SAnd.mk (by first | exact rfl | kernel_rfl | omega | decide | exact c29 | exact c42 | exact c56 | exact c57) ?_; conv => whnf)
      | fail)
    all_goals
      skip
      · refine SLe.of [] [] rfl rfl ?_
        conv => whnf
        repeat' (first
        | exact True.intro
        | (refine SAnd.mk (PLe.refl _) ?_; conv => whnf))
set_option maxHeartbeats 4000000 in
theorem clr_lessL {m : Int} (A : List Ar) (L : List Ld) (X : List Mv) (T : Int) (y : Mv) (cs cs' : List Cf) (hcs : cs'.length ≤ cs.length)
    (c29 : APure (C m) 29 [aA A] (aA A)) (c42 : APure (C m) 42 [aL (L.drop 1)] (aL (L.drop 1))) (c43 : APure (C m) 43 [aX X] (aX X))
    (c41 : APure (C m) 41 [aA A, aL (L.drop 1), aX X] (.tup [.seq 3 (cs'.map cc), I 0]))
    (go : AWp (C m) Tryz.f11.ntmps (q11 11) (endV m [ResultVar.tmp 6] (Bo true)) (sC [] A L X T y)) :
    AWp (C m) Tryz.f11.ntmps (q11 10) (endV m [ResultVar.tmp 6] (Bo true)) (sC [(11, .p (.seq 3 (cs.map cc)))] A L X T y) := by
  have hlen : ¬ (((cs.map cc).length : Nat) : Int) < (((cs'.map cc).length : Nat) : Int) := by rw [List.length_map, List.length_map]; omega
  have hdr : (L.map lc).drop (1 : Int).toNat = (L.drop 1).map lc := by rw [← List.map_drop]; rfl
  refine AWp.mid _ go ?_
  by_cases h : 0 < (((L.map lc).length : Nat) : Int)
  · have hsl : (0 : Int) ≤ 1 ∧ (1 : Int) ≤ (((L.map lc).length : Nat) : Int) := ⟨by omega, by omega⟩
    refine codeK_sound good (mu := []) ?_
    conv => whnf
    repeat' (first
      | (rw [hdr]; conv => whnf)
      | (refine SBool.mk (fun _ => ?_) (fun h => absurd (of_decide_eq_true rfl) h); conv => whnf)
      | (refine SBool.mk (fun h => ?_) (fun h => ?_) <;> conv => whnf)
      | (refine SEx.mk _ (by first | exact hsl | exact c29 | exact c42 | exact c43 | exact c41) ?_; conv => whnf)
      | (refine SAnd.mk (by first | exact hsl) ?_; conv => whnf)
      | (refine SAnd.mk (by first | exact rfl | kernel_rfl | omega | decide | exact hsl | exact c29 | exact c42 | exact c43 | exact c41) ?_; conv => whnf)
      | fail)
    all_goals first
      | exact absurd (by assumption) hlen
      | exact absurd h (by assumption)
      | skip
    all_goals
      skip
      · refine SLe.of [] [] rfl rfl ?_
        conv => whnf
        repeat' (first
        | exact True.intro
        | (refine SAnd.mk (PLe.refl _) ?_; conv => whnf))
  · refine codeK_sound good (mu := []) ?_
    conv => whnf
    refine SBool.mk (fun hc => absurd hc h) (fun _ => ?_)
    conv => whnf
    skip
    · refine SLe.of [] [] rfl rfl ?_
      conv => whnf
      repeat' (first
      | exact True.intro
      | (refine SAnd.mk (PLe.refl _) ?_; conv => whnf))
set_option maxHeartbeats 4000000 in
theorem clr_lessA {m : Int} (A : List Ar) (L : List Ld) (X : List Mv) (T : Int) (y : Mv) (cs cs' : List Cf) (hcs : cs'.length ≤ cs.length)
    (c29 : APure (C m) 29 [aA (A.drop 1)] (aA (A.drop 1))) (c42 : APure (C m) 42 [aL L] (aL L)) (c43 : APure (C m) 43 [aX X] (aX X))
    (c41 : APure (C m) 41 [aA (A.drop 1), aL L, aX X] (.tup [.seq 3 (cs'.map cc), I 0]))
    (go : AWp (C m) Tryz.f11.ntmps (q11 10) (endV m [ResultVar.tmp 6] (Bo true)) (sC [(11, .p (.seq 3 (cs.map cc)))] A L X T y)) :
    AWp (C m) Tryz.f11.ntmps (q11 9) (endV m [ResultVar.tmp 6] (Bo true)) (sC [(11, .p (.seq 3 (cs.map cc)))] A L X T y) := by
  have hlen : ¬ (((cs.map cc).length : Nat) : Int) < (((cs'.map cc).length : Nat) : Int) := by rw [List.length_map, List.length_map]; omega
  have hdr : (A.map ac).drop (1 : Int).toNat = (A.drop 1).map ac := by rw [← List.map_drop]; rfl
  refine AWp.mid _ go ?_
  by_cases h : 0 < (((A.map ac).length : Nat) : Int)
  · have hsl : (0 : Int) ≤ 1 ∧ (1 : Int) ≤ (((A.map ac).length : Nat) : Int) := ⟨by omega, by omega⟩
    refine codeK_sound good (mu := []) ?_
    conv => whnf
    repeat' (first
      | (rw [hdr]; conv => whnf)
      | (refine SBool.mk (fun _ => ?_) (fun h => absurd (of_decide_eq_true rfl) h); conv => whnf)
      | (refine SBool.mk (fun h => ?_) (fun h => ?_) <;> conv => whnf)
      | (refine SEx.mk _ (by first | exact hsl | exact c29 | exact c42 | exact c43 | exact c41) ?_; conv => whnf)
      | (refine SAnd.mk (by first | exact hsl) ?_; conv => whnf)
      | (refine SAnd.mk (by first | exact rfl | kernel_rfl | omega | decide | exact hsl | exact c29 | exact c42 | exact c43 | exact c41) ?_; conv => whnf)
      | fail)
    all_goals first
      | exact absurd (by assumption) hlen
      | exact absurd h (by assumption)
      | skip
    all_goals
      skip
      · refine SLe.of [] [] rfl rfl ?_
        conv => whnf
        repeat' (first
        | exact True.intro
        | (refine SAnd.mk (PLe.refl _) ?_; conv => whnf))
  · refine codeK_sound good (mu := []) ?_
    conv => whnf
    refine SBool.mk (fun hc => absurd hc h) (fun _ => ?_)
    conv => whnf
    skip
    · refine SLe.of [] [] rfl rfl ?_
      conv => whnf
      repeat' (first
      | exact True.intro
      | (refine SAnd.mk (PLe.refl _) ?_; conv => whnf))
end
end Go.Proofs.Ab.Area
end
section
/- A law on conflicts: each tick. -/
set_option maxRecDepth 100000
set_option linter.unusedVariables false
set_option linter.unusedSimpArgs false
namespace Go.Proofs.Ab.Area
open Go Go.RowKit Go.Proofs.Ab
abbrev frT (cs : List Cf) (p cl : Bool) (t : Int) : List (Nat × SV) := [(25, .p (Bo cl)), (26, .p (I 0)), (24, .p (I t)), (13, .p (Bo p)), (11, .p (.seq 3 (cs.map cc)))]
theorem any_takeC {α : Type} {l : List α} {k : Nat} (h : k < l.length) (f : α → Bool) : (l.take (k + 1)).any f = ((l.take k).any f || f l[k]) := by
  rw [List.take_succ_eq_append_getElem h, List.any_append]
  simp
section
attribute [local irreducible] APure
set_option maxHeartbeats 4000000 in
theorem tick_lands {m : Int} (A : List Ar) (L : List Ld) (X : List Mv) (T : Int) (y : Mv) (cs : List Cf) (p cl : Bool) (t : Int) (hl : L.length ≤ 1000000) {Q : Out → AS → Prop}
    (hq : Q .normal (sC ((27, .p (Bo (L.any fun l => hasB l.lo l.hi t))) :: (28, .p (Bo false)) :: frT cs p cl t) A L X T y)) :
    AWp (C m) Tryz.f11.ntmps (pieceAt [1, 1, 1, 1, 1, 1, 1, 1, 0, 1, 0, 0, 1, 0, 0, 1, 1, 0] c11) Q (sC ((27, .p (Bo false)) :: (28, .p (Bo false)) :: frT cs p cl t) A L X T y) := by
  refine AWp.post ?_
  refine codeK_sound good (mu := []) ?_
  conv => whnf
  repeat' (first
    | fail)
  refine ⟨AWp.loop (ι := { q : Nat × Bool // q.1 ≤ L.length ∧ q.2 = (L.take q.1).any fun l => hasB l.lo l.hi t }) (fun q => sC ((297, .p (I q.1.1)) :: (296, .p (I L.length)) :: (295, .p (.seq 4 (L.map lc))) :: (27, .p (Bo q.1.2)) :: (28, .p (Bo false)) :: frT cs p cl t) A L X T y) (fun q => L.length - q.1.1) ⟨(0, false), by simp⟩ ?_ ?_⟩
  · skip
    · refine SLe.of [] [] rfl rfl ?_
      conv => whnf
      repeat' (first
      | exact True.intro
      | (refine SAnd.mk (PLe.refl _) ?_; conv => whnf)
      | (refine SAnd.mk (PLe.of_eq (by simp)) ?_; conv => whnf))
  · rintro ⟨⟨k, s⟩, hk, hs⟩
    replace hs : s = (L.take k).any fun l => hasB l.lo l.hi t := hs
    refine codeK_sound good (mu := []) ?_
    conv => whnf
    refine SBool.mk (fun hcn => ?_) (fun hcn => ?_)
    · have hkl : k < L.length := by simpa using hcn
      have hat := some_at hkl lc
      have wk : wrapK IntKind.i64 ((k : Int) + 1) = k + 1 := w64 (by omega)
      have mk := sub_lt hkl
      have st := any_takeC hkl (fun l : Ld => hasB l.lo l.hi t)
      rw [← hs] at st
      generalize L[k] = x at *
      have yes : x.lo ≤ t → t < x.hi → ((L.take (k + 1)).any fun l => hasB l.lo l.hi t) = true := fun a b => by rw [st]; show (s || (decide (x.lo ≤ t) && decide (t < x.hi))) = true; rw [decide_eq_true a, decide_eq_true b]; cases s <;> rfl
      have no1 : ¬ x.lo ≤ t → ((L.take (k + 1)).any fun l => hasB l.lo l.hi t) = s := fun a => by rw [st]; show (s || (decide (x.lo ≤ t) && decide (t < x.hi))) = s; rw [decide_eq_false a]; cases s <;> rfl
      have no2 : ¬ t < x.hi → ((L.take (k + 1)).any fun l => hasB l.lo l.hi t) = s := fun a => by rw [st]; show (s || (decide (x.lo ≤ t) && decide (t < x.hi))) = s; rw [decide_eq_false a, Bool.and_false]; cases s <;> rfl
      have al : s = true → ((L.take (k + 1)).any fun l => hasB l.lo l.hi t) = true := fun a => by rw [st, a]; rfl
      clear hcn hq st hs
      cases s
      · skip
        conv => whnf
        repeat' (first
          | (rw [wk]; conv => whnf)
          | (refine SBool.mk (fun h => ?_) (fun h => ?_) <;> conv => whnf)
          | (refine SEx.mk _ (by first | exact hat) ?_; conv => whnf)
          | fail)
        all_goals first
          | refine ⟨⟨(k + 1, true), hkl, (yes (by assumption) (by assumption)).symm⟩, mk, ?_⟩
          | refine ⟨⟨(k + 1, false), hkl, (no1 (by assumption)).symm⟩, mk, ?_⟩
          | refine ⟨⟨(k + 1, false), hkl, (no2 (by assumption)).symm⟩, mk, ?_⟩
        all_goals
          skip
          · refine SLe.of [] [] rfl rfl ?_
            conv => whnf
            repeat' (first
            | exact True.intro
            | (refine SAnd.mk (PLe.refl _) ?_; conv => whnf))
      · skip
        conv => whnf
        repeat' (first
          | (rw [wk]; conv => whnf)
          | (refine SEx.mk _ (by first | exact hat) ?_; conv => whnf)
          | fail)
        all_goals
          refine ⟨⟨(k + 1, true), hkl, (al rfl).symm⟩, mk, ?_⟩
          skip
          · refine SLe.of [] [] rfl rfl ?_
            conv => whnf
            repeat' (first
            | exact True.intro
            | (refine SAnd.mk (PLe.refl _) ?_; conv => whnf))
    · have hkr : k = L.length := by simp at hcn; omega
      subst hkr
      rw [List.take_length] at hs
      subst hs
      conv => whnf
      refine ⟨_, ?_, hq⟩
      skip
      · refine SLe.of [] [] rfl rfl ?_
        conv => whnf
        repeat' (first
        | exact True.intro
        | (refine SAnd.mk (PLe.refl _) ?_; conv => whnf))
set_option maxHeartbeats 4000000 in
theorem tick_moves {m : Int} (A : List Ar) (L : List Ld) (X : List Mv) (T : Int) (y : Mv) (cs : List Cf) (p cl a : Bool) (t : Int) (hl : X.length ≤ 1000000) {Q : Out → AS → Prop}
    (hq : Q .normal (sC ((27, .p (Bo a)) :: (28, .p (Bo (X.any fun l => hasB l.lo l.hi t))) :: frT cs p cl t) A L X T y)) :
    AWp (C m) Tryz.f11.ntmps (pieceAt [1, 1, 1, 1, 1, 1, 1, 1, 0, 1, 0, 0, 1, 0, 0, 1, 1, 1, 0] c11) Q (sC ((27, .p (Bo a)) :: (28, .p (Bo false)) :: frT cs p cl t) A L X T y) := by
  refine AWp.post ?_
  refine codeK_sound good (mu := []) ?_
  conv => whnf
  repeat' (first
    | fail)
  refine ⟨AWp.loop (ι := { q : Nat × Bool // q.1 ≤ X.length ∧ q.2 = (X.take q.1).any fun l => hasB l.lo l.hi t }) (fun q => sC ((320, .p (I q.1.1)) :: (319, .p (I X.length)) :: (318, .p (.seq 8 (X.map mc))) :: (27, .p (Bo a)) :: (28, .p (Bo q.1.2)) :: frT cs p cl t) A L X T y) (fun q => X.length - q.1.1) ⟨(0, false), by simp⟩ ?_ ?_⟩
  · skip
    · refine SLe.of [] [] rfl rfl ?_
      conv => whnf
      repeat' (first
      | exact True.intro
      | (refine SAnd.mk (PLe.refl _) ?_; conv => whnf)
      | (refine SAnd.mk (PLe.of_eq (by simp)) ?_; conv => whnf))
  · rintro ⟨⟨k, s⟩, hk, hs⟩
    replace hs : s = (X.take k).any fun l => hasB l.lo l.hi t := hs
    refine codeK_sound good (mu := []) ?_
    conv => whnf
    refine SBool.mk (fun hcn => ?_) (fun hcn => ?_)
    · have hkl : k < X.length := by simpa using hcn
      have hat := some_at hkl mc
      have wk : wrapK IntKind.i64 ((k : Int) + 1) = k + 1 := w64 (by omega)
      have mk := sub_lt hkl
      have st := any_takeC hkl (fun l : Mv => hasB l.lo l.hi t)
      rw [← hs] at st
      generalize X[k] = x at *
      have yes : x.lo ≤ t → t < x.hi → ((X.take (k + 1)).any fun l => hasB l.lo l.hi t) = true := fun a b => by rw [st]; show (s || (decide (x.lo ≤ t) && decide (t < x.hi))) = true; rw [decide_eq_true a, decide_eq_true b]; cases s <;> rfl
      have no1 : ¬ x.lo ≤ t → ((X.take (k + 1)).any fun l => hasB l.lo l.hi t) = s := fun a => by rw [st]; show (s || (decide (x.lo ≤ t) && decide (t < x.hi))) = s; rw [decide_eq_false a]; cases s <;> rfl
      have no2 : ¬ t < x.hi → ((X.take (k + 1)).any fun l => hasB l.lo l.hi t) = s := fun a => by rw [st]; show (s || (decide (x.lo ≤ t) && decide (t < x.hi))) = s; rw [decide_eq_false a, Bool.and_false]; cases s <;> rfl
      have al : s = true → ((X.take (k + 1)).any fun l => hasB l.lo l.hi t) = true := fun a => by rw [st, a]; rfl
      clear hcn hq st hs
      cases s
      · skip
        conv => whnf
        repeat' (first
          | (rw [wk]; conv => whnf)
          | (refine SBool.mk (fun h => ?_) (fun h => ?_) <;> conv => whnf)
          | (refine SEx.mk _ (by first | exact hat) ?_; conv => whnf)
          | fail)
        all_goals first
          | refine ⟨⟨(k + 1, true), hkl, (yes (by assumption) (by assumption)).symm⟩, mk, ?_⟩
          | refine ⟨⟨(k + 1, false), hkl, (no1 (by assumption)).symm⟩, mk, ?_⟩
          | refine ⟨⟨(k + 1, false), hkl, (no2 (by assumption)).symm⟩, mk, ?_⟩
        all_goals
          skip
          · refine SLe.of [] [] rfl rfl ?_
            conv => whnf
            repeat' (first
            | exact True.intro
            | (refine SAnd.mk (PLe.refl _) ?_; conv => whnf))
      · skip
        conv => whnf
        repeat' (first
          | (rw [wk]; conv => whnf)
          | (refine SEx.mk _ (by first | exact hat) ?_; conv => whnf)
          | fail)
        all_goals
          refine ⟨⟨(k + 1, true), hkl, (al rfl).symm⟩, mk, ?_⟩
          skip
          · refine SLe.of [] [] rfl rfl ?_
            conv => whnf
            repeat' (first
            | exact True.intro
            | (refine SAnd.mk (PLe.refl _) ?_; conv => whnf))
    · have hkr : k = X.length := by simp at hcn; omega
      subst hkr
      rw [List.take_length] at hs
      subst hs
      conv => whnf
      refine ⟨_, ?_, hq⟩
      skip
      · refine SLe.of [] [] rfl rfl ?_
        conv => whnf
        repeat' (first
        | exact True.intro
        | (refine SAnd.mk (PLe.refl _) ?_; conv => whnf))
set_option maxHeartbeats 4000000 in
theorem tick_round {m : Int} (A : List Ar) (L : List Ld) (X : List Mv) (T : Int) (y : Mv) (cs : List Cf) (p cl : Bool) (t : Int) (hl : L.length ≤ 1000000) (hx : X.length ≤ 1000000) {Q : Out → AS → Prop}
    (c29 : APure (C m) 29 [aA A] (aA A)) (c42 : APure (C m) 42 [aL L] (aL L)) (c43 : APure (C m) 43 [aX X] (aX X))
    (c44 : APure (C m) 44 [aA A, aL L, aX X, I t] (.tup [Bo cl, I 0])) (h1 : p = true → cl = true) (h2 : cl = false → (L.any fun l => hasB l.lo l.hi t) = true ∧ (X.any fun y => hasB y.lo y.hi t) = true)
    (hq : Q .normal (sC [(24, .p (I t)), (13, .p (Bo p)), (11, .p (.seq 3 (cs.map cc)))] A L X T y)) :
    AWp (C m) Tryz.f11.ntmps (pieceAt [1, 1, 1, 1, 1, 1, 1, 1, 0, 1, 0, 0, 1, 0] c11) Q (sC [(24, .p (I t)), (13, .p (Bo p)), (11, .p (.seq 3 (cs.map cc)))] A L X T y) := by
  refine AWp.block ?_
  refine AWp.mid (sC (frT cs p cl t) A L X T y) (AWp.mid (sC ((27, .p (Bo false)) :: (28, .p (Bo false)) :: frT cs p cl t) A L X T y) (AWp.mid _ (AWp.mid _ ?_ (tick_moves A L X T y cs p cl (L.any fun l => hasB l.lo l.hi t) t hx SLe.refl)) (tick_lands A L X T y cs p cl t hl SLe.refl)) ?_) ?_
  · generalize (L.any fun l => hasB l.lo l.hi t) = a at *
    generalize (X.any fun l => hasB l.lo l.hi t) = b at *
    refine AWp.post ?_
    cases cl
    · obtain ⟨rfl, rfl⟩ := h2 rfl
      cases p
      · refine codeK_sound good (mu := []) ?_
        conv => whnf
        repeat' (first
          | (refine SBool.mk (fun _ => ?_) (fun h => absurd (of_decide_eq_true rfl) h); conv => whnf)
          | fail)
        refine ⟨_, ?_, hq⟩
        skip
        · refine SLe.of [] [] rfl rfl ?_
          conv => whnf
          repeat' (first
          | exact True.intro
          | (refine SAnd.mk (PLe.refl _) ?_; conv => whnf))
      · exact absurd (h1 rfl) (by decide)
    · cases p
      · refine codeK_sound good (mu := []) ?_
        conv => whnf
        repeat' (first
          | (refine SBool.mk (fun _ => ?_) (fun h => absurd (of_decide_eq_true rfl) h); conv => whnf)
          | fail)
        refine ⟨_, ?_, hq⟩
        skip
        · refine SLe.of [] [] rfl rfl ?_
          conv => whnf
          repeat' (first
          | exact True.intro
          | (refine SAnd.mk (PLe.refl _) ?_; conv => whnf))
      · refine codeK_sound good (mu := []) ?_
        conv => whnf
        repeat' (first
          | (refine SBool.mk (fun _ => ?_) (fun h => absurd (of_decide_eq_true rfl) h); conv => whnf)
          | fail)
        refine ⟨_, ?_, hq⟩
        skip
        · refine SLe.of [] [] rfl rfl ?_
          conv => whnf
          repeat' (first
          | exact True.intro
          | (refine SAnd.mk (PLe.refl _) ?_; conv => whnf))
  · refine codeK_sound good (mu := []) ?_
    conv => whnf
    repeat' (first
      | fail)
    skip
    · refine SLe.of [] [] rfl rfl ?_
      conv => whnf
      repeat' (first
      | exact True.intro
      | (refine SAnd.mk (PLe.refl _) ?_; conv => whnf))
  · refine codeK_sound good (mu := []) ?_
    conv => whnf
    repeat' (first
      | (refine SEx.mk _ (by first | exact c29 | exact c42 | exact c43 | exact c44) ?_; conv => whnf)
      | (refine SAnd.mk (by first | exact rfl | kernel_rfl | omega | decide | exact c29 | exact c42 | exact c43 | exact c44) ?_; conv => whnf)
      | fail)
    skip
    · refine SLe.of [] [] rfl rfl ?_
      conv => whnf
      repeat' (first
      | exact True.intro
      | (refine SAnd.mk (PLe.refl _) ?_; conv => whnf))
set_option maxHeartbeats 4000000 in
theorem clr_ticks {m : Int} (A : List Ar) (L : List Ld) (X : List Mv) (T : Int) (y : Mv) (cs : List Cf) (p : Bool) (cl : Int → Bool) (hl : L.length ≤ 1000000) (hx : X.length ≤ 1000000)
    (c29 : APure (C m) 29 [aA A] (aA A)) (c42 : APure (C m) 42 [aL L] (aL L)) (c43 : APure (C m) 43 [aX X] (aX X))
    (c44 : ∀ t, 0 ≤ t → t ≤ 200 → APure (C m) 44 [aA A, aL L, aX X, I t] (.tup [Bo (cl t), I 0])) (h1 : ∀ t, p = true → cl t = true) (h2 : ∀ t, cl t = false → (L.any fun l => hasB l.lo l.hi t) = true ∧ (X.any fun y => hasB y.lo y.hi t) = true)
    (go : AWp (C m) Tryz.f11.ntmps (q11 9) (endV m [ResultVar.tmp 6] (Bo true)) (sC [(11, .p (.seq 3 (cs.map cc)))] A L X T y)) :
    AWp (C m) Tryz.f11.ntmps (q11 8) (endV m [ResultVar.tmp 6] (Bo true)) (sC [(13, .p (Bo p)), (11, .p (.seq 3 (cs.map cc)))] A L X T y) := by
  refine codeN_sound good (mu := []) (n := 1) ?_
  conv => whnf
  repeat' (first
    | fail)
  refine ⟨AWp.loop (ι := { t : Int // 0 ≤ t ∧ t ≤ 207 }) (fun t => sC [(24, .p (I t.1)), (13, .p (Bo p)), (11, .p (.seq 3 (cs.map cc)))] A L X T y) (fun t => (207 - t.1).toNat) ⟨0, by omega⟩ ?_ ?_⟩
  · skip
    · refine SLe.of [] [] rfl rfl ?_
      conv => whnf
      repeat' (first
      | exact True.intro
      | (refine SAnd.mk (PLe.refl _) ?_; conv => whnf))
  · rintro ⟨t, ht⟩
    refine codeN_sound good (mu := []) (n := 1) ?_
    conv => whnf
    refine SBool.mk (fun hc => ?_) (fun hc => ?_)
    · replace hc : t ≤ 200 := hc
      have w7 : wrapK .i64 (t + 7) = t + 7 := w64 (by omega)
      refine ⟨AWp.seq (AWp.le ?_ (tick_round A L X T y cs p (cl t) t hl hx c29 c42 c43 (c44 t ht.1 hc) (h1 t) (h2 t) ?_))⟩
      · skip
        · refine SLe.of [] [] rfl rfl ?_
          conv => whnf
          repeat' (first
          | exact True.intro
          | (refine SAnd.mk (PLe.refl _) ?_; conv => whnf))
      · refine codeK_sound good (mu := []) ?_
        conv => whnf
        repeat' (first
          | (rw [w7]; conv => whnf)
          | fail)
        refine ⟨⟨t + 7, by omega⟩, (show (207 - (t + 7)).toNat < (207 - t).toNat by omega), ?_⟩
        skip
        · refine SLe.of [] [] rfl rfl ?_
          conv => whnf
          repeat' (first
          | exact True.intro
          | (refine SAnd.mk (PLe.refl _) ?_; conv => whnf))
    · conv => whnf
      refine ⟨AWp.le ?_ go⟩
      skip
      · refine SLe.of [] [] rfl rfl ?_
        conv => whnf
        repeat' (first
        | exact True.intro
        | (refine SAnd.mk (PLe.refl _) ?_; conv => whnf))
end
end Go.Proofs.Ab.Area
end
section
/- A law on conflicts: each move. -/
set_option maxRecDepth 100000
set_option linter.unusedVariables false
set_option linter.unusedSimpArgs false
namespace Go.Proofs.Ab.Area
open Go Go.RowKit Go.Proofs.Ab
abbrev frM (X : List Mv) (cs : List Cf) (p : Bool) (k : Nat) : List (Nat × SV) := [(179, .p (I k)), (178, .p (I X.length)), (177, .p (.seq 8 (X.map mc))), (13, .p (Bo p)), (11, .p (.seq 3 (cs.map cc)))]
abbrev sCb (x : Mv) (fr : List (Nat × SV)) (A : List Ar) (L : List Ld) (X : List Mv) (T : Int) (y : Mv) : AS := ⟨fr ++ [(0, .p (.seq 4 (A.map ac))), (4, .p (.ref (trc L X T))), (5, .p (.ref (mc y)))], [(0, (91, mc x))], [], 1, [], [], []⟩
def inC (A : List Ar) (L : List Ld) (X : List Mv) (c : Cf) : Prop := (0 ≤ c.l ∧ c.l < L.length) ∧ (0 ≤ c.a ∧ c.a < A.length) ∧ 0 ≤ c.m ∧ c.m < X.length
section
attribute [local irreducible] APure
set_option maxHeartbeats 4000000 in
theorem move_has {m : Int} (A : List Ar) (L : List Ld) (X : List Mv) (T : Int) (y x : Mv) (cs : List Cf) (p is : Bool) (k : Nat) (hl : cs.length ≤ 1000000) (hcs : ∀ c ∈ cs, inC A L X c) {Q : Out → AS → Prop}
    (hq : Q .normal (sCb x ((14, .p (I k)) :: (15, .box 0 0) :: (16, .p (Bo is)) :: (18, .p (Bo (cs.any fun c => decide (c.m = k)))) :: frM X cs p k) A L X T y)) :
    AWp (C m) Tryz.f11.ntmps (pieceAt [1, 1, 1, 1, 1, 1, 1, 0, 1, 0, 0, 1, 1, 0, 0, 1, 1, 1, 1, 0] c11) Q (sCb x ((14, .p (I k)) :: (15, .box 0 0) :: (16, .p (Bo is)) :: (18, .p (Bo false)) :: frM X cs p k) A L X T y) := by
  have hlA : (((A.map ac).length : Nat) : Int) = A.length := by simp
  have hlL : (((L.map lc).length : Nat) : Int) = L.length := by simp
  have hlX : (((X.map mc).length : Nat) : Int) = X.length := by simp
  refine AWp.post ?_
  refine codeK_sound good (mu := []) ?_
  conv => whnf
  repeat' (first
    | fail)
  refine ⟨AWp.loop (ι := { q : Nat × Bool // q.1 ≤ cs.length ∧ q.2 = (cs.take q.1).any fun c => decide (c.m = k) }) (fun q => sCb x ((199, .p (I q.1.1)) :: (198, .p (I cs.length)) :: (197, .p (.seq 3 (cs.map cc))) :: (14, .p (I k)) :: (15, .box 0 0) :: (16, .p (Bo is)) :: (18, .p (Bo q.1.2)) :: frM X cs p k) A L X T y) (fun q => cs.length - q.1.1) ⟨(0, false), by simp⟩ ?_ ?_⟩
  · skip
    · refine SLe.of [(0, 0)] [] rfl rfl ?_
      conv => whnf
      repeat' (first
      | exact True.intro
      | (refine SAnd.mk (PLe.refl _) ?_; conv => whnf)
      | (refine SAnd.mk (PLeL.refl _) ?_; conv => whnf)
      | (refine SAnd.mk (PLe.of_eq (by simp)) ?_; conv => whnf))
  · rintro ⟨⟨j, s⟩, hj, hs⟩
    replace hs : s = (cs.take j).any fun c => decide (c.m = k) := hs
    refine codeK_sound good (mu := []) ?_
    conv => whnf
    refine SBool.mk (fun hcn => ?_) (fun hcn => ?_)
    · have hjl : j < cs.length := by simpa using hcn
      have hat := some_at hjl cc
      have wk : wrapK IntKind.i64 ((j : Int) + 1) = j + 1 := w64 (by omega)
      have mk := sub_lt hjl
      have st := any_takeC hjl (fun c : Cf => decide (c.m = k))
      have hc := hcs _ (List.getElem_mem hjl)
      rw [← hs] at st
      generalize cs[j] = c at *
      unfold inC at hc
      have g1 : ¬ c.l < 0 := by omega
      have g2 : ¬ (((L.map lc).length : Nat) : Int) ≤ c.l := by omega
      have g3 : ¬ c.a < 0 := by omega
      have g4 : ¬ (((A.map ac).length : Nat) : Int) ≤ c.a := by omega
      have g5 : ¬ c.m < 0 := by omega
      have g6 : ¬ (((X.map mc).length : Nat) : Int) ≤ c.m := by omega
      have yes : c.m = k → ((cs.take (j + 1)).any fun c => decide (c.m = k)) = true := fun a => by rw [st, decide_eq_true a, Bool.or_true]
      have no1 : ¬ c.m = k → ((cs.take (j + 1)).any fun c => decide (c.m = k)) = s := fun a => by rw [st, decide_eq_false a, Bool.or_false]
      have al : s = true → ((cs.take (j + 1)).any fun c => decide (c.m = k)) = true := fun a => by rw [st, a]; rfl
      clear hcn hq st hs hcs hc hlA hlL hlX
      cases s
      · skip
        conv => whnf
        repeat' (first
          | (rw [wk]; conv => whnf)
          | (refine SBool.mk (fun h => ?_) (fun h => ?_) <;> conv => whnf)
          | (refine SEx.mk _ (by first | exact hat) ?_; conv => whnf)
          | fail)
        all_goals first
          | exact absurd (by assumption) g1
          | exact absurd (by assumption) g2
          | exact absurd (by assumption) g3
          | exact absurd (by assumption) g4
          | exact absurd (by assumption) g5
          | exact absurd (by assumption) g6
          | refine ⟨⟨(j + 1, true), hjl, (yes (by assumption)).symm⟩, mk, ?_⟩
          | refine ⟨⟨(j + 1, false), hjl, (no1 (by assumption)).symm⟩, mk, ?_⟩
        all_goals
          skip
          · refine SLe.of [(0, 0)] [] rfl rfl ?_
            conv => whnf
            repeat' (first
            | exact True.intro
            | (refine SAnd.mk (PLe.refl _) ?_; conv => whnf)
            | (refine SAnd.mk (PLeL.refl _) ?_; conv => whnf))
      · skip
        conv => whnf
        repeat' (first
          | (rw [wk]; conv => whnf)
          | (refine SBool.mk (fun h => ?_) (fun h => ?_) <;> conv => whnf)
          | (refine SEx.mk _ (by first | exact hat) ?_; conv => whnf)
          | fail)
        all_goals first
          | exact absurd (by assumption) g1
          | exact absurd (by assumption) g2
          | exact absurd (by assumption) g3
          | exact absurd (by assumption) g4
          | exact absurd (by assumption) g5
          | exact absurd (by assumption) g6
          | refine ⟨⟨(j + 1, true), hjl, (al rfl).symm⟩, mk, ?_⟩
        all_goals
          skip
          · refine SLe.of [(0, 0)] [] rfl rfl ?_
            conv => whnf
            repeat' (first
            | exact True.intro
            | (refine SAnd.mk (PLe.refl _) ?_; conv => whnf)
            | (refine SAnd.mk (PLeL.refl _) ?_; conv => whnf))
    · have hkr : j = cs.length := by simp at hcn; omega
      subst hkr
      rw [List.take_length] at hs
      subst hs
      conv => whnf
      refine ⟨_, ?_, hq⟩
      skip
      · refine SLe.of [(0, 0)] [] rfl rfl ?_
        conv => whnf
        repeat' (first
        | exact True.intro
        | (refine SAnd.mk (PLe.refl _) ?_; conv => whnf)
        | (refine SAnd.mk (PLeL.refl _) ?_; conv => whnf))
set_option maxHeartbeats 4000000 in
theorem move_round {m : Int} (A : List Ar) (L : List Ld) (X : List Mv) (T : Int) (y x : Mv) (cs : List Cf) (p is g : Bool) (k : Nat) (hl : cs.length ≤ 1000000) (hcs : ∀ c ∈ cs, inC A L X c) {Q : Out → AS → Prop}
    (hat : 0 ≤ (k : Int) ∧ (X.map mc)[((k : Int)).toNat]? = some (mc x))
    (c29 : APure (C m) 29 [aA A] (aA A)) (c42 : APure (C m) 42 [aL L] (aL L)) (c56 : ∀ y : Mv, APure (C m) 56 [.agg (mc y)] (.agg (mc y)))
    (c55 : APure (C m) 55 [aA A, aL L, .agg (mc x)] (.tup [Bo is, I 0]))
    (c55g : APure (C m) 55 [aA A, aL L, .agg (mc { x with size := 3 })] (.tup [Bo g, I 0])) (his : is = !(cs.any fun c => decide (c.m = k))) (hg : g = true → is = true)
    (hq : Q .normal (sC (frM X cs (p && is) k) A L X T y)) :
    AWp (C m) Tryz.f11.ntmps (pieceAt [1, 1, 1, 1, 1, 1, 1, 0, 1, 0, 0, 1, 1, 0] c11) Q (sC (frM X cs p k) A L X T y) := by
  refine AWp.block ?_
  refine AWp.seq ?_
  refine AWp.post ?_
  refine codeK_sound good (mu := []) ?_
  conv => whnf
  repeat' (first
    | (refine SEx.mk _ (by first | exact hat) ?_; conv => whnf)
    | fail)
  refine ⟨sCb x ((14, .p (I k)) :: (15, .box 0 0) :: frM X cs p k) A L X T y, ?_, ?_⟩
  · skip
    · refine SLe.of [(0, 0)] [] rfl rfl ?_
      conv => whnf
      repeat' (first
      | exact True.intro
      | (refine SAnd.mk (PLe.refl _) ?_; conv => whnf)
      | (refine SAnd.mk (PLeL.refl _) ?_; conv => whnf))
  have b1 := c56 x
  have b2 : APure (C m) 56 [.agg [St x.name, I 3, I x.box.lo.x, I x.box.lo.y, I x.box.hi.x, I x.box.hi.y, I x.lo, I x.hi]] (.agg (mc { x with size := 3 })) := c56 { x with size := 3 }
  refine AWp.mid (sCb x ((14, .p (I k)) :: (15, .box 0 0) :: (16, .p (Bo is)) :: (17, .p (I 0)) :: frM X cs p k) A L X T y) ?_ ?_
  · refine AWp.mid (sCb x ((14, .p (I k)) :: (15, .box 0 0) :: (16, .p (Bo is)) :: frM X cs p k) A L X T y) (AWp.mid (sCb x ((14, .p (I k)) :: (15, .box 0 0) :: (16, .p (Bo is)) :: (18, .p (Bo false)) :: frM X cs p k) A L X T y) (AWp.mid _ ?_ (move_has A L X T y x cs p is k hl hcs SLe.refl)) ?_) ?_
    · generalize (cs.any fun c => decide (c.m = k)) = has at *
      subst his
      refine AWp.post ?_
      cases has
      · cases g
        · cases p
          · refine codeK_sound good (mu := []) ?_
            conv => whnf
            repeat' (first
              | (refine SBool.mk (fun _ => ?_) (fun h => absurd (of_decide_eq_true rfl) h); conv => whnf)
              | (refine SBool.mk (fun h => absurd h (of_decide_eq_false rfl)) (fun _ => ?_); conv => whnf)
              | (refine SEx.mk _ (by first | exact c29 | exact c42 | exact b2 | exact c55g | exact eql_bool _ _) ?_; conv => whnf)
              | (refine SAnd.mk (by first | exact rfl | kernel_rfl | omega | decide | exact c29 | exact c42 | exact b2 | exact c55g | exact eql_bool _ _) ?_; conv => whnf)
              | fail)
            refine ⟨_, ?_, hq⟩
            skip
            · refine SLe.of [] [] rfl rfl ?_
              conv => whnf
              repeat' (first
              | exact True.intro
              | (refine SAnd.mk (PLe.refl _) ?_; conv => whnf))
          · refine codeK_sound good (mu := []) ?_
            conv => whnf
            repeat' (first
              | (refine SBool.mk (fun _ => ?_) (fun h => absurd (of_decide_eq_true rfl) h); conv => whnf)
              | (refine SBool.mk (fun h => absurd h (of_decide_eq_false rfl)) (fun _ => ?_); conv => whnf)
              | (refine SEx.mk _ (by first | exact c29 | exact c42 | exact b2 | exact c55g | exact eql_bool _ _) ?_; conv => whnf)
              | (refine SAnd.mk (by first | exact rfl | kernel_rfl | omega | decide | exact c29 | exact c42 | exact b2 | exact c55g | exact eql_bool _ _) ?_; conv => whnf)
              | fail)
            refine ⟨_, ?_, hq⟩
            skip
            · refine SLe.of [] [] rfl rfl ?_
              conv => whnf
              repeat' (first
              | exact True.intro
              | (refine SAnd.mk (PLe.refl _) ?_; conv => whnf))
        · cases p
          · refine codeK_sound good (mu := []) ?_
            conv => whnf
            repeat' (first
              | (refine SBool.mk (fun _ => ?_) (fun h => absurd (of_decide_eq_true rfl) h); conv => whnf)
              | (refine SBool.mk (fun h => absurd h (of_decide_eq_false rfl)) (fun _ => ?_); conv => whnf)
              | (refine SEx.mk _ (by first | exact c29 | exact c42 | exact b2 | exact c55g | exact eql_bool _ _) ?_; conv => whnf)
              | (refine SAnd.mk (by first | exact rfl | kernel_rfl | omega | decide | exact c29 | exact c42 | exact b2 | exact c55g | exact eql_bool _ _) ?_; conv => whnf)
              | fail)
            refine ⟨_, ?_, hq⟩
            skip
            · refine SLe.of [] [] rfl rfl ?_
              conv => whnf
              repeat' (first
              | exact True.intro
              | (refine SAnd.mk (PLe.refl _) ?_; conv => whnf))
          · refine codeK_sound good (mu := []) ?_
            conv => whnf
            repeat' (first
              | (refine SBool.mk (fun _ => ?_) (fun h => absurd (of_decide_eq_true rfl) h); conv => whnf)
              | (refine SBool.mk (fun h => absurd h (of_decide_eq_false rfl)) (fun _ => ?_); conv => whnf)
              | (refine SEx.mk _ (by first | exact c29 | exact c42 | exact b2 | exact c55g | exact eql_bool _ _) ?_; conv => whnf)
              | (refine SAnd.mk (by first | exact rfl | kernel_rfl | omega | decide | exact c29 | exact c42 | exact b2 | exact c55g | exact eql_bool _ _) ?_; conv => whnf)
              | fail)
            refine ⟨_, ?_, hq⟩
            skip
            · refine SLe.of [] [] rfl rfl ?_
              conv => whnf
              repeat' (first
              | exact True.intro
              | (refine SAnd.mk (PLe.refl _) ?_; conv => whnf))
      · cases g
        · cases p
          · refine codeK_sound good (mu := []) ?_
            conv => whnf
            repeat' (first
              | (refine SBool.mk (fun _ => ?_) (fun h => absurd (of_decide_eq_true rfl) h); conv => whnf)
              | (refine SBool.mk (fun h => absurd h (of_decide_eq_false rfl)) (fun _ => ?_); conv => whnf)
              | (refine SEx.mk _ (by first | exact c29 | exact c42 | exact b2 | exact c55g | exact eql_bool _ _) ?_; conv => whnf)
              | (refine SAnd.mk (by first | exact rfl | kernel_rfl | omega | decide | exact c29 | exact c42 | exact b2 | exact c55g | exact eql_bool _ _) ?_; conv => whnf)
              | fail)
            refine ⟨_, ?_, hq⟩
            skip
            · refine SLe.of [] [] rfl rfl ?_
              conv => whnf
              repeat' (first
              | exact True.intro
              | (refine SAnd.mk (PLe.refl _) ?_; conv => whnf))
          · refine codeK_sound good (mu := []) ?_
            conv => whnf
            repeat' (first
              | (refine SBool.mk (fun _ => ?_) (fun h => absurd (of_decide_eq_true rfl) h); conv => whnf)
              | (refine SBool.mk (fun h => absurd h (of_decide_eq_false rfl)) (fun _ => ?_); conv => whnf)
              | (refine SEx.mk _ (by first | exact c29 | exact c42 | exact b2 | exact c55g | exact eql_bool _ _) ?_; conv => whnf)
              | (refine SAnd.mk (by first | exact rfl | kernel_rfl | omega | decide | exact c29 | exact c42 | exact b2 | exact c55g | exact eql_bool _ _) ?_; conv => whnf)
              | fail)
            refine ⟨_, ?_, hq⟩
            skip
            · refine SLe.of [] [] rfl rfl ?_
              conv => whnf
              repeat' (first
              | exact True.intro
              | (refine SAnd.mk (PLe.refl _) ?_; conv => whnf))
        · exact absurd (hg rfl) (by decide)
    · refine codeK_sound good (mu := []) ?_
      conv => whnf
      repeat' (first
        | fail)
      skip
      · refine SLe.of [(0, 0)] [] rfl rfl ?_
        conv => whnf
        repeat' (first
        | exact True.intro
        | (refine SAnd.mk (PLe.refl _) ?_; conv => whnf)
        | (refine SAnd.mk (PLeL.refl _) ?_; conv => whnf))
    · refine codeK_sound good (mu := []) ?_
      conv => whnf
      repeat' (first
        | (refine SBool.mk (fun _ => ?_) (fun h => absurd (of_decide_eq_true rfl) h); conv => whnf)
        | fail)
      skip
      · refine SLe.of [(0, 0)] [] rfl rfl ?_
        conv => whnf
        repeat' (first
        | exact True.intro
        | (refine SAnd.mk (PLe.refl _) ?_; conv => whnf)
        | (refine SAnd.mk (PLeL.refl _) ?_; conv => whnf))
  · refine codeK_sound good (mu := []) ?_
    conv => whnf
    repeat' (first
      | (refine SEx.mk _ (by first | exact c29 | exact c42 | exact b1 | exact c55) ?_; conv => whnf)
      | (refine SAnd.mk (by first | exact rfl | kernel_rfl | omega | decide | exact c29 | exact c42 | exact b1 | exact c55) ?_; conv => whnf)
      | fail)
    skip
    · refine SLe.of [(0, 0)] [] rfl rfl ?_
      conv => whnf
      repeat' (first
      | exact True.intro
      | (refine SAnd.mk (PLe.refl _) ?_; conv => whnf)
      | (refine SAnd.mk (PLeL.refl _) ?_; conv => whnf))
end
end Go.Proofs.Ab.Area
end
section
/- A law on conflicts: its head. -/
set_option maxRecDepth 100000
set_option linter.unusedVariables false
set_option linter.unusedSimpArgs false
namespace Go.Proofs.Ab.Area
open Go Go.RowKit Go.Proofs.Ab
theorem mul_w {a b c : Nat} (e : a * b = c) (h : c ≤ 1000000) : wrapK .i64 ((a : Int) * (b : Int)) = (c : Int) := by
  rw [← Int.natCast_mul, e]
  exact w64 (by omega)
section
attribute [local irreducible] APure
set_option maxHeartbeats 4000000 in
theorem clr_moves {m : Int} (A : List Ar) (L : List Ld) (X : List Mv) (T : Int) (y : Mv) (cs : List Cf) (W : Mv → Bool) (hl : cs.length ≤ 1000000) (hX : X.length ≤ 1000000) (hcs : ∀ c ∈ cs, inC A L X c)
    (c29 : APure (C m) 29 [aA A] (aA A)) (c42 : APure (C m) 42 [aL L] (aL L)) (c56 : ∀ y : Mv, APure (C m) 56 [.agg (mc y)] (.agg (mc y)))
    (c55 : ∀ x ∈ X, APure (C m) 55 [aA A, aL L, .agg (mc x)] (.tup [Bo (W x), I 0]))
    (c55g : ∀ x ∈ X, APure (C m) 55 [aA A, aL L, .agg (mc { x with size := 3 })] (.tup [Bo (W { x with size := 3 }), I 0])) (his : ∀ k (h : k < X.length), W X[k] = !(cs.any fun c => decide (c.m = k))) (hg : ∀ x ∈ X, W { x with size := 3 } = true → W x = true)
    (go : ∀ p : Bool, (p = true → ∀ x ∈ X, W x = true) → AWp (C m) Tryz.f11.ntmps (q11 8) (endV m [ResultVar.tmp 6] (Bo true)) (sC [(13, .p (Bo p)), (11, .p (.seq 3 (cs.map cc)))] A L X T y)) :
    AWp (C m) Tryz.f11.ntmps (q11 7) (endV m [ResultVar.tmp 6] (Bo true)) (sC [(13, .p (Bo true)), (11, .p (.seq 3 (cs.map cc)))] A L X T y) := by
  refine codeN_sound good (mu := []) (n := 1) ?_
  conv => whnf
  repeat' (first
    | fail)
  refine ⟨AWp.loop (ι := { q : Nat × Bool // q.1 ≤ X.length ∧ (q.2 = true → ∀ j (h : j < X.length), j < q.1 → W X[j] = true) }) (fun q => sC (frM X cs q.1.2 q.1.1) A L X T y) (fun q => X.length - q.1.1) ⟨(0, true), by simp, fun _ j _ h => absurd h (Nat.not_lt_zero j)⟩ ?_ ?_⟩
  · skip
    · refine SLe.of [] [] rfl rfl ?_
      conv => whnf
      repeat' (first
      | exact True.intro
      | (refine SAnd.mk (PLe.refl _) ?_; conv => whnf)
      | (refine SAnd.mk (PLe.of_eq (by simp)) ?_; conv => whnf))
  · rintro ⟨⟨k, p⟩, hk, hp⟩
    replace hp : p = true → ∀ j (h : j < X.length), j < k → W X[j] = true := hp
    refine codeN_sound good (mu := []) (n := 2) ?_
    conv => whnf
    refine SBool.mk (fun hcn => ?_) (fun hcn => ?_)
    · have hkl : k < X.length := by simpa using hcn
      have wk : wrapK IntKind.i64 ((k : Int) + 1) = k + 1 := w64 (by omega)
      have hm := List.getElem_mem hkl
      conv => whnf
      refine ⟨AWp.seq (AWp.le ?_ (move_round A L X T y X[k] cs p (W X[k]) (W { X[k] with size := 3 }) k hl hcs (some_at hkl mc) c29 c42 c56 (c55 _ hm) (c55g _ hm) (his k hkl) (hg _ hm) ?_))⟩
      · skip
        · refine SLe.of [] [] rfl rfl ?_
          conv => whnf
          repeat' (first
          | exact True.intro
          | (refine SAnd.mk (PLe.refl _) ?_; conv => whnf))
      · refine codeK_sound good (mu := []) ?_
        conv => whnf
        repeat' (first
          | (rw [wk]; conv => whnf)
          | fail)
        refine ⟨⟨(k + 1, p && W X[k]), hkl, fun h j hj hjk => by
          obtain ⟨h1, h2⟩ := Bool.and_eq_true_iff.1 h
          rcases Nat.lt_succ_iff_lt_or_eq.1 hjk with h | h
          · exact hp h1 j hj h
          · subst h; exact h2⟩, sub_lt hkl, ?_⟩
        skip
        · refine SLe.of [] [] rfl rfl ?_
          conv => whnf
          repeat' (first
          | exact True.intro
          | (refine SAnd.mk (PLe.refl _) ?_; conv => whnf))
    · have hkr : k = X.length := by simp at hcn; omega
      subst hkr
      conv => whnf
      refine ⟨AWp.le ?_ (go p fun h x hx => by
        obtain ⟨j, hj, rfl⟩ := List.getElem_of_mem hx
        exact hp h j hj hj)⟩
      skip
      · refine SLe.of [] [] rfl rfl ?_
        conv => whnf
        repeat' (first
        | exact True.intro
        | (refine SAnd.mk (PLe.refl _) ?_; conv => whnf))
set_option maxHeartbeats 4000000 in
theorem clr_conf {m : Int} (A : List Ar) (L : List Ld) (X : List Mv) (T : Int) (y : Mv) (cs : List Cf) (hA : A.length ≤ 100) (hL : L.length ≤ 100) (hX : X.length ≤ 100) (hcs : cs.length ≤ L.length * X.length * A.length)
    (c29 : APure (C m) 29 [aA A] (aA A)) (c42 : APure (C m) 42 [aL L] (aL L)) (c43 : APure (C m) 43 [aX X] (aX X))
    (c41 : APure (C m) 41 [aA A, aL L, aX X] (.tup [.seq 3 (cs.map cc), I 0]))
    (go : AWp (C m) Tryz.f11.ntmps (q11 7) (endV m [ResultVar.tmp 6] (Bo true)) (sC [(13, .p (Bo true)), (11, .p (.seq 3 (cs.map cc)))] A L X T y)) :
    AWp (C m) Tryz.f11.ntmps (q11 4) (endV m [ResultVar.tmp 6] (Bo true)) (sC [] A L X T y) := by
  have m1 : A.length * L.length ≤ 100 * 100 := Nat.mul_le_mul hA hL
  have m2 : A.length * L.length * X.length ≤ 100 * 100 * 100 := Nat.mul_le_mul m1 hX
  have m3 : L.length * X.length * A.length = A.length * L.length * X.length := by rw [Nat.mul_comm _ A.length, Nat.mul_assoc]
  have hN : ¬ ((A.length * L.length * X.length : Nat) : Int) < (((cs.map cc).length : Nat) : Int) := fun h => by
    have h := Int.ofNat_lt.1 h
    rw [List.length_map] at h
    exact absurd (Nat.lt_of_lt_of_le h (m3 ▸ hcs)) (Nat.lt_irrefl _)
  have w1 := mul_w (a := (A.map ac).length) (b := (L.map lc).length) (c := A.length * L.length) (by rw [List.length_map, List.length_map]) (Nat.le_trans m1 (by decide))
  have w2 := mul_w (a := A.length * L.length) (b := (X.map mc).length) (c := A.length * L.length * X.length) (by rw [List.length_map]) (Nat.le_trans m2 (by decide))
  clear hcs m1 m2 m3
  refine AWp.mid (sC [(11, .p (.seq 3 (cs.map cc))), (12, .p (I 0))] A L X T y) (AWp.mid (sC [(11, .p (.seq 3 (cs.map cc)))] A L X T y) (AWp.mid _ go ?_) ?_) ?_
  · refine codeK_sound good (mu := []) ?_
    conv => whnf
    repeat' (first
      | fail)
    skip
    · refine SLe.of [] [] rfl rfl ?_
      conv => whnf
      repeat' (first
      | exact True.intro
      | (refine SAnd.mk (PLe.refl _) ?_; conv => whnf))
  · refine codeK_sound good (mu := []) ?_
    conv => whnf
    repeat' (first
      | (rw [w2]; conv => whnf)
      | (rw [w1]; conv => whnf)
      | (refine SBool.mk (fun _ => ?_) (fun h => absurd (of_decide_eq_true rfl) h); conv => whnf)
      | (refine SBool.mk (fun h => ?_) (fun h => ?_) <;> conv => whnf)
      | fail)
    all_goals first
      | exact absurd (by assumption) hN
      | skip
    all_goals
      skip
      · refine SLe.of [] [] rfl rfl ?_
        conv => whnf
        repeat' (first
        | exact True.intro
        | (refine SAnd.mk (PLe.refl _) ?_; conv => whnf))
  · refine codeK_sound good (mu := []) ?_
    conv => whnf
    repeat' (first
      | (refine SEx.mk _ (by first | exact c29 | exact c42 | exact c43 | exact c41) ?_; conv => whnf)
      | (refine SAnd.mk (by first | exact rfl | kernel_rfl | omega | decide | exact c29 | exact c42 | exact c43 | exact c41) ?_; conv => whnf)
      | fail)
    skip
    · refine SLe.of [] [] rfl rfl ?_
      conv => whnf
      repeat' (first
      | exact True.intro
      | (refine SAnd.mk (PLe.refl _) ?_; conv => whnf))
set_option maxHeartbeats 4000000 in
theorem clr_soonX {m : Int} (A : List Ar) (L : List Ld) (X : List Mv) (T : Int) (y : Mv) (hX : X.length ≤ 1000000) (hw : APure (C m) 13 [] (Bo true))
    (go : (∀ x ∈ X, x.hi ≤ 200) → AWp (C m) Tryz.f11.ntmps (q11 4) (endV m [ResultVar.tmp 6] (Bo true)) (sC [] A L X T y)) :
    AWp (C m) Tryz.f11.ntmps (q11 3) (endV m [ResultVar.tmp 6] (Bo true)) (sC [] A L X T y) := by
  refine codeN_sound good (mu := []) (n := 1) ?_
  conv => whnf
  repeat' (first
    | fail)
  refine ⟨AWp.loop (ι := { k : Nat // k ≤ X.length ∧ ∀ j (h : j < X.length), j < k → X[j].hi ≤ 200 }) (fun k => sC [(137, .p (I k.1)), (136, .p (I X.length)), (135, .p (.seq 8 (X.map mc)))] A L X T y) (fun k => X.length - k.1) ⟨0, by simp, fun j _ h => absurd h (Nat.not_lt_zero j)⟩ ?_ ?_⟩
  · skip
    · refine SLe.of [] [] rfl rfl ?_
      conv => whnf
      repeat' (first
      | exact True.intro
      | (refine SAnd.mk (PLe.refl _) ?_; conv => whnf)
      | (refine SAnd.mk (PLe.of_eq (by simp)) ?_; conv => whnf))
  · rintro ⟨k, hk, hp⟩
    refine codeK_sound good (mu := []) ?_
    conv => whnf
    refine SBool.mk (fun hcn => ?_) (fun hcn => ?_)
    · have hkl : k < X.length := by simpa using hcn
      have hat := some_at hkl mc
      have wk : wrapK IntKind.i64 ((k : Int) + 1) = k + 1 := w64 (by omega)
      have mk := sub_lt hkl
      have nx : ¬ 200 < X[k].hi → ∀ j (h : j < X.length), j < k + 1 → X[j].hi ≤ 200 := fun hh j hj hjk => by
        rcases Nat.lt_succ_iff_lt_or_eq.1 hjk with h | h
        · exact hp j hj h
        · subst h; omega
      generalize X[k] = x at hat nx
      skip
      conv => whnf
      repeat' (first
        | (rw [wk]; conv => whnf)
        | (refine SBool.mk (fun h => ?_) (fun h => ?_) <;> conv => whnf)
        | (refine SEx.mk _ (by first | exact hat | exact hw) ?_; conv => whnf)
        | fail)
      all_goals first
        | exact ⟨PLe.refl _⟩
        | refine ⟨⟨k + 1, hkl, nx (by assumption)⟩, mk, ?_⟩
      skip
      · refine SLe.of [] [] rfl rfl ?_
        conv => whnf
        repeat' (first
        | exact True.intro
        | (refine SAnd.mk (PLe.refl _) ?_; conv => whnf))
    · have hkr : k = X.length := by simp at hcn; omega
      subst hkr
      conv => whnf
      refine ⟨AWp.le ?_ (go fun x hx => by
        obtain ⟨j, hj, rfl⟩ := List.getElem_of_mem hx
        exact hp j hj hj)⟩
      skip
      · refine SLe.of [] [] rfl rfl ?_
        conv => whnf
        repeat' (first
        | exact True.intro
        | (refine SAnd.mk (PLe.refl _) ?_; conv => whnf))
set_option maxHeartbeats 4000000 in
theorem clr_soonL {m : Int} (A : List Ar) (L : List Ld) (X : List Mv) (T : Int) (y : Mv) (hX : L.length ≤ 1000000) (hw : APure (C m) 13 [] (Bo true))
    (go : (∀ x ∈ L, x.hi ≤ 200) → AWp (C m) Tryz.f11.ntmps (q11 3) (endV m [ResultVar.tmp 6] (Bo true)) (sC [] A L X T y)) :
    AWp (C m) Tryz.f11.ntmps (q11 2) (endV m [ResultVar.tmp 6] (Bo true)) (sC [] A L X T y) := by
  refine codeN_sound good (mu := []) (n := 1) ?_
  conv => whnf
  repeat' (first
    | fail)
  refine ⟨AWp.loop (ι := { k : Nat // k ≤ L.length ∧ ∀ j (h : j < L.length), j < k → L[j].hi ≤ 200 }) (fun k => sC [(124, .p (I k.1)), (123, .p (I L.length)), (122, .p (.seq 4 (L.map lc)))] A L X T y) (fun k => L.length - k.1) ⟨0, by simp, fun j _ h => absurd h (Nat.not_lt_zero j)⟩ ?_ ?_⟩
  · skip
    · refine SLe.of [] [] rfl rfl ?_
      conv => whnf
      repeat' (first
      | exact True.intro
      | (refine SAnd.mk (PLe.refl _) ?_; conv => whnf)
      | (refine SAnd.mk (PLe.of_eq (by simp)) ?_; conv => whnf))
  · rintro ⟨k, hk, hp⟩
    refine codeK_sound good (mu := []) ?_
    conv => whnf
    refine SBool.mk (fun hcn => ?_) (fun hcn => ?_)
    · have hkl : k < L.length := by simpa using hcn
      have hat := some_at hkl lc
      have wk : wrapK IntKind.i64 ((k : Int) + 1) = k + 1 := w64 (by omega)
      have mk := sub_lt hkl
      have nx : ¬ 200 < L[k].hi → ∀ j (h : j < L.length), j < k + 1 → L[j].hi ≤ 200 := fun hh j hj hjk => by
        rcases Nat.lt_succ_iff_lt_or_eq.1 hjk with h | h
        · exact hp j hj h
        · subst h; omega
      generalize L[k] = x at hat nx
      skip
      conv => whnf
      repeat' (first
        | (rw [wk]; conv => whnf)
        | (refine SBool.mk (fun h => ?_) (fun h => ?_) <;> conv => whnf)
        | (refine SEx.mk _ (by first | exact hat | exact hw) ?_; conv => whnf)
        | fail)
      all_goals first
        | exact ⟨PLe.refl _⟩
        | refine ⟨⟨k + 1, hkl, nx (by assumption)⟩, mk, ?_⟩
      skip
      · refine SLe.of [] [] rfl rfl ?_
        conv => whnf
        repeat' (first
        | exact True.intro
        | (refine SAnd.mk (PLe.refl _) ?_; conv => whnf))
    · have hkr : k = L.length := by simp at hcn; omega
      subst hkr
      conv => whnf
      refine ⟨AWp.le ?_ (go fun x hx => by
        obtain ⟨j, hj, rfl⟩ := List.getElem_of_mem hx
        exact hp j hj hj)⟩
      skip
      · refine SLe.of [] [] rfl rfl ?_
        conv => whnf
        repeat' (first
        | exact True.intro
        | (refine SAnd.mk (PLe.refl _) ?_; conv => whnf))
end
end Go.Proofs.Ab.Area
end
section
/- A law on conflicts: its guard. -/
set_option maxRecDepth 100000
set_option linter.unusedVariables false
set_option linter.unusedSimpArgs false
namespace Go.Proofs.Ab.Area
open Go Go.RowKit Go.Proofs.Ab
section
attribute [local irreducible] APure
set_option maxHeartbeats 16000000 in
theorem clr_guard {m : Int} (A : List Ar) (L : List Ld) (X : List Mv) (T : Int) (y : Mv) (ea el ex ey : Int) (hw : APure (C m) 13 [] (Bo true))
    (c26 : APure (C m) 26 [aA A] (Bo true)) (c54 : APure (C m) 54 [aL L] (Bo true)) (c85 : APure (C m) 85 [aX X] (Bo true))
    (c32 : APure (C m) 32 [aA A] (I ea)) (c45 : APure (C m) 45 [aL L] (I el)) (c46 : APure (C m) 46 [aX X] (I ex)) (c58 : APure (C m) 58 [.agg (mc y)] (I ey))
    (go : ¬ 4 < (((A.map ac).length : Nat) : Int) → ea = 0 → ¬ 5 < (((L.map lc).length : Nat) : Int) → el = 0 → ¬ 5 < (((X.map mc).length : Nat) : Int) → ex = 0 → ey = 0 → ¬ 200 < y.hi → ¬ 20 < wrapK .i64 (y.hi - y.lo) → AWp (C m) Tryz.f11.ntmps (q11 2) (endV m [ResultVar.tmp 6] (Bo true)) (sC [] A L X T y)) :
    APure (C m) 11 [aA A, .agg (trc L X T), .agg (mc y)] (Bo true) := by
  refine APure.of_wp good (fn := Tryz.f11) (by kernel_rfl) (by kernel_rfl) rfl rfl (by kernel_rfl) rfl (by kernel_rfl) ?_
  refine codeN_sound good (mu := []) (n := 2) ?_
  conv => whnf
  repeat' (first
    | (refine SBool.mk (fun h => ?_) (fun h => ?_) <;> conv => whnf)
    | (refine SEx.mk _ (by first | exact hw | exact c26 | exact c54 | exact c85 | exact c32 | exact c45 | exact c46 | exact c58) ?_; conv => whnf)
    | fail)
  all_goals first
    | exact ⟨PLe.refl _⟩
    | skip
  all_goals
    refine ⟨AWp.le ?_ (go (by assumption) (by assumption) (by assumption) (by assumption) (by assumption) (by assumption) (by assumption) (by assumption) (by assumption))⟩
    skip
    · refine SLe.of [] [] rfl rfl ?_
      conv => whnf
      repeat' (first
      | exact True.intro
      | (refine SAnd.mk (PLe.refl _) ?_; conv => whnf))
set_option maxHeartbeats 4000000 in
theorem clr_badX {m : Int} (A : List Ar) (L : List Ld) (X : List Mv) (T : Int) (y : Mv) (ea el : Int) (hw : APure (C m) 13 [] (Bo true))
    (c26 : APure (C m) 26 [aA A] (Bo true)) (c54 : APure (C m) 54 [aL L] (Bo true)) (c85 : APure (C m) 85 [aX X] (Bo false))
    (c32 : APure (C m) 32 [aA A] (I ea)) (c45 : APure (C m) 45 [aL L] (I el)) :
    APure (C m) 11 [aA A, .agg (trc L X T), .agg (mc y)] (Bo true) := by
  refine APure.of_body good [] (fn := Tryz.f11) (by kernel_rfl) (by kernel_rfl) rfl rfl (by kernel_rfl) rfl (by kernel_rfl) ?_
  conv => whnf
  repeat' (first
    | (refine SBool.mk (fun h => ?_) (fun h => ?_) <;> conv => whnf)
    | (refine SEx.mk _ (by first | exact hw | exact c26 | exact c54 | exact c85 | exact c32 | exact c45) ?_; conv => whnf)
    | fail)
  all_goals exact ⟨PLe.refl _⟩
set_option maxHeartbeats 4000000 in
theorem clr_badL {m : Int} (A : List Ar) (L : List Ld) (X : List Mv) (T : Int) (y : Mv) (ea : Int) (hw : APure (C m) 13 [] (Bo true))
    (c26 : APure (C m) 26 [aA A] (Bo true)) (c54 : APure (C m) 54 [aL L] (Bo false)) (c32 : APure (C m) 32 [aA A] (I ea)) :
    APure (C m) 11 [aA A, .agg (trc L X T), .agg (mc y)] (Bo true) := by
  refine APure.of_body good [] (fn := Tryz.f11) (by kernel_rfl) (by kernel_rfl) rfl rfl (by kernel_rfl) rfl (by kernel_rfl) ?_
  conv => whnf
  repeat' (first
    | (refine SBool.mk (fun h => ?_) (fun h => ?_) <;> conv => whnf)
    | (refine SEx.mk _ (by first | exact hw | exact c26 | exact c54 | exact c32) ?_; conv => whnf)
    | fail)
  all_goals exact ⟨PLe.refl _⟩
set_option maxHeartbeats 4000000 in
theorem clr_badA {m : Int} (A : List Ar) (L : List Ld) (X : List Mv) (T : Int) (y : Mv) (hw : APure (C m) 13 [] (Bo true))
    (c26 : APure (C m) 26 [aA A] (Bo false)) :
    APure (C m) 11 [aA A, .agg (trc L X T), .agg (mc y)] (Bo true) := by
  refine APure.of_body good [] (fn := Tryz.f11) (by kernel_rfl) (by kernel_rfl) rfl rfl (by kernel_rfl) rfl (by kernel_rfl) ?_
  conv => whnf
  repeat' (first
    | (refine SBool.mk (fun h => ?_) (fun h => ?_) <;> conv => whnf)
    | (refine SEx.mk _ (by first | exact hw | exact c26) ?_; conv => whnf)
    | fail)
  all_goals exact ⟨PLe.refl _⟩
end
end Go.Proofs.Ab.Area
end
section
/- The law on conflicts, joined. -/
set_option maxRecDepth 100000
set_option linter.unusedVariables false
set_option linter.unusedSimpArgs false
namespace Go.Proofs.Ab.Area
open Go Go.RowKit Go.Proofs.Ab
theorem conf_ok {m : Int} {A : List Ar} {L : List Ld} {X : List Mv} (hl : A.length ≤ 1000000) (hp : ∀ a ∈ A, a.poly.length ≤ 1000) (hx : L.length ≤ 1000000) (hy : X.length ≤ 1000000) (h : sceneE A L X = 0) :
    APure (C m) 41 [aA A, aL L, aX X] (.tup [.seq 3 ((conf A L X).map cc), I 0]) := by
  have := Conflicts_pure (m := m) A L X hl (fun _ => hp) hx hy
  unfold conflictsV at this
  rwa [if_pos h, h] at this
theorem perm_ok {m : Int} {A : List Ar} {L : List Ld} {x : Mv} (hl : A.length ≤ 1000000) (hp : ∀ a ∈ A, a.poly.length ≤ 1000) (hx : L.length ≤ 1000000) (h : sceneE A L [x] = 0) :
    APure (C m) 55 [aA A, aL L, .agg (mc x)] (.tup [Bo (permB A L x), I 0]) := by
  have := Permitted_pure (m := m) A L x hl (fun _ => hp) hx
  unfold permR permE at this
  rwa [if_pos h, h] at this
theorem clear_ok {m : Int} {A : List Ar} {L : List Ld} {X : List Mv} {t : Int} (hl : A.length ≤ 1000000) (hp : ∀ a ∈ A, a.poly.length ≤ 1000) (hx : L.length ≤ 1000000) (hy : X.length ≤ 1000000) (h : sceneE A L X = 0) (ht : 0 ≤ t ∧ t ≤ 200) :
    APure (C m) 44 [aA A, aL L, aX X, I t] (.tup [Bo (clearL A L X t), I 0]) := by
  have := Clear_pure (m := m) A L X t hl (fun _ => hp) hx hy
  have e : clearE A L X t = 0 := by
    unfold clearE within
    rw [firstOf_zero, firstOf_zero]
    exact ⟨h, if_neg (by omega), rfl⟩
  unfold clearR at this
  rwa [if_pos e, e] at this
set_option maxHeartbeats 1000000 in
theorem AreaClear_pure {m : Int} (A : List Ar) (L : List Ld) (X : List Mv) (T : Int) (y : Mv) (hA : A.length ≤ 9223372036854775807) (hL : L.length ≤ 9223372036854775807) (hX : X.length ≤ 9223372036854775807) :
    APure (C m) 11 [aA A, .agg (trc L X T), .agg (mc y)] (Bo true) := by
  obtain ⟨b1, s1, c26⟩ := shortAreas_pure (m := m) A hA
  cases b1
  · exact clr_badA A L X T y awake_pure c26
  have q1 := s1 rfl
  have l1 : A.length ≤ 1000000 := by have := q1.2; omega
  have lp : ∀ a ∈ A, a.poly.length ≤ 1000 := fun a ha => by have := (q1.1 a ha).2; omega
  have c32 := refAreas_pure (m := m) A l1 (fun _ => lp)
  obtain ⟨b2, s2, c54⟩ := shortLands_pure (m := m) L hL
  cases b2
  · exact clr_badL A L X T y (areasE A) awake_pure c26 c54 c32
  have l2 : L.length ≤ 1000000 := by have := (s2 rfl).2; omega
  have c45 := refLands_pure (m := m) L l2
  obtain ⟨b3, s3, c85⟩ := shortMoves_pure (m := m) X hX
  cases b3
  · exact clr_badX A L X T y (areasE A) (landsE L) awake_pure c26 c54 c85 c32 c45
  have l3 : X.length ≤ 1000000 := by have := (s3 rfl).2; omega
  have c46 := refMoves_pure (m := m) X l3
  have c58 := refMove_pure (m := m) y
  rw [← moves_one] at c58
  refine clr_guard A L X T y (areasE A) (landsE L) (movesE X) (movesE [y]) awake_pure c26 c54 c85 c32 c45 c46 c58 (fun gA eA gL eL gX eX eY gy gd => ?_)
  have nA : A.length ≤ 4 := by rw [List.length_map] at gA; omega
  have nL : L.length ≤ 5 := by rw [List.length_map] at gL; omega
  have nX : X.length ≤ 5 := by rw [List.length_map] at gX; omega
  have sc : sceneE A L X = 0 := scene_of.2 ⟨eA, eL, eX⟩
  have scy : sceneE A L [y] = 0 := scene_of.2 ⟨eA, eL, eY⟩
  have yt := ((moves_good eY).2 y (by simp)).1
  have ym := move_of.1 ((moves_ok eY).2 y (by simp))
  have gd' : y.hi - y.lo ≤ 20 := by rw [w64 (by omega)] at gd; omega
  have c29 := given_pure (m := m) A l1 (fun a ha => Nat.le_trans (lp a ha) (by decide))
  have c42 := landed_pure (m := m) L l2
  have c43 := moved_pure (m := m) X l3
  have lp' : ∀ a ∈ A.drop 1, a.poly.length ≤ 1000 := fun a ha => lp a (List.mem_of_mem_drop ha)
  have l1' : (A.drop 1).length ≤ 1000000 := by rw [List.length_drop]; omega
  have l2' : (L.drop 1).length ≤ 1000000 := by rw [List.length_drop]; omega
  have c29' := given_pure (m := m) (A.drop 1) l1' (fun a ha => Nat.le_trans (lp' a ha) (by decide))
  have c42' := landed_pure (m := m) (L.drop 1) l2'
  have hcl : (conf A L X).length ≤ 1000000 := by
    have := conf_count A L X
    have k1 : L.length * X.length ≤ 5 * 5 := Nat.mul_le_mul nL nX
    have k2 : L.length * X.length * A.length ≤ 5 * 5 * 4 := Nat.mul_le_mul k1 nA
    omega
  have one : ∀ x ∈ X, sceneE A L [x] = 0 := fun x hx => scene_of.2 ⟨eA, eL, moves_one_of eX hx rfl ((moves_ok eX).2 x hx)⟩
  have xm := fun x hx => move_of.1 ((moves_ok eX).2 x hx)
  have great : ∀ x ∈ X, sceneE A L [{ x with size := 3 }] = 0 := fun x hx => scene_of.2 ⟨eA, eL, moves_one_of eX hx rfl (move_of.2 ⟨⟨by show (0 : Int) ≤ 3; omega, by show (3 : Int) ≤ 3; omega⟩, (xm x hx).2⟩)⟩
  refine clr_soonL A L X T y l2 awake_pure (fun uL => clr_soonX A L X T y l3 awake_pure (fun uX => ?_))
  obtain ⟨k1, k2, k3, k4⟩ := earl_all scy (by omega) uL gd'
  refine clr_conf A L X T y (conf A L X) (by omega) (by omega) (by omega) (conf_count A L X) c29 c42 c43 (conf_ok l1 lp l2 l3 sc) ?_
  refine clr_moves A L X T y (conf A L X) (fun x => permB A L x) hcl l3 (fun c hc => ?_) c29 c42 (fun y => single_pure y) (fun x hx => perm_ok l1 lp l2 (one x hx)) (fun x hx => perm_ok l1 lp l2 (great x hx)) (fun k h => perm_has h) (fun x hx => perm_great (xm x hx).1.2) (fun p hp => ?_)
  · obtain ⟨i, hi, k, hk, j, hj, _, rfl⟩ := mem_confL hc
    exact ⟨⟨by show (0 : Int) ≤ (i : Int); omega, by show (i : Int) < _; omega⟩, ⟨by show (0 : Int) ≤ (j : Int); omega, by show (j : Int) < _; omega⟩, by show (0 : Int) ≤ (k : Int); omega, by show (k : Int) < _; omega⟩
  refine clr_ticks A L X T y (conf A L X) p (fun t => clearL A L X t) l2 l3 c29 c42 c43 (fun t h0 h1 => clear_ok l1 lp l2 l3 sc ⟨h0, h1⟩) (fun t h => clear_perm (hp h)) (fun t h => clear_has h) ?_
  refine clr_lessA A L X T y (conf A L X) (conf (A.drop 1) L X) (conf_tailA A L X) c29' c42 c43 (conf_ok l1' lp' l2 l3 (scene_of.2 ⟨areas_tail eA, eL, eX⟩)) ?_
  refine clr_lessL A L X T y (conf A L X) (conf A (L.drop 1) X) (conf_tailL A L X) c29 c42' c43 (conf_ok l1 lp l2' l3 (scene_of.2 ⟨eA, lands_tail eL, eX⟩)) ?_
  refine clr_earl A L X T y (bestE A L y (y.hi - y.lo)) ⟨k2, k3⟩ c29 c42 (single_pure y) ?_ ?_
  · have := Earliest_pure (m := m) A L y l1 (fun _ => lp) l2
    rwa [k1] at this
  refine clr_end A L X T y (bestE A L y (y.hi - y.lo)) ⟨yt.1, yt.2.1, by omega⟩ ⟨k2, k3⟩ awake_pure c29 c42 (fun y => single_pure y) (fun a b => span_pure a b) (fun t t1 t2 => ?_)
  have hs : sceneE A L [atT y t (y.hi - y.lo)] = 0 := scene_of.2 ⟨eA, eL, moves_one_of eY (v := y) (by simp) rfl (move_of.2 ⟨ym.1, ym.2.1, by show 0 ≤ t; omega, by show t < t + (y.hi - y.lo); omega, by show t + (y.hi - y.lo) ≤ 100000000; omega⟩)⟩
  have := perm_ok (m := m) l1 lp l2 hs
  rwa [k4 t t1 t2] at this
end Go.Proofs.Ab.Area
end
section
/- AreaClear: for every list of areas, landings and moves and every move the program's Conflicts, Permitted, Clear and Earliest stand to one another as the law says: the law returns true. (Wrong and late scenes are left out by the law itself; the listed variables are as the program's text lays them.) -/
set_option maxRecDepth 100000
set_option linter.unusedVariables false
set_option linter.unusedSimpArgs false
namespace Go.Proofs.YtlgkijilmpjdmaaGreatDoor
open Go Go.RowKit Go.Proofs.Ab Go.Proofs.Ab.Area
theorem areaClear_lifted (os : Os) (started : os.Started) (H : Type) (enc : TypeId × Value → H) :
    ReturnsInHanded {} Tryz.checked os 11 .any (fun w args => (Rows.areaClearSpec.pre enc Tryz.prog Tryz.f11 [] false w args ∧ laidMetH Tryz.prog listed w) ∧ sizedMet enc Tryz.prog Tryz.f11 (OpenSpec.ofChange Rows.areaClearSpec) false w args)
      (Rows.areaClearSpec.post enc Tryz.prog Tryz.f11 false true false false) := by
  refine lifted_of started (by as_aux_lemma => kernel_rfl) Tryz.func11 (ss := [(false, [.sl arSh]), (true, [.sl ldSh, .sl mvSh, .int .i64]), (true, mvSh)])
    (witness #[.slice none 0 0, .agg #[.slice none 0 0, .slice none 0 0, .int .i64 0], .agg #[.string ⟨#[]⟩, .int .i64 0, .int .i64 0, .int .i64 0, .int .i64 0, .int .i64 0, .int .i64 0, .int .i64 0]] (by as_aux_lemma => kernel_rfl) (by as_aux_lemma => kernel_rfl) (by as_aux_lemma => kernel_rfl) (World.shaped_of_ZipB (by as_aux_lemma => kernel_rfl) (by as_aux_lemma => kernel_rfl)) (laidMet_laidAll _ (by as_aux_lemma => kernel_rfl) (by as_aux_lemma => kernel_rfl)))
    ?_ (by as_aux_lemma => kernel_rfl) (by as_aux_lemma => kernel_rfl) rfl ?_ ?_
  · rw [Tryz.params11]
    intro t ht
    have hall : ([44, 68, 91].all fun u => Tryz.prog.readableRec u && decide (u < Tryz.prog.types.size)) = true := by as_aux_lemma => kernel_rfl
    have := List.all_eq_true.1 hall t (by simpa using ht)
    rw [Bool.and_eq_true, decide_eq_true_eq] at this
    exact this
  · rw [Tryz.params11]
    intro ds hd
    match ds, hd with
    | [d0, d1, d2], _ => exact ⟨rfl, rfl, rfl⟩
  · intro m xs h
    obtain ⟨x0, xs, rfl, h0, h⟩ := h.uncons
    obtain ⟨x1, xs, rfl, h1, h⟩ := h.uncons
    obtain ⟨x2, xs, rfl, h2, h⟩ := h.uncons
    obtain rfl := h.unnil
    obtain ⟨l, rfl, hl⟩ := fit_areas h0
    obtain ⟨a, b, t, rfl, ha, hb⟩ := fit_traffic h1
    obtain ⟨y, rfl⟩ := fit_move h2
    exact AreaClear_pure l a b t y hl ha hb
set_option maxHeartbeats 40000000 in
theorem areaClear_facts : joinedFacts Tryz.pinned.checked.prog 11 Tryz.f11 Rows.areaClearSpec Rows.areaClearRow = true := by
  unfold joinedFacts
  simp only [Bool.and_eq_true]
  repeat' apply And.intro
  all_goals as_aux_lemma => kernel_rfl
theorem areaClear_row : Rows.AreaClearSaid :=
  OpenClaim.holds_of_wide 11 Tryz.f11 rfl rfl rfl rfl rfl rfl rfl ⟨rfl, rfl, rfl, rfl, rfl⟩ rfl rfl rfl rfl rfl (by as_aux_lemma => kernel_rfl) Tryz.func11 areaClear_facts
    (of_decide_eq_true (by as_aux_lemma => kernel_rfl)) (by as_aux_lemma => unfold Func.isWrapper; first | (rw [if_pos (by decide +kernel)]; kernel_rfl) | (rw [if_neg (by decide +kernel)]; exact ⟨rfl, rfl⟩))
    (fun os started H enc _ => areaClear_lifted os started H enc)
theorem areaClear_named : Tryz.prog.funcNamed "glideslope/glideslopelaw05.AreaClear" = some 11 := by kernel_rfl
theorem areaClear_holds : Rows.AreaClearCardSaid :=
  Claim7.holds_tied_plain_at .later [] [.data, .data, .data, .data, .pinned] true (true, "8d132721e60c3e414474b7b7d1fa76c26332388e2b61df2dc171e81fefcccd9a") false areaClear_row (fun _ h => by cases h) (by as_aux_lemma => kernel_rfl) (fun _ h => by cases h) areaClear_row_tie rfl ⟨rfl, rfl⟩ (by as_aux_lemma => kernel_rfl) rfl
    (fun f fn hf hfn => by
      obtain rfl : f = 11 := Option.some.inj (areaClear_named.symm.trans hf) |>.symm
      obtain rfl : fn = Tryz.f11 := (Option.some.inj (Tryz.func11.symm.trans hfn)).symm
      exact ⟨by as_aux_lemma => kernel_rfl, fun j t ht => by
        rw [Tryz.params11] at ht
        have hm : t ∈ [44, 68, 91] := by simpa using Array.mem_of_getElem? ht
        have hall : ([44, 68, 91].all fun u => !Tryz.prog.wantsStandIn u) = true := by as_aux_lemma => kernel_rfl
        exact (show Tryz.prog.wantsStandIn t = false by simpa using List.all_eq_true.1 hall t hm)⟩)
    (by as_aux_lemma => kernel_rfl)
#print axioms areaClear_holds
end Go.Proofs.YtlgkijilmpjdmaaGreatDoor
end
