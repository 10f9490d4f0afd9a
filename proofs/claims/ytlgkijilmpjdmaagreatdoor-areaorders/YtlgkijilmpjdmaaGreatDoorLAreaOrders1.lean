/- The proof of AreaOrders (see the last theorem): for every input that can be read the law returns true; the listed package-level variables are as the program's text lays them. -/
import Derived.Test.YtlgkijilmpjdmaaGreatDoorK6
section
/- The shapes of the laws' parameters. -/
set_option maxRecDepth 100000
set_option linter.unusedVariables false
set_option linter.unusedSimpArgs false
namespace Go.Proofs.Ab.Area
open Go Go.RowKit Go.Proofs.Ab
abbrev hdSh : List Sh := [.str, .int .i64, .int .i64]
theorem maxLen_eq : maxLen = 9223372036854775807 := rfl
theorem fitL_fg {xs : List PV} (h : FitL hdSh xs) : ∃ a : Fg, xs = fc a := by
  obtain ⟨c1, xs, rfl, h1, h⟩ := h.uncons
  obtain ⟨c2, xs, rfl, h2, h⟩ := h.uncons
  obtain ⟨c3, xs, rfl, h3, h⟩ := h.uncons
  obtain rfl := h.unnil
  obtain ⟨s, rfl, _⟩ := h1.str_inv
  obtain ⟨n2, rfl, _⟩ := h2.int_inv
  obtain ⟨n3, rfl, _⟩ := h3.int_inv
  exact ⟨⟨s, n2, n3⟩, rfl⟩
theorem fit_sl {el : List Sh} {α : Type} {f : α → List PV} (hf : ∀ x, FitL el x → ∃ a, x = f a) {c : PV} (h : Fit (.sl el) c) : ∃ l : List α, c = .seq el.length (l.map f) ∧ l.length ≤ 9223372036854775807 := by
  obtain ⟨xs, rfl, hl, hx⟩ := h.sl_inv
  obtain ⟨l, rfl⟩ := rows_of hf hx
  exact ⟨l, rfl, by rw [← maxLen_eq]; simpa using hl⟩
theorem fit_list {el : List Sh} {α : Type} {f : α → List PV} (hf : ∀ x, FitL el x → ∃ a, x = f a) {x : PV} (h : FitP (false, [.sl el]) x) : ∃ l : List α, x = .seq el.length (l.map f) ∧ l.length ≤ 9223372036854775807 := by
  obtain ⟨c1, xs, e, h1, _⟩ := FitL.uncons h
  cases e
  exact fit_sl hf h1
theorem fit_flights {x : PV} (h : FitP (false, [.sl hdSh]) x) : ∃ l : List Fg, x = .seq 3 (l.map fc) ∧ l.length ≤ 9223372036854775807 := fit_list (fun _ => fitL_fg) h
end Go.Proofs.Ab.Area
end
section
/- The shapes of tables and orders. -/
set_option maxRecDepth 100000
set_option linter.unusedVariables false
set_option linter.unusedSimpArgs false
namespace Go.Proofs.Ab.Area
open Go Go.RowKit Go.Proofs.Ab
abbrev tbSh : List Sh := [.int .i64, .int .i64, .int .i64, .int .i64, .int .i64, .int .i64, .int .i64, .int .i64, .int .i64]
def tbOf (a b c d e f g h i : Int) : Tb := fun x y => if x = 0 then (if y = 0 then a else if y = 1 then b else c) else if x = 1 then (if y = 0 then d else if y = 1 then e else f) else if y = 0 then g else if y = 1 then h else i
theorem fit_table {x : PV} (h : FitP (true, tbSh) x) : ∃ t : Tb, x = .agg (tbc t) := by
  obtain ⟨xs, rfl, h⟩ := h
  obtain ⟨c1, xs, rfl, h1, h⟩ := h.uncons
  obtain ⟨c2, xs, rfl, h2, h⟩ := h.uncons
  obtain ⟨c3, xs, rfl, h3, h⟩ := h.uncons
  obtain ⟨c4, xs, rfl, h4, h⟩ := h.uncons
  obtain ⟨c5, xs, rfl, h5, h⟩ := h.uncons
  obtain ⟨c6, xs, rfl, h6, h⟩ := h.uncons
  obtain ⟨c7, xs, rfl, h7, h⟩ := h.uncons
  obtain ⟨c8, xs, rfl, h8, h⟩ := h.uncons
  obtain ⟨c9, xs, rfl, h9, h⟩ := h.uncons
  obtain rfl := h.unnil
  obtain ⟨n1, rfl, _⟩ := h1.int_inv
  obtain ⟨n2, rfl, _⟩ := h2.int_inv
  obtain ⟨n3, rfl, _⟩ := h3.int_inv
  obtain ⟨n4, rfl, _⟩ := h4.int_inv
  obtain ⟨n5, rfl, _⟩ := h5.int_inv
  obtain ⟨n6, rfl, _⟩ := h6.int_inv
  obtain ⟨n7, rfl, _⟩ := h7.int_inv
  obtain ⟨n8, rfl, _⟩ := h8.int_inv
  obtain ⟨n9, rfl, _⟩ := h9.int_inv
  exact ⟨tbOf n1 n2 n3 n4 n5 n6 n7 n8 n9, rfl⟩
theorem fitL_int {xs : List PV} (h : FitL [.int .i64] xs) : ∃ n : Int, xs = [I n] := by
  obtain ⟨c1, xs, rfl, h1, h⟩ := h.uncons
  obtain rfl := h.unnil
  obtain ⟨n1, rfl, _⟩ := h1.int_inv
  exact ⟨n1, rfl⟩
theorem fit_order {x : PV} (h : FitP (false, [.sl [.int .i64]]) x) : ∃ l : List Int, x = .seq 1 (l.map fun n => [I n]) := by
  obtain ⟨l, rfl, _⟩ := fit_list (f := fun n : Int => [I n]) (fun _ => fitL_int) h
  exact ⟨l, rfl⟩
end Go.Proofs.Ab.Area
end
section
/- The reference's names and small checks. -/
set_option maxRecDepth 100000
set_option linter.unusedVariables false
set_option linter.unusedSimpArgs false
namespace Go.Proofs.Ab.Area
open Go Go.RowKit Go.Proofs.Ab
theorem byte_at {l : List UInt8} {k : Nat} (h : k < l.length) : byteAt ⟨l.toArray⟩ ((k : Int)).toNat = (l[k].toNat : Int) := by
  show byteAt ⟨l.toArray⟩ k = _
  have hs : k < (⟨l.toArray⟩ : ByteArray).size := by simpa [ByteArray.size] using h
  unfold byteAt
  rw [getElem?_pos (⟨l.toArray⟩ : ByteArray) k hs]
  rfl
theorem name_cases (l : List UInt8) : (l.length = 0 → nameB ⟨l.toArray⟩ = false) ∧ (24 < l.length → nameB ⟨l.toArray⟩ = false) ∧ (¬ l.length = 0 → ¬ 24 < l.length → nameB ⟨l.toArray⟩ = goodN 0 l) := by
  have hn : nameB ⟨l.toArray⟩ = (goodN 0 l && decide (l ≠ []) && decide (l.length ≤ 24)) := by
    have : nameB ⟨l.toArray⟩ = nameL l := by unfold nameB; simp
    rw [this, nameL_eq]
  refine ⟨fun h => ?_, fun h => ?_, fun h1 h2 => ?_⟩
  · have : l = [] := List.eq_nil_of_length_eq_zero h
    subst this
    rw [hn]
    simp
  · rw [hn, decide_eq_false (show ¬ l.length ≤ 24 by omega), Bool.and_false]
  · rw [hn, decide_eq_true (show l ≠ [] from fun e => h1 (by rw [e]; rfl)), decide_eq_true (show l.length ≤ 24 by omega), Bool.and_true, Bool.and_true]
set_option maxHeartbeats 4000000 in
theorem refIsName_pure {m : Int} (s : ByteArray) : APure (C m) 182 [St s] (Bo (nameB s)) := by
  obtain ⟨l, rfl⟩ : ∃ l : List UInt8, s = ⟨l.toArray⟩ := ⟨s.data.toList, by simp⟩
  have hbs : (⟨l.toArray⟩ : ByteArray).size = l.length := by simp [ByteArray.size]
  have hbi : (((⟨l.toArray⟩ : ByteArray).size : Nat) : Int) = (l.length : Int) := by rw [hbs]
  obtain ⟨c0, c1, c2⟩ := name_cases l
  generalize nameB ⟨l.toArray⟩ = V at *
  refine APure.of_body good [] (fn := Tryz.f182) (by kernel_rfl) (by kernel_rfl) rfl rfl (by kernel_rfl) rfl (by kernel_rfl) ?_
  conv => whnf
  repeat' (first
    | (rw [hbi]; conv => whnf)
    | (refine SBool.mk (fun h => ?_) (fun h => ?_) <;> conv => whnf)
    | fail)
  · exact ⟨PLe.of_eq (congrArg Bo (c0 (by have h : (l.length : Int) = 0 := h; omega)).symm)⟩
  · exact ⟨PLe.of_eq (congrArg Bo (c1 (by have h : 24 < (l.length : Int) := h; omega)).symm)⟩
  · rename_i h1
    have h24 : ¬ 24 < l.length := by have h : ¬ 24 < (l.length : Int) := h; omega
    have h0 : ¬ l.length = 0 := by have h : ¬ (l.length : Int) = 0 := h1; omega
    have hV := c2 h0 h24
    clear c0 c1 c2 h h1
    refine ⟨AWp.loop (ι := { k : Nat // k ≤ l.length ∧ V = goodN k (l.drop k) }) (fun k => ⟨[(3, .p (I k.1)), (0, .p (St ⟨l.toArray⟩))], [], [], 0, [], [], []⟩) (fun k => l.length - k.1) ⟨0, by simp, by simpa using hV⟩ ?_ ?_⟩
    · skip
      · refine SLe.of [] [] rfl rfl ?_
        conv => whnf
        repeat' (first
        | exact True.intro
        | (refine SAnd.mk (PLe.refl _) ?_; conv => whnf))
    · rintro ⟨k, hk, hg⟩
      refine codeK_sound good (mu := []) ?_
      conv => whnf
      refine SBool.mk (fun hc => ?_) (fun hc => ?_)
      · have hc' : (k : Int) < (((⟨l.toArray⟩ : ByteArray).size : Nat) : Int) := hc
        rw [hbs] at hc'
        have hkl : k < l.length := by omega
        have hs0 : (0 : Int) ≤ (k : Int) ∧ (k : Int) < ((⟨l.toArray⟩ : ByteArray).size : Int) := ⟨by omega, by rw [hbs]; omega⟩
        have hby := byte_at hkl
        have mk := sub_lt hkl
        have wk := wsucc (k := k) (by omega)
        have bad : ¬ letterP l[k].toNat → (k = 0 ∨ ¬ otherP l[k].toNat) → V = false := fun h1 h2 => by rw [hg]; exact goodN_bad hkl h1 h2
        have ok : (letterP l[k].toNat ∨ (k ≠ 0 ∧ otherP l[k].toNat)) → V = goodN (k + 1) (l.drop (k + 1)) := fun h => by rw [hg]; exact goodN_ok hkl h
        unfold letterP otherP at bad ok
        clear hc hc' hV hbs hbi
        generalize l[k].toNat = c at *
        conv => whnf
        conv => whnf
        repeat' (first
          | (rw [wk]; conv => whnf)
          | (rw [hby]; conv => whnf)
          | (refine SBool.mk (fun h => ?_) (fun h => ?_) <;> conv => whnf)
          | (refine SAnd.mk (by first | exact hs0) ?_; conv => whnf)
          | fail)
        all_goals
          dsimp only at *
          first
            | exact ⟨PLe.of_eq (congrArg Bo (bad (by omega) (by omega)).symm)⟩
            | skip
        all_goals
          refine ⟨⟨k + 1, hkl, ok (by omega)⟩, mk, ?_⟩
          skip
          · refine SLe.of [] [] rfl rfl ?_
            conv => whnf
            repeat' (first
            | exact True.intro
            | (refine SAnd.mk (PLe.refl _) ?_; conv => whnf))
      · have hc' : ¬ (k : Int) < (((⟨l.toArray⟩ : ByteArray).size : Nat) : Int) := hc
        rw [hbs] at hc'
        have hkl : k = l.length := by omega
        subst hkl
        have hg' : V = true := by rw [hg, List.drop_length]; rfl
        skip
        conv => whnf
        repeat' (first
          | fail)
        exact ⟨PLe.of_eq (congrArg Bo hg'.symm)⟩
theorem refName_pure {m : Int} (s : ByteArray) : APure (C m) 119 [St s] (I (if nameB s then 0 else 8)) := by
  have h := refIsName_pure (m := m) s
  generalize nameB s = b at h ⊢
  cases b
  · refine APure.of_body good [] (fn := Tryz.f119) (by kernel_rfl) (by kernel_rfl) rfl rfl (by kernel_rfl) rfl (by kernel_rfl) ?_
    conv => whnf
    repeat' (first
      | (refine SEx.mk _ (by first | exact h | exact refWhen_pure _ _) ?_; conv => whnf)
      | fail)
    exact ⟨PLe.refl _⟩
  · refine APure.of_body good [] (fn := Tryz.f119) (by kernel_rfl) (by kernel_rfl) rfl rfl (by kernel_rfl) rfl (by kernel_rfl) ?_
    conv => whnf
    repeat' (first
      | (refine SEx.mk _ (by first | exact h | exact refWhen_pure _ _) ?_; conv => whnf)
      | fail)
    exact ⟨PLe.refl _⟩
theorem refTick_pure {m : Int} (n : Int) : APure (C m) 47 [I n] (I (within n 0 100000000)) := by
  refine APure.of_body good [] (fn := Tryz.f47) (by kernel_rfl) (by kernel_rfl) rfl rfl (by kernel_rfl) rfl (by kernel_rfl) ?_
  conv => whnf
  repeat' (first
    | (refine SEx.mk _ (by first | exact refRange_pure _ _ _) ?_; conv => whnf)
    | fail)
  exact ⟨PLe.refl _⟩
end Go.Proofs.Ab.Area
end
section
/- The reference's CheckPolygon, Size, CheckBox and Meets. -/
set_option maxRecDepth 100000
set_option linter.unusedVariables false
set_option linter.unusedSimpArgs false
namespace Go.Proofs.Ab.Area
open Go Go.RowKit Go.Proofs.Ab
theorem firstOf_one (x : Int) : firstOf [x] = x := by
  simp only [firstOf]
  split
  · rename_i h; exact h.symm
  · rfl
end Go.Proofs.Ab.Area
end
section
/- The reference's checks of lists of things with names. -/
set_option maxRecDepth 100000
set_option linter.unusedVariables false
set_option linter.unusedSimpArgs false
namespace Go.Proofs.Ab.Area
open Go Go.RowKit Go.Proofs.Ab
theorem firstOf_cat : ∀ (xs ys : List Int), firstOf (xs ++ [firstOf ys]) = firstOf (xs ++ ys)
  | [], ys => by
    show (if firstOf ys = 0 then 0 else firstOf ys) = firstOf ys
    split
    · rename_i h; exact h.symm
    · rfl
  | x :: xs, ys => by
    show (if x = 0 then firstOf (xs ++ [firstOf ys]) else x) = (if x = 0 then firstOf (xs ++ ys) else x)
    rw [firstOf_cat xs ys]
theorem namedF_step {α : Type} (nm : α → ByteArray) (er : α → Int) {xs : List α} {k : Nat} (hkl : k < xs.length) {a b z : Int} (ha : a = if nameB (nm xs[k]) then 0 else 8) (hb : b = if knownB ((xs.take k).map nm) (nm xs[k]) then 9 else 0) (hz : z = firstOf [a, b, er xs[k]]) :
    namedF ((xs.take k).map nm) ((xs.drop k).map fun x => (nm x, er x)) = if z = 0 then namedF ((xs.take (k + 1)).map nm) ((xs.drop (k + 1)).map fun x => (nm x, er x)) else z := by
  rw [List.drop_eq_getElem_cons hkl, take_map_succ hkl, hz, ha, hb]
  rfl
theorem app_name (l : List ByteArray) (s : ByteArray) (h : l.length ≤ 1000000) : (∀ c ∈ ([[St s]] : List (List PV)).flatten, c.one = true) ∧ ((l.map cS).length + 1) * 16 ≤ 140737488355328 ∧ (l.map cS).length + 1 ≤ 9223372036854775807 := by
  refine ⟨fun c hc => ?_, by simp only [List.length_map]; omega, by simp only [List.length_map]; omega⟩
  simp at hc
  rw [hc]
  rfl
noncomputable def c65 : Code := Tryz.f65.body.getD .skip
set_option maxHeartbeats 4000000 in
theorem refFlights_loop {m : Int} (xs : List Fg) (hl : xs.length ≤ 1000000) :
    AWp (C m) Tryz.f65.ntmps (pieceAt [1, 1, 1] c65) (endV m [ResultVar.tmp 2] (I (namedF [] (xs.map fun x => (x.name, flyE x))))) ⟨[(4, .p nilS), (0, .p (.seq 3 (xs.map fc)))], [], [], 0, [], [], []⟩ := by
  have hlen : (((xs.map fc).length : Nat) : Int) = xs.length := by simp
  obtain ⟨V, hV⟩ : ∃ V, V = namedF [] (xs.map fun x => (x.name, flyE x)) := ⟨_, rfl⟩
  rw [← hV]
  refine codeK_sound good (mu := []) ?_
  conv => whnf
  repeat' (first
    | fail)
  refine ⟨AWp.loop (ι := { k : Nat // k ≤ xs.length ∧ V = namedF ((xs.take k).map (·.name)) ((xs.drop k).map fun x => (x.name, flyE x)) }) (fun k => ⟨[(5, .p (I k.1)), (0, .p (.seq 3 (xs.map fc))), (4, .own 0)], [], [(0, (9, 1, ((xs.take k.1).map (·.name)).map cS))], 1, [], [], []⟩) (fun k => xs.length - k.1) ⟨0, by simp, by simpa using hV⟩ ?_ ?_⟩
  · refine SLe.row 4 9 1 ?_
    conv => whnf
    skip
    · refine SLe.of [] [(0, 0)] rfl rfl ?_
      conv => whnf
      repeat' (first
      | exact True.intro
      | (refine SAnd.mk (PLe.refl _) ?_; conv => whnf)
      | (refine SAnd.mk rfl ?_; conv => whnf))
  · rintro ⟨k, hk, he⟩
    refine codeK_sound good (mu := []) ?_
    conv => whnf
    refine SBool.mk (fun hcn => ?_) (fun hcn => ?_)
    · have hcn' : (k : Int) < (((xs.map fc).length : Nat) : Int) := hcn
      rw [hlen] at hcn'
      have hkl : k < xs.length := by omega
      have hs := some_at hkl fc
      have mk := sub_lt hkl
      have wk := wsucc (k := k) (by omega)
      have hnm := refName_pure (m := m) xs[k].name
      have hkn := hasWord_pure (m := m) ((xs.take k).map (·.name)) xs[k].name (by rw [List.length_map, List.length_take]; omega)
      have hap := app_name ((xs.take k).map (·.name)) xs[k].name (by rw [List.length_map, List.length_take]; omega)
      have hts : ((xs.take k).map (·.name)).map cS ++ [[St xs[k].name]] = ((xs.take (k + 1)).map (·.name)).map cS := by rw [take_map_succ hkl (fun x : Fg => x.name), List.map_append]; rfl
      have hst := fun a b z ha hb hz => namedF_step (fun x : Fg => x.name) (fun x => flyE x) hkl (a := a) (b := b) (z := z) ha hb hz
      have hrg := refRange_pure (m := m) xs[k].kind 0 2
      have htk := refTick_pure (m := m) xs[k].ready
      have ecat : ∀ a b, firstOf [a, b, within xs[k].kind 0 2, within xs[k].ready 0 100000000] = firstOf [a, b, flyE xs[k]] := fun a b => (firstOf_cat [a, b] [within xs[k].kind 0 2, within xs[k].ready 0 100000000]).symm
      clear hcn hcn'
      generalize hnb : nameB xs[k].name = b1 at *
      generalize hkb : knownB ((xs.take k).map (·.name)) xs[k].name = b2 at *
      cases b1 <;> cases b2
      all_goals
        conv => whnf
        repeat' (first
          | (rw [wk]; conv => whnf)
          | (refine SBool.mk (fun h => absurd h (of_decide_eq_false rfl)) (fun _ => ?_); conv => whnf)
          | (refine SBool.mk (fun h => ?_) (fun h => ?_) <;> conv => whnf)
          | (refine SEx.mk _ (by first | exact hs | exact hnm | exact hkn | exact hap | exact refWhen_pure _ _ | exact hrg | exact htk | exact refFirst4_pure _ _ _ _) ?_; conv => whnf)
          | (refine SAnd.mk (by first | exact hs | exact hnm | exact hkn | exact hap | exact hrg | exact htk) ?_; conv => whnf)
          | (refine SAnd.mk (by first | exact rfl | kernel_rfl | omega | decide | exact hs | exact hnm | exact hkn | exact hap | exact refWhen_pure _ _ | exact hrg | exact htk | exact refFirst4_pure _ _ _ _) ?_; conv => whnf)
          | fail)
        all_goals first
          | exact ⟨PLe.of_eq (congrArg I (by rw [he, hst _ _ _ rfl rfl (ecat _ _)]; exact (if_neg (by assumption)).symm))⟩
          | skip
      all_goals
        refine ⟨⟨k + 1, hkl, by rw [he, hst _ _ _ rfl rfl (ecat _ _), if_pos (by assumption)]⟩, mk, ?_⟩
        skip
        · refine SLe.of [] [(0, 26)] rfl rfl ?_
          conv => whnf
          repeat' (first
          | exact True.intro
          | (refine SAnd.mk (hts) ?_; conv => whnf)
          | (refine SAnd.mk (PLe.refl _) ?_; conv => whnf))
    · have hcn' : ¬ (k : Int) < (((xs.map fc).length : Nat) : Int) := hcn
      rw [hlen] at hcn'
      have hkl : k = xs.length := by omega
      subst hkl
      skip
      conv => whnf
      repeat' (first
        | fail)
      exact ⟨PLe.of_eq (congrArg I (by rw [he]; simp [namedF]))⟩
theorem refFlights_pure {m : Int} (xs : List Fg) (hl : xs.length ≤ 1000000) : APure (C m) 65 [.seq 3 (xs.map fc)] (I (flightsE xs)) := by
  have hlen : (((xs.map fc).length : Nat) : Int) = xs.length := by simp
  have go := refFlights_loop (m := m) xs hl
  have e0 : (xs.length : Int) = 0 → flightsE xs = 12 := fun h => by unfold flightsE; rw [if_pos (by omega)]; rfl
  have e1 : ¬ (xs.length : Int) = 0 → 8 < (xs.length : Int) → flightsE xs = 5 := fun h h2 => by
    unfold flightsE namedE
    rw [if_neg (by omega), List.length_map, if_pos h2]
    rfl
  have e2 : ¬ (xs.length : Int) = 0 → ¬ 8 < (xs.length : Int) → flightsE xs = namedF [] (xs.map fun x => (x.name, flyE x)) := fun h h2 => by
    unfold flightsE namedE
    rw [if_neg (by omega), List.length_map, if_neg h2]
    exact firstOf_one _
  have r1 : ∀ z, firstOf [12, z] = 12 := fun _ => rfl
  refine APure.of_wp good (fn := Tryz.f65) (by kernel_rfl) (by kernel_rfl) rfl rfl (by kernel_rfl) rfl (by kernel_rfl) ?_
  refine codeN_sound good (mu := []) (n := 3) ?_
  conv => whnf
  repeat' (first
    | (rw [hlen]; conv => whnf)
    | (refine SBool.mk (fun _ => ?_) (fun h => absurd (of_decide_eq_true rfl) h); conv => whnf)
    | (refine SBool.mk (fun h => absurd h (of_decide_eq_false rfl)) (fun _ => ?_); conv => whnf)
    | (refine SBool.mk (fun h => ?_) (fun h => ?_) <;> conv => whnf)
    | (refine SEx.mk _ (by first | exact refWhen_pure _ _ | exact refFirst2_pure _ _) ?_; conv => whnf)
    | fail)
  all_goals first
    | exact ⟨PLe.of_eq (congrArg I (e0 (by assumption)).symm)⟩
    | exact ⟨PLe.of_eq (congrArg I (e1 (by assumption) (by assumption)).symm)⟩
    | exact absurd rfl (by assumption)
    | exact absurd (by assumption) (by decide)
    | rw [e2 (by assumption) (by assumption)]
  all_goals
    refine ⟨AWp.le ?_ go⟩
    skip
    · refine SLe.of [] [] rfl rfl ?_
      conv => whnf
      repeat' (first
      | exact True.intro
      | (refine SAnd.mk (PLe.refl _) ?_; conv => whnf))
end Go.Proofs.Ab.Area
end
section
/- The reference on spacing and orders. -/
set_option maxRecDepth 100000
set_option linter.unusedVariables false
set_option linter.unusedSimpArgs false
namespace Go.Proofs.Ab.Area
open Go Go.RowKit Go.Proofs.Ab
set_option maxHeartbeats 4000000 in
theorem refSpacing_pure {m : Int} (t : Tb) : APure (C m) 66 [.agg (tbc t)] (I (spaceE t)) := by
  have e : spaceE t = firstOf [cellE (t 0 0), cellE (t 0 1), cellE (t 0 2), cellE (t 1 0), cellE (t 1 1), cellE (t 1 2), cellE (t 2 0), cellE (t 2 1), cellE (t 2 2)] := by
    show firstOf [rowE (t 0 0, t 0 1, t 0 2), rowE (t 1 0, t 1 1, t 1 2), rowE (t 2 0, t 2 1, t 2 2)] = _
    unfold rowE
    generalize cellE (t 0 0) = a, cellE (t 0 1) = b, cellE (t 0 2) = c, cellE (t 1 0) = d, cellE (t 1 1) = f, cellE (t 1 2) = g, cellE (t 2 0) = h, cellE (t 2 1) = i, cellE (t 2 2) = j
    have h1 := firstOf_cat [firstOf [a, b, c], firstOf [d, f, g]] [h, i, j]
    have h2 : firstOf [firstOf [a, b, c], firstOf [d, f, g], h, i, j] = firstOf [firstOf [a, b, c], d, f, g, h, i, j] := by
      simp only [firstOf]
      repeat' split
      all_goals simp_all
    have h3 : firstOf [firstOf [a, b, c], d, f, g, h, i, j] = firstOf [a, b, c, d, f, g, h, i, j] := by
      simp only [firstOf]
      repeat' split
      all_goals simp_all
    exact h1.trans (h2.trans h3)
  have r := fun i j : Int => refRange_pure (m := m) (t i j) 0 10000
  have c00 := r 0 0
  have c01 := r 0 1
  have c02 := r 0 2
  have c10 := r 1 0
  have c11 := r 1 1
  have c12 := r 1 2
  have c20 := r 2 0
  have c21 := r 2 1
  have c22 := r 2 2
  rw [e]
  unfold cellE
  have ha0 : (0 : Int) ≤ 0 ∧ (0 : Int) < ((3 : Nat) : Int) := by decide
  have ha1 : (0 : Int) ≤ 1 ∧ (1 : Int) < ((3 : Nat) : Int) := by decide
  have ha2 : (0 : Int) ≤ 2 ∧ (2 : Int) < ((3 : Nat) : Int) := by decide
  clear e r
  generalize within (t 0 0) 0 10000 = w00 at *
  generalize within (t 0 1) 0 10000 = w01 at *
  generalize within (t 0 2) 0 10000 = w02 at *
  generalize within (t 1 0) 0 10000 = w10 at *
  generalize within (t 1 1) 0 10000 = w11 at *
  generalize within (t 1 2) 0 10000 = w12 at *
  generalize within (t 2 0) 0 10000 = w20 at *
  generalize within (t 2 1) 0 10000 = w21 at *
  generalize within (t 2 2) 0 10000 = w22 at *
  refine APure.of_body good [] (fn := Tryz.f66) (by kernel_rfl) (by kernel_rfl) rfl rfl (by kernel_rfl) rfl (by kernel_rfl) ?_
  conv => whnf
  repeat' (first
    | (refine codeK_sound good (mu := []) ?_; conv => whnf)
    | ((first | rw [wl0] | rw [wl1] | rw [wl2] | rw [wl3] | rw [wl4] | rw [wl5]); conv => whnf)
    | (refine SBool.mk (fun _ => ?_) (fun h => absurd (of_decide_eq_true rfl) h); conv => whnf)
    | (refine SBool.mk (fun h => absurd h (of_decide_eq_false rfl)) (fun _ => ?_); conv => whnf)
    | (refine SBool.mk (fun h => ?_) (fun h => ?_) <;> conv => whnf)
    | refine SCode.mk (AWp.rounds 4 ?_)
    | (refine SEx.mk _ (by first | exact c00 | exact c01 | exact c02 | exact c10 | exact c11 | exact c12 | exact c20 | exact c21 | exact c22 | exact ha0 | exact ha1 | exact ha2) ?_; conv => whnf)
    | (refine SAnd.mk (by first | exact ha0 | exact ha1 | exact ha2) ?_; conv => whnf)
    | fail)
  all_goals exact ⟨PLe.of_eq (congrArg I (by simp [firstOf, *]))⟩
theorem hasInt_pure {m : Int} (l : List Int) (n : Int) (hl : l.length ≤ 1000000) : APure (C m) 145 [.seq 1 (l.map cI), I n] (Bo (l.any fun y => decide (n = y))) := by
  have hlen : (((l.map cI).length : Nat) : Int) = l.length := by simp
  obtain ⟨V, hV⟩ : ∃ V, V = l.any fun y => decide (n = y) := ⟨_, rfl⟩
  rw [← hV]
  refine APure.of_body good [] (fn := Tryz.f145) (by kernel_rfl) (by kernel_rfl) rfl rfl (by kernel_rfl) rfl (by kernel_rfl) ?_
  conv => whnf
  repeat' (first
    | fail)
  refine ⟨AWp.loop (ι := { k : Nat // k ≤ l.length ∧ V = (l.drop k).any fun y => decide (n = y) }) (fun k => ⟨[(5, .p (I k.1)), (1, .p (I n)), (0, .p (.seq 1 (l.map cI)))], [], [], 0, [], [], []⟩) (fun k => l.length - k.1) ⟨0, by simp, by simpa using hV⟩ ?_ ?_⟩
  · skip
    · refine SLe.of [] [] rfl rfl ?_
      conv => whnf
      repeat' (first
      | exact True.intro
      | (refine SAnd.mk (PLe.refl _) ?_; conv => whnf))
  · rintro ⟨k, hk, he⟩
    refine codeK_sound good (mu := []) ?_
    conv => whnf
    refine SBool.mk (fun hcn => ?_) (fun hcn => ?_)
    · have hcn' : (k : Int) < (((l.map cI).length : Nat) : Int) := hcn
      rw [hlen] at hcn'
      have hkl : k < l.length := by omega
      have hs := some_at hkl cI
      have mk := sub_lt hkl
      have wk := wsucc (k := k) (by omega)
      have hst : ((l.drop k).any fun y => decide (n = y)) = (decide (n = l[k]) || (l.drop (k + 1)).any fun y => decide (n = y)) := by rw [List.drop_eq_getElem_cons hkl, List.any_cons]
      rw [hst] at he
      clear hcn hcn' hV hst
      generalize l[k] = x at *
      have yes : x = n → V = true := fun h => by rw [he, decide_eq_true h.symm]; rfl
      have no : ¬ x = n → V = (l.drop (k + 1)).any fun y => decide (n = y) := fun h => by rw [he, decide_eq_false (fun h' => h h'.symm)]; rfl
      skip
      conv => whnf
      repeat' (first
        | (rw [wk]; conv => whnf)
        | (refine SBool.mk (fun h => ?_) (fun h => ?_) <;> conv => whnf)
        | (refine SEx.mk _ (by first | exact hs) ?_; conv => whnf)
        | fail)
      · exact ⟨PLe.of_eq (congrArg Bo (yes (by assumption)).symm)⟩
      · refine ⟨⟨k + 1, hkl, no (by assumption)⟩, mk, ?_⟩
        skip
        · refine SLe.of [] [] rfl rfl ?_
          conv => whnf
          repeat' (first
          | exact True.intro
          | (refine SAnd.mk (PLe.refl _) ?_; conv => whnf))
    · have hcn' : ¬ (k : Int) < (((l.map cI).length : Nat) : Int) := hcn
      rw [hlen] at hcn'
      have hkr : k = l.length := by omega
      subst hkr
      rw [List.drop_length] at he
      skip
      conv => whnf
      repeat' (first
        | fail)
      exact ⟨PLe.of_eq (congrArg Bo (by rw [he]; rfl))⟩
def refOrd (l : List Fg) (order : List Int) : Int := if order.length = l.length then orderF l order else 2
theorem order_same (l : List Fg) (t : Tb) (order : List Int) : firstOf [flightsE l, spaceE t, refOrd l order] = orderE l t order := by
  unfold orderE order1 refOrd
  by_cases h : order.length = l.length
  · have e : (if order.length ≠ l.length then (2 : Int) else 0) = 0 := if_neg (by simpa using h)
    rw [if_pos h, e]
    generalize flightsE l = a, spaceE t = b, orderF l order = c
    by_cases ha : a = 0 <;> by_cases hb : b = 0 <;> by_cases hc : c = 0 <;> simp [firstOf, ha, hb, hc]
  · have e : (if order.length ≠ l.length then (2 : Int) else 0) = 2 := if_pos h
    rw [if_neg h, e]
    generalize flightsE l = a, spaceE t = b
    by_cases ha : a = 0 <;> by_cases hb : b = 0 <;> simp [firstOf, ha, hb]
noncomputable def c67 : Code := Tryz.f67.body.getD .skip
theorem ord2_loop {m : Int} (l : List Fg) (order : List Int) (ho : order.length ≤ 1000000) : AWp (C m) Tryz.f67.ntmps (pieceAt [1, 1, 1] c67) (endV m [ResultVar.tmp 4] (I (twiceF [] order))) ⟨[(0, .p (.seq 3 (l.map fc))), (1, .p (.seq 1 (order.map cI)))], [], [], 0, [], [], []⟩ := by
  have hlen : (((order.map cI).length : Nat) : Int) = order.length := by simp
  obtain ⟨V, hV⟩ : ∃ V, V = twiceF [] order := ⟨_, rfl⟩
  rw [← hV]
  refine codeK_sound good (mu := []) ?_
  conv => whnf
  repeat' (first
    | fail)
  refine ⟨AWp.loop (ι := { k : Nat // k ≤ order.length ∧ V = twiceF (order.take k) (order.drop k) }) (fun k => ⟨[(6, .p (I k.1)), (0, .p (.seq 3 (l.map fc))), (1, .p (.seq 1 (order.map cI)))], [], [], 0, [], [], []⟩) (fun k => order.length - k.1) ⟨0, by simp, by simpa using hV⟩ ?_ ?_⟩
  · skip
    · refine SLe.of [] [] rfl rfl ?_
      conv => whnf
      repeat' (first
      | exact True.intro
      | (refine SAnd.mk (PLe.refl _) ?_; conv => whnf))
  · rintro ⟨k, hk, he⟩
    refine codeK_sound good (mu := []) ?_
    conv => whnf
    refine SBool.mk (fun hcn => ?_) (fun hcn => ?_)
    · have hcn' : (k : Int) < (((order.map cI).length : Nat) : Int) := hcn
      rw [hlen] at hcn'
      have hkl : k < order.length := by omega
      have hs := some_at hkl cI
      have mk := sub_lt hkl
      have wk := wsucc (k := k) (by omega)
      have hsl : (0 : Int) ≤ (k : Int) ∧ (k : Int) ≤ (((order.map cI).length : Nat) : Int) := ⟨by omega, by rw [hlen]; omega⟩
      have htk : (order.map cI).take ((k : Int)).toNat = (order.take k).map cI := by rw [← List.map_take]; rfl
      have hhi := hasInt_pure (m := m) (order.take k) order[k] (by rw [List.length_take]; omega)
      have hst := twice_step hkl
      rw [hst] at he
      clear hcn hcn' hV hst
      cases hB : (order.take k).any fun y => decide (order[k] = y)
      · rw [hB] at hhi he
        skip
        conv => whnf
        repeat' (first
          | (rw [wk]; conv => whnf)
          | (rw [htk]; conv => whnf)
          | (refine SEx.mk _ (by first | exact hs | exact hsl | exact hhi) ?_; conv => whnf)
          | (refine SAnd.mk (by first | exact hs | exact hsl | exact hhi) ?_; conv => whnf)
          | (refine SAnd.mk (by first | exact rfl | kernel_rfl | omega | decide | exact hs | exact hsl | exact hhi) ?_; conv => whnf)
          | fail)
        refine ⟨⟨k + 1, hkl, he⟩, mk, ?_⟩
        skip
        · refine SLe.of [] [] rfl rfl ?_
          conv => whnf
          repeat' (first
          | exact True.intro
          | (refine SAnd.mk (PLe.refl _) ?_; conv => whnf))
      · rw [hB] at hhi he
        skip
        conv => whnf
        repeat' (first
          | (rw [htk]; conv => whnf)
          | (refine SEx.mk _ (by first | exact hs | exact hsl | exact hhi) ?_; conv => whnf)
          | (refine SAnd.mk (by first | exact hs | exact hsl | exact hhi) ?_; conv => whnf)
          | (refine SAnd.mk (by first | exact rfl | kernel_rfl | omega | decide | exact hs | exact hsl | exact hhi) ?_; conv => whnf)
          | fail)
        exact ⟨PLe.of_eq (congrArg I he.symm)⟩
    · have hcn' : ¬ (k : Int) < (((order.map cI).length : Nat) : Int) := hcn
      rw [hlen] at hcn'
      have hkr : k = order.length := by omega
      subst hkr
      rw [List.drop_length] at he
      skip
      conv => whnf
      repeat' (first
        | fail)
      exact ⟨PLe.of_eq (congrArg I (by rw [he]; rfl))⟩
theorem refOrder_pure {m : Int} (l : List Fg) (order : List Int) (hl : l.length ≤ 1000000) (ho : order.length ≤ 1000000) : APure (C m) 67 [.seq 3 (l.map fc), .seq 1 (order.map cI)] (I (refOrd l order)) := by
  have hlo : (((order.map cI).length : Nat) : Int) = order.length := by simp
  have hll : (((l.map fc).length : Nat) : Int) = l.length := by simp
  have go := ord2_loop (m := m) l order ho
  have hout : ∀ i : Int, outB l i = true ↔ i < 0 ∨ (((l.map fc).length : Nat) : Int) ≤ i := fun i => by
    rw [hll]
    unfold outB
    rw [Bool.or_eq_true, decide_eq_true_iff, decide_eq_true_iff]
  by_cases hE : order.length = l.length
  · have hE' : (((order.map cI).length : Nat) : Int) = (((l.map fc).length : Nat) : Int) := by rw [hlo, hll]; omega
    unfold refOrd
    rw [if_pos hE]
    obtain ⟨V, hV⟩ : ∃ V, V = orderF l order := ⟨_, rfl⟩
    have hyes : order.any (outB l) = true → V = 10 := fun h => by rw [hV]; unfold orderF; rw [if_pos h]
    have hno : order.any (outB l) = false → V = twiceF [] order := fun h => by rw [hV]; unfold orderF; rw [if_neg (by rw [h]; decide)]
    rw [← hV]
    refine APure.of_wp good (fn := Tryz.f67) (by kernel_rfl) (by kernel_rfl) rfl rfl (by kernel_rfl) rfl (by kernel_rfl) ?_
    refine codeN_sound good (mu := []) (n := 3) ?_
    conv => whnf
    repeat' (first
      | (refine SBool.mk (fun h => ?_) (fun h => ?_) <;> conv => whnf)
      | fail)
    all_goals first
      | exact absurd hE' (by assumption)
      | skip
    refine ⟨AWp.loop (ι := { k : Nat // k ≤ order.length ∧ order.any (outB l) = (order.drop k).any (outB l) }) (fun k => ⟨[(5, .p (I k.1)), (0, .p (.seq 3 (l.map fc))), (1, .p (.seq 1 (order.map cI)))], [], [], 0, [], [], []⟩) (fun k => order.length - k.1) ⟨0, by simp⟩ ?_ ?_⟩
    · skip
      · refine SLe.of [] [] rfl rfl ?_
        conv => whnf
        repeat' (first
        | exact True.intro
        | (refine SAnd.mk (PLe.refl _) ?_; conv => whnf))
    · rintro ⟨k, hk, he⟩
      refine codeK_sound good (mu := []) ?_
      conv => whnf
      refine SBool.mk (fun hcn => ?_) (fun hcn => ?_)
      · have hcn' : (k : Int) < (((order.map cI).length : Nat) : Int) := hcn
        rw [hlo] at hcn'
        have hkl : k < order.length := by omega
        have hs := some_at hkl cI
        have mk := sub_lt hkl
        have wk := wsucc (k := k) (by omega)
        have hst : (order.drop k).any (outB l) = (outB l order[k] || (order.drop (k + 1)).any (outB l)) := by rw [List.drop_eq_getElem_cons hkl, List.any_cons]
        rw [hst] at he
        have hoi := hout order[k]
        clear hcn hcn' hst hE' hV
        generalize order[k] = x at *
        have bad : (x < 0 ∨ (((l.map fc).length : Nat) : Int) ≤ x) → V = 10 := fun h => hyes (by rw [he, hoi.2 h]; rfl)
        have ok : ¬ x < 0 → ¬ (((l.map fc).length : Nat) : Int) ≤ x → order.any (outB l) = (order.drop (k + 1)).any (outB l) := fun h1 h2 => by
          rw [he]
          cases hB : outB l x
          · rfl
          · exact ((hoi.1 hB).elim h1 h2).elim
        skip
        conv => whnf
        repeat' (first
          | (rw [wk]; conv => whnf)
          | (refine SBool.mk (fun h => ?_) (fun h => ?_) <;> conv => whnf)
          | (refine SEx.mk _ (by first | exact hs) ?_; conv => whnf)
          | fail)
        all_goals first
          | exact ⟨PLe.of_eq (congrArg I (bad (by first | exact .inl (by assumption) | exact .inr (by assumption))).symm)⟩
          | refine ⟨⟨k + 1, hkl, ok (by assumption) (by assumption)⟩, mk, ?_⟩
        skip
        · refine SLe.of [] [] rfl rfl ?_
          conv => whnf
          repeat' (first
          | exact True.intro
          | (refine SAnd.mk (PLe.refl _) ?_; conv => whnf))
      · have hcn' : ¬ (k : Int) < (((order.map cI).length : Nat) : Int) := hcn
        rw [hlo] at hcn'
        have hkr : k = order.length := by omega
        subst hkr
        rw [List.drop_length] at he
        rw [hno he]
        conv => whnf
        refine ⟨AWp.le ?_ go⟩
        skip
        · refine SLe.of [] [] rfl rfl ?_
          conv => whnf
          repeat' (first
          | exact True.intro
          | (refine SAnd.mk (PLe.refl _) ?_; conv => whnf))
  · have hE' : ¬ (((order.map cI).length : Nat) : Int) = (((l.map fc).length : Nat) : Int) := by rw [hlo, hll]; omega
    unfold refOrd
    rw [if_neg hE]
    refine APure.of_body good [] (fn := Tryz.f67) (by kernel_rfl) (by kernel_rfl) rfl rfl (by kernel_rfl) rfl (by kernel_rfl) ?_
    conv => whnf
    repeat' (first
      | (refine SBool.mk (fun h => ?_) (fun h => ?_) <;> conv => whnf)
      | fail)
    all_goals first
      | exact ⟨PLe.refl _⟩
      | exact absurd (by assumption) hE'
end Go.Proofs.Ab.Area
end
section
/- The reference's times and delays. -/
set_option maxRecDepth 100000
set_option linter.unusedVariables false
set_option linter.unusedSimpArgs false
namespace Go.Proofs.Ab.Area
open Go Go.RowKit Go.Proofs.Ab
theorem next_f (t : Tb) (out : List Tm) (f : Fg) : (nextT t out f).f = f := by
  unfold nextT
  cases out.getLast? <;> rfl
theorem times_f (l : List Fg) (t : Tb) : ∀ (n : Nat) (order : List Int), order.length = n → (timesL l t order).map (·.f) = order.map fun i => l.getD i.toNat default
  | 0, order, h => by
    have := List.eq_nil_of_length_eq_zero h
    subst this
    rfl
  | n + 1, order, h => by
    have hne : order ≠ [] := by intro e; rw [e] at h; simp at h
    have e := List.dropLast_concat_getLast hne
    have ih := times_f l t n order.dropLast (by simp [h])
    rw [← e, times_snoc, List.map_append, ih, List.map_append, List.map_cons, List.map_nil, next_f]
    rfl
theorem times_fk {l : List Fg} {t : Tb} {order : List Int} {k : Nat} (h : k < (timesL l t order).length) (h2 : k < order.length) : ((timesL l t order)[k]).f = l.getD (order[k]).toNat default := by
  have e := times_f l t order.length order rfl
  have e2 := congrArg (fun xs => xs[k]?) e
  simp only [List.getElem?_map, List.getElem?_eq_getElem h, List.getElem?_eq_getElem h2, Option.map_some, Option.some.injEq] at e2
  exact e2
theorem one_int (n : Int) : ∀ c ∈ ([[I n]] : List (List PV)).flatten, c.one = true := by
  intro c hc
  simp at hc
  rw [hc]
  rfl
theorem ap_int {N : Nat} (n : Int) (h : N ≤ 2000000) : (∀ c ∈ ([[I n]] : List (List PV)).flatten, c.one = true) ∧ (N + 1) * 8 ≤ 140737488355328 ∧ N + 1 ≤ 9223372036854775807 := ⟨one_int n, by omega, by omega⟩
theorem drop_int {xs : List Int} {j : Nat} (h : j < xs.length) : ((xs.map cI).flatten).drop (j * 1) = [I xs[j]] ++ (((xs.drop (j + 1)).map cI).flatten) ∧ j * 1 ≤ ((xs.map cI).flatten).length := by
  constructor
  · rw [flat_drop (sz := 1) cI (fun _ => rfl), List.drop_eq_getElem_cons h]
    rfl
  · rw [flat_len (sz := 1) cI (fun _ => rfl)]
    omega
set_option maxHeartbeats 8000000 in
theorem refTimes_pure {m : Int} (l : List Fg) (t : Tb) (order : List Int) (ho : order.length ≤ 1000) (hl : l.length ≤ 1000) (hlf : ∀ f ∈ l, FgOk f) (ht : TbOk t) (hoo : OrdOk l order) :
    APure (C m) 68 [.seq 3 (l.map fc), .agg (tbc t), .seq 1 (order.map cI)] (.seq 1 ((tickL l t order).map cI)) := by
  have hlo : (((order.map cI).length : Nat) : Int) = order.length := by simp
  refine APure.of_body good [] (fn := Tryz.f68) (by kernel_rfl) (by kernel_rfl) rfl rfl (by kernel_rfl) rfl (by kernel_rfl) ?_
  conv => whnf
  repeat' (first
    | fail)
  refine ⟨AWp.loop (ι := { k : Nat // k ≤ order.length }) (fun k => ⟨[(8, .p (I k.1)), (2, .p (.seq 1 (order.map cI))), (7, .own 0), (4, .p (.ref (tbc t))), (0, .p (.seq 3 (l.map fc)))], [], [(0, (3, 1, (tickL l t (order.take k.1)).map cI))], 1, [], [], []⟩) (fun k => order.length - k.1) ⟨0, by simp⟩ ?_ ?_⟩
  · refine SLe.row 7 3 1 ?_
    conv => whnf
    skip
    · refine SLe.of [] [(0, 0)] rfl rfl ?_
      conv => whnf
      repeat' (first
      | exact True.intro
      | (refine SAnd.mk (PLe.refl _) ?_; conv => whnf)
      | (refine SAnd.mk rfl ?_; conv => whnf))
  · rintro ⟨k, hk⟩
    refine codeK_sound good (mu := []) ?_
    conv => whnf
    refine SBool.mk (fun hcn => ?_) (fun hcn => ?_)
    · have hcn' : (k : Int) < (((order.map cI).length : Nat) : Int) := hcn
      rw [hlo] at hcn'
      have hkl : k < order.length := by omega
      have hs := some_at hkl cI
      have mk := sub_lt hkl
      have hi := hoo _ (List.getElem_mem hkl)
      have hsn := times_snoc l t (order.take k) order[k]
      rw [← List.take_succ_eq_append_getElem hkl] at hsn
      have htl := times_len l t k (order.take k) (by rw [List.length_take]; omega)
      have hto := times_ok hlf ht k (order.take k) (by rw [List.length_take]; omega) (fun i hi => hoo i (List.take_subset _ _ hi))
      obtain ⟨f, hfe⟩ : ∃ f, f = l[order[k].toNat]'hi.2 := ⟨_, rfl⟩
      have hfo : FgOk f := by rw [hfe]; exact hlf _ (List.getElem_mem hi.2)
      have hsf : 0 ≤ order[k] ∧ (l.map fc)[(order[k]).toNat]? = some (fc f) := ⟨hi.1, by rw [List.getElem?_map, List.getElem?_eq_getElem hi.2, hfe]; rfl⟩
      have hgd : l.getD (order[k]).toNat default = f := by rw [List.getD_eq_getElem?_getD, List.getElem?_eq_getElem hi.2, hfe]; rfl
      rw [hgd] at hsn
      have htk : tickL l t (order.take (k + 1)) = tickL l t (order.take k) ++ [(nextT t (timesL l t (order.take k)) f).t] := by unfold tickL; rw [hsn, List.map_append]; rfl
      cases k with
      | zero =>
        have wk := wsucc (k := 0) (by omega)
        have hn0 : (nextT t (timesL l t (order.take 0)) f).t = f.ready := rfl
        have ht0 : tickL l t (order.take 0) = [] := rfl
        rw [hn0, ht0] at htk
        have hap := ap_int (N := (([] : List Int).map cI).length) f.ready (by simp)
        have e : (([] : List Int).map cI) ++ [[I f.ready]] = (tickL l t (order.take (0 + 1))).map cI := by rw [htk]; rfl
        rw [ht0]
        clear hcn hcn' hoo hlf hgd hfe htk hsn hto
        skip
        conv => whnf
        repeat' (first
          | (rw [wk]; conv => whnf)
          | (refine SBool.mk (fun h => absurd h (of_decide_eq_false rfl)) (fun _ => ?_); conv => whnf)
          | (refine SEx.mk _ (by first | exact hs | exact hsf | exact hap) ?_; conv => whnf)
          | (refine SAnd.mk (by first | exact hs | exact hsf | exact hap) ?_; conv => whnf)
          | fail)
        refine ⟨⟨0 + 1, hkl⟩, mk, ?_⟩
        skip
        · refine SLe.of [] [(0, 2)] rfl rfl ?_
          conv => whnf
          repeat' (first
          | exact True.intro
          | (refine SAnd.mk (show _ = (_ : List (List PV)) from e) ?_; conv => whnf)
          | (refine SAnd.mk (PLe.refl _) ?_; conv => whnf))
      | succ j =>
        have hjo : j < order.length := by omega
        have hyl := last_eq htl
        have hjl : j < (timesL l t (order.take (j + 1))).length := by omega
        obtain ⟨b, hbe⟩ : ∃ b, b = (timesL l t (order.take (j + 1)))[j]'hjl := ⟨_, rfl⟩
        rw [← hbe] at hyl
        have hbo : TmOk (j + 1) b := by rw [hbe]; exact hto _ (List.getElem_mem hjl)
        have hjt : j < (order.take (j + 1)).length := by rw [List.length_take]; omega
        have hbf : b.f = l.getD (order[j]).toNat default := by rw [hbe, times_fk hjl hjt]; simp
        have hi2 := hoo _ (List.getElem_mem hjo)
        obtain ⟨f2, hfe2⟩ : ∃ f2, f2 = l[order[j].toNat]'hi2.2 := ⟨_, rfl⟩
        have hgd2 : l.getD (order[j]).toNat default = f2 := by rw [List.getD_eq_getElem?_getD, List.getElem?_eq_getElem hi2.2, hfe2]; rfl
        rw [hgd2] at hbf
        have hs2 := some_at hjo cI
        have hsf2 : 0 ≤ order[j] ∧ (l.map fc)[(order[j]).toNat]? = some (fc f2) := ⟨hi2.1, by rw [List.getElem?_map, List.getElem?_eq_getElem hi2.2, hfe2]; rfl⟩
        have hnx : (nextT t (timesL l t (order.take (j + 1))) f).t = max f.ready (b.t + t f2.kind f.kind) := by unfold nextT; rw [hyl, ← hbf]
        rw [hnx] at htk
        have hxl : (tickL l t (order.take (j + 1))).length = j + 1 := by unfold tickL; rw [List.length_map, htl]
        have hxj : (tickL l t (order.take (j + 1)))[j]'(by omega) = b.t := by unfold tickL; rw [List.getElem_map, ← hbe]
        have hdi := drop_int (xs := tickL l t (order.take (j + 1))) (j := j) (by omega)
        rw [hxj] at hdi
        have hj2 : (0 : Int) ≤ (j : Int) ∧ (j : Int) < (((tickL l t (order.take (j + 1))).map cI).length : Int) := ⟨by omega, by rw [List.length_map, hxl]; omega⟩
        have hap := ap_int (N := ((tickL l t (order.take (j + 1))).map cI).length) (max f.ready (b.t + t f2.kind f.kind)) (by rw [List.length_map, hxl]; omega)
        have e : (tickL l t (order.take (j + 1))).map cI ++ [[I (max f.ready (b.t + t f2.kind f.kind))]] = (tickL l t (order.take (j + 1 + 1))).map cI := by rw [htk]; simp
        have hj0 : (0 : Int) < ((j + 1 : Nat) : Int) := by omega
        have hf2 : FgOk f2 := by rw [hfe2]; exact hlf _ (List.getElem_mem hi2.2)
        have htb := ht f2.kind f.kind hf2.k hfo.k
        have hbt := hbo.t
        have hwt : (b.t + t f2.kind f.kind).natAbs ≤ 4000000000000000000 := by omega
        have hwj : (((j + 1 : Nat) : Int) - 1).natAbs ≤ 4000000000000000000 := by omega
        have hwj2 : ((j + 1 : Nat) : Int) - 1 = (j : Int) := by omega
        have wk := wsucc (k := j + 1) (by omega)
        have wt := w64 hwt
        have wj := (w64 hwj).trans hwj2
        have hkf := hfo.k
        have hkf2 := hf2.k
        have ha0 : (0 : Int) ≤ 0 ∧ (0 : Int) < ((3 : Nat) : Int) := by decide
        have ha1 : (0 : Int) ≤ 1 ∧ (1 : Int) < ((3 : Nat) : Int) := by decide
        have ha2 : (0 : Int) ≤ 2 ∧ (2 : Int) < ((3 : Nat) : Int) := by decide
        obtain ⟨hdr, hdn⟩ := hdi
        clear hcn hcn' hoo hlf hgd hgd2 hfe hfe2 htk hsn hto hyl hbe hbo hbf hnx hxl hxj htb hbt hwt hwj hwj2 hfo hf2 hi hi2 htl
        generalize (((tickL l t (order.take (j + 1))).drop (j + 1)).map cI).flatten = rest at hdr
        obtain ⟨fnm, fk, fr⟩ := f
        obtain ⟨gnm, gk, gr⟩ := f2
        obtain ⟨bf, bt⟩ := b
        simp only at hkf hkf2
        rcases hkf with rfl | rfl | rfl <;> rcases hkf2 with rfl | rfl | rfl
        all_goals
          conv => whnf
          repeat' (first
            | (rw [wk]; conv => whnf)
            | (rw [wt]; conv => whnf)
            | (rw [wj]; conv => whnf)
            | (refine SBool.mk (fun h => ?_) (fun h => ?_) <;> conv => whnf)
            | (refine (show dropK _ _ _ from dropK_at hdr hdn ?_); conv => whnf)
            | (refine SEx.mk _ (by first | exact hs | exact hsf | exact hs2 | exact hsf2 | exact hj2 | exact ha0 | exact ha1 | exact ha2 | exact hap) ?_; conv => whnf)
            | (refine SEx.mk _ (by first | exact rfl | exact ⟨of_decide_eq_true rfl, rfl⟩) ?_; conv => whnf)
            | (refine SAnd.mk (by first | exact hs | exact hsf | exact hs2 | exact hsf2 | exact hj2 | exact ha0 | exact ha1 | exact ha2 | exact hap) ?_; conv => whnf)
            | (refine SAnd.mk (by first | exact rfl | kernel_rfl | omega | decide | exact hs | exact hsf | exact hs2 | exact hsf2 | exact hj2 | exact ha0 | exact ha1 | exact ha2 | exact hap) ?_; conv => whnf)
            | fail)
          all_goals first
            | exact absurd hj0 (by assumption)
            | refine ⟨⟨j + 1 + 1, hkl⟩, mk, ?_⟩
          skip
          · refine SLe.of [] [(0, 23)] rfl rfl ?_
            conv => whnf
            repeat' (first
            | exact True.intro
            | (refine SAnd.mk (show _ = (_ : List (List PV)) from e) ?_; conv => whnf)
            | (refine SAnd.mk (PLe.refl _) ?_; conv => whnf))
    · have hcn' : ¬ (k : Int) < (((order.map cI).length : Nat) : Int) := hcn
      rw [hlo] at hcn'
      have : k = order.length := by omega
      subst this
      skip
      conv => whnf
      repeat' (first
        | fail)
      exact ⟨PLe.of_eq (by rw [List.take_length])⟩
end Go.Proofs.Ab.Area
end
section
/- The reference's delay. -/
set_option maxRecDepth 100000
set_option linter.unusedVariables false
set_option linter.unusedSimpArgs false
namespace Go.Proofs.Ab.Area
open Go Go.RowKit Go.Proofs.Ab
theorem delay_step {s a r : Int} (h1 : s.natAbs ≤ 1000000000000000) (h2 : 0 ≤ a ∧ a ≤ 1000000000000) (h3 : 0 ≤ r ∧ r ≤ 100000000) : wrapK IntKind.i64 (wrapK IntKind.i64 (s + a) - r) = s + (a - r) := by
  rw [w64 (n := s + a) (by omega), w64 (n := s + a - r) (by omega)]
  omega
theorem delay_small {d : Int} {k : Nat} (hk : k ≤ 1000) (h : -(k : Int) * 100000000 ≤ d ∧ d ≤ (k : Int) * 1000000000000) : d.natAbs ≤ 1000000000000000 := by omega
theorem tick_small {n : Nat} (hn : n ≤ 1000) {x : Tm} (h : TmOk n x) : 0 ≤ x.t ∧ x.t ≤ 1000000000000 := by
  have := h.t
  omega
set_option maxHeartbeats 4000000 in
theorem refDelay_pure {m : Int} (l : List Fg) (t : Tb) (order : List Int) (ho : order.length ≤ 1000) (hl : l.length ≤ 1000) (hlf : ∀ f ∈ l, FgOk f) (ht : TbOk t) (hoo : OrdOk l order) :
    APure (C m) 69 [.seq 3 (l.map fc), .agg (tbc t), .seq 1 (order.map cI)] (I (delayL l t order)) := by
  have hlo : (((order.map cI).length : Nat) : Int) = order.length := by simp
  have htm := refTimes_pure (m := m) l t order ho hl hlf ht hoo
  have htl := times_len l t order.length order rfl
  have hto := times_ok hlf ht order.length order rfl hoo
  have hfit : ∀ x ∈ timesL l t order, x.Fit := fun x hx => (hto x hx).fit ho
  have hdf := delay_fit hfit
  have hfk : ∀ k (h : k < (timesL l t order).length) (h2 : k < order.length), ((timesL l t order)[k]).f = l.getD (order[k]).toNat default := fun k h h2 => times_fk h h2
  unfold delayL
  unfold tickL at htm
  rw [htl] at hdf ⊢
  generalize timesL l t order = ys at *
  refine APure.of_body good [] (fn := Tryz.f69) (by kernel_rfl) (by kernel_rfl) rfl rfl (by kernel_rfl) rfl (by kernel_rfl) ?_
  conv => whnf
  repeat' (first
    | (refine SEx.mk _ (by first | exact htm) ?_; conv => whnf)
    | fail)
  refine ⟨AWp.loop (ι := { k : Nat // k ≤ order.length }) (fun k => ⟨[(9, .p (I k.1)), (7, .p (I (delayI ys k.1))), (8, .p (.seq 1 ((ys.map (·.t)).map cI))), (2, .p (.seq 1 (order.map cI))), (0, .p (.seq 3 (l.map fc)))], [], [], 0, [], [], []⟩) (fun k => order.length - k.1) ⟨0, by simp⟩ ?_ ?_⟩
  · skip
    · refine SLe.of [] [] rfl rfl ?_
      conv => whnf
      repeat' (first
      | exact True.intro
      | (refine SAnd.mk (PLe.refl _) ?_; conv => whnf))
  · rintro ⟨k, hk⟩
    refine codeK_sound good (mu := []) ?_
    conv => whnf
    refine SBool.mk (fun hcn => ?_) (fun hcn => ?_)
    · have hcn' : (k : Int) < (((order.map cI).length : Nat) : Int) := hcn
      rw [hlo] at hcn'
      have hkl : k < order.length := by omega
      have hky : k < ys.length := by omega
      have hs := some_at hkl cI
      have hst : 0 ≤ (k : Int) ∧ ((ys.map (·.t)).map cI)[((k : Int)).toNat]? = some [I ys[k].t] := ⟨by omega, by show ((ys.map (·.t)).map cI)[k]? = _; simp [hky]⟩
      have hi := hoo _ (List.getElem_mem hkl)
      have hf := hfk k hky hkl
      have hyk := hto _ (List.getElem_mem hky)
      have hsf : 0 ≤ order[k] ∧ (l.map fc)[(order[k]).toNat]? = some (fc ys[k].f) := ⟨hi.1, by rw [hf, List.getElem?_map, List.getElem?_eq_getElem hi.2, List.getD_eq_getElem?_getD, List.getElem?_eq_getElem hi.2]; rfl⟩
      have mk := sub_lt hkl
      have wk := wsucc (k := k) (by omega)
      have hd := hdf k hk
      have hdk := delay_small (Nat.le_trans hk ho) hd
      have hstp := delay_step hdk (tick_small ho hyk) hyk.f.r
      have e : wrapK IntKind.i64 (wrapK IntKind.i64 (delayI ys k + ys[k].t) - ys[k].f.ready) = delayI ys (k + 1) := by rw [hstp, delay_succ hky]; rfl
      clear hcn hcn' hoo hlf hto hfit hdf hfk hf hyk hd hdk hstp
      skip
      conv => whnf
      repeat' (first
        | (rw [wk]; conv => whnf)
        | (refine SEx.mk _ (by first | exact hs | exact hst | exact hsf) ?_; conv => whnf)
        | (refine SAnd.mk (by first | exact rfl | kernel_rfl | omega | decide | exact hs | exact hst | exact hsf) ?_; conv => whnf)
        | fail)
      refine ⟨⟨k + 1, hkl⟩, mk, ?_⟩
      skip
      · refine SLe.of [] [] rfl rfl ?_
        conv => whnf
        repeat' (first
        | exact True.intro
        | (refine SAnd.mk (PLe.of_eq (congrArg I e)) ?_; conv => whnf)
        | (refine SAnd.mk (PLe.refl _) ?_; conv => whnf))
    · have hcn' : ¬ (k : Int) < (((order.map cI).length : Nat) : Int) := hcn
      rw [hlo] at hcn'
      have : k = order.length := by omega
      subst this
      skip
      conv => whnf
      repeat' (first
        | fail)
      exact ⟨PLe.refl _⟩
end Go.Proofs.Ab.Area
end
section
/- The reference's search of orders. -/
set_option maxRecDepth 100000
set_option linter.unusedVariables false
set_option linter.unusedSimpArgs false
namespace Go.Proofs.Ab.Area
open Go Go.RowKit Go.Proofs.Ab
theorem ones_int (b : List Int) : ∀ c ∈ ((b.map cI) : List (List PV)).flatten, c.one = true := by
  intro c hc
  simp only [List.mem_flatten, List.mem_map] at hc
  obtain ⟨x, ⟨p, _, rfl⟩, hx⟩ := hc
  simp at hx
  rw [hx]
  rfl
end Go.Proofs.Ab.Area
end
section
/- The reference's bound: the sum. -/
set_option maxRecDepth 100000
set_option linter.unusedVariables false
set_option linter.unusedSimpArgs false
namespace Go.Proofs.Ab.Area
open Go Go.RowKit Go.Proofs.Ab
end Go.Proofs.Ab.Area
end
section
/- The reference's bound: the ready ticks in order. -/
set_option maxRecDepth 100000
set_option linter.unusedVariables false
set_option linter.unusedSimpArgs false
namespace Go.Proofs.Ab.Area
open Go Go.RowKit Go.Proofs.Ab
end Go.Proofs.Ab.Area
end
section
/- The reference's bound. -/
set_option maxRecDepth 100000
set_option linter.unusedVariables false
set_option linter.unusedSimpArgs false
namespace Go.Proofs.Ab.Area
open Go Go.RowKit Go.Proofs.Ab
end Go.Proofs.Ab.Area
end
section
/- The reference's Meets. -/
set_option maxRecDepth 100000
set_option linter.unusedVariables false
set_option linter.unusedSimpArgs false
namespace Go.Proofs.Ab.Area
open Go Go.RowKit Go.Proofs.Ab
end Go.Proofs.Ab.Area
end
section
/- The law of the shapes, given that the program is awake. -/
set_option maxRecDepth 100000
set_option linter.unusedVariables false
set_option linter.unusedSimpArgs false
namespace Go.Proofs.Ab.Area
open Go Go.RowKit Go.Proofs.Ab
theorem lawFirst_pure {m : Int} (xs : List Int) (hl : xs.length ≤ 1000000) : APure (C m) 19 [ints xs] (I (firstOf xs)) := by
  have h1 := refFirst_pure (m := m) xs (by omega)
  refine APure.of_body good [] (fn := Tryz.f19) (by kernel_rfl) (by kernel_rfl) rfl rfl (by kernel_rfl) rfl (by kernel_rfl) ?_
  conv => whnf
  repeat' (first
    | (refine codeK_sound good (mu := []) ?_; conv => whnf)
    | ((first | rw [wl0] | rw [wl1] | rw [wl2] | rw [wl3] | rw [wl4] | rw [wl5]); conv => whnf)
    | (refine SBool.mk (fun _ => ?_) (fun h => absurd (of_decide_eq_true rfl) h); conv => whnf)
    | (refine SBool.mk (fun h => absurd h (of_decide_eq_false rfl)) (fun _ => ?_); conv => whnf)
    | (refine SBool.mk (fun h => ?_) (fun h => ?_) <;> conv => whnf)
    | (refine SEx.mk _ (by first | exact h1) ?_; conv => whnf)
    | (refine SEx.mk _ (by first | exact rfl | exact ⟨of_decide_eq_true rfl, rfl⟩) ?_; conv => whnf)
    | (refine SAll.mk (fun _ => ?_); conv => whnf)
    | (refine SAnd.mk (by first | exact h1) ?_; conv => whnf)
    | (refine SAnd.mk ⟨by intro c hc; simp at hc; first | (subst hc; rfl) | ((repeat' (rcases hc with rfl | hc)) <;> first | rfl | (subst hc; rfl)), by (simp; first | done | omega), by (simp; first | done | omega)⟩ ?_; conv => whnf)
    | (refine SAnd.mk (by first | exact rfl | kernel_rfl | omega | decide | exact h1) ?_; conv => whnf)
    | fail)
  exact ⟨PLe.refl _⟩
section
attribute [local irreducible] APure
end
end Go.Proofs.Ab.Area
end
section
/- Lists handed over to the program; short lists. -/
set_option maxRecDepth 100000
set_option linter.unusedVariables false
set_option linter.unusedSimpArgs false
namespace Go.Proofs.Ab.Area
open Go Go.RowKit Go.Proofs.Ab
theorem one_fc (a : Fg) : ∀ c ∈ [fc a].flatten, c.one = true := by
  intro c hc
  simp only [List.flatten_cons, List.flatten_nil, List.append_nil, List.mem_cons, List.not_mem_nil, or_false] at hc
  rcases hc with rfl | rfl | rfl <;> rfl
theorem flown_pure {m : Int} (l : List Fg) (hl : l.length ≤ 1000000) : APure (C m) 63 [.seq 3 (l.map fc)] (.seq 3 (l.map fc)) := by
  have hlen : (((l.map fc).length : Nat) : Int) = l.length := by simp
  refine APure.of_body good [] (fn := Tryz.f63) (by kernel_rfl) (by kernel_rfl) rfl rfl (by kernel_rfl) rfl (by kernel_rfl) ?_
  conv => whnf
  repeat' (first
    | (rw [hlen]; conv => whnf)
    | fail)
  refine ⟨AWp.loop (ι := { k : Nat // k ≤ l.length }) (fun k => ⟨[(8, .p (I k.1)), (7, .p (I l.length)), (6, .p (.seq 3 (l.map fc))), (3, .own 0)], [], [(0, (218, 3, (l.take k.1).map fc))], 1, [], [], []⟩) (fun k => l.length - k.1) ⟨0, by simp⟩ ?_ ?_⟩
  · refine SLe.row 3 218 3 ?_
    conv => whnf
    skip
    · refine SLe.of [] [(0, 0)] rfl rfl ?_
      conv => whnf
      repeat' (first
      | exact True.intro
      | (refine SAnd.mk (PLe.refl _) ?_; conv => whnf)
      | (refine SAnd.mk rfl ?_; conv => whnf))
  · rintro ⟨k, hk⟩
    refine codeK_sound good (mu := []) ?_
    conv => whnf
    refine SBool.mk (fun hcn => ?_) (fun hcn => ?_)
    · have hkl : k < l.length := by simpa using hcn
      have hs := some_at hkl fc
      have mk := sub_lt hkl
      have hts := take_map_succ hkl fc
      have hap : (∀ c ∈ [fc l[k]].flatten, c.one = true) ∧ (((l.take k).map fc).length + 1) * 32 ≤ 140737488355328 ∧ ((l.take k).map fc).length + 1 ≤ 9223372036854775807 := ⟨one_fc _, by rw [List.length_map, List.length_take]; omega, by rw [List.length_map, List.length_take]; omega⟩
      have wk := wsucc (k := k) (by omega)
      clear hcn
      conv => whnf
      skip
      conv => whnf
      repeat' (first
        | (rw [wk]; conv => whnf)
        | (refine SEx.mk _ (by first | exact hs | exact hap) ?_; conv => whnf)
        | (refine SAnd.mk (by first | exact hs | exact hap) ?_; conv => whnf)
        | fail)
      refine ⟨⟨k + 1, hkl⟩, mk, ?_⟩
      skip
      · refine SLe.of [] [(0, 2)] rfl rfl ?_
        conv => whnf
        repeat' (first
        | exact True.intro
        | (refine SAnd.mk (hts.symm) ?_; conv => whnf)
        | (refine SAnd.mk (PLe.refl _) ?_; conv => whnf))
    · have : k = l.length := by simp at hcn; omega
      subst this
      skip
      conv => whnf
      repeat' (first
        | fail)
      exact ⟨PLe.of_eq (by rw [List.take_length])⟩
def shortFlightsB (l : List Fg) : Prop := (∀ a ∈ l, a.name.size ≤ 40) ∧ (l.length ≤ 5 ∨ l.length = 9)
theorem shortFlights_pure {m : Int} (l : List Fg) (hl : l.length ≤ 9223372036854775807) : ∃ b : Bool, (b = true → shortFlightsB l) ∧ APure (C m) 61 [.seq 3 (l.map fc)] (Bo b) := by
  have hlen : (((l.map fc).length : Nat) : Int) = l.length := by simp
  refine ⟨l.all (fun a => decide (a.name.size ≤ 40)) && decide (l.length ≤ 5 ∨ l.length = 9), fun h => ?_, ?_⟩
  · rw [Bool.and_eq_true, List.all_eq_true, decide_eq_true_eq] at h
    exact ⟨fun a ha => by simpa using h.1 a ha, h.2⟩
  · obtain ⟨V, hV⟩ : ∃ V, V = l.all (fun a => decide (a.name.size ≤ 40)) := ⟨_, rfl⟩
    rw [← hV]
    refine APure.of_body good [] (fn := Tryz.f61) (by kernel_rfl) (by kernel_rfl) rfl rfl (by kernel_rfl) rfl (by kernel_rfl) ?_
    conv => whnf
    repeat' (first
      | fail)
    refine ⟨AWp.loop (ι := { k : Nat // k ≤ l.length ∧ V = (l.drop k).all (fun a => decide (a.name.size ≤ 40)) }) (fun k => ⟨[(3, .p (I k.1)), (0, .p (.seq 3 (l.map fc)))], [], [], 0, [], [], []⟩) (fun k => l.length - k.1) ⟨0, by simp, by simpa using hV⟩ ?_ ?_⟩
    · skip
      · refine SLe.of [] [] rfl rfl ?_
        conv => whnf
        repeat' (first
        | exact True.intro
        | (refine SAnd.mk (PLe.refl _) ?_; conv => whnf))
    · rintro ⟨k, hk, he⟩
      clear hV
      refine codeK_sound good (mu := []) ?_
      conv => whnf
      refine SBool.mk (fun hcn => ?_) (fun hcn => ?_)
      · have hcn' : (k : Int) < (((l.map fc).length : Nat) : Int) := hcn
        rw [hlen] at hcn'
        have hkl : k < l.length := by omega
        have hs := some_at hkl fc
        have mk := sub_lt hkl
        have wk : wrapK IntKind.i64 ((k : Int) + 1) = k + 1 := wrap_id (by omega) (by omega)
        have hst : (l.drop k).all (fun a => decide (a.name.size ≤ 40)) = (decide (l[k].name.size ≤ 40) && (l.drop (k + 1)).all (fun a => decide (a.name.size ≤ 40))) := by rw [List.drop_eq_getElem_cons hkl, List.all_cons]
        rw [hst] at he
        clear hcn hcn' hst
        generalize l[k] = x at *
        by_cases hbig : x.name.size ≤ 40
        · rw [decide_eq_true hbig, Bool.true_and] at he
          have hbi : ¬ 40 < ((x.name.size : Nat) : Int) := by omega
          skip
          conv => whnf
          repeat' (first
            | (rw [wk]; conv => whnf)
            | (refine SBool.mk (fun h => ?_) (fun h => ?_) <;> conv => whnf)
            | (refine SEx.mk _ (by first | exact hs) ?_; conv => whnf)
            | fail)
          · exact absurd (by assumption) hbi
          · refine ⟨⟨k + 1, hkl, he⟩, mk, ?_⟩
            skip
            · refine SLe.of [] [] rfl rfl ?_
              conv => whnf
              repeat' (first
              | exact True.intro
              | (refine SAnd.mk (PLe.refl _) ?_; conv => whnf))
        · rw [decide_eq_false hbig, Bool.false_and] at he
          have hbi : 40 < ((x.name.size : Nat) : Int) := by omega
          subst he
          skip
          conv => whnf
          repeat' (first
            | (rw [wk]; conv => whnf)
            | (refine SBool.mk (fun h => ?_) (fun h => ?_) <;> conv => whnf)
            | (refine SEx.mk _ (by first | exact hs) ?_; conv => whnf)
            | fail)
          · exact ⟨PLe.of_eq (by rw [Bool.false_and])⟩
          · exact absurd hbi (by assumption)
      · have hcn' : ¬ (k : Int) < (((l.map fc).length : Nat) : Int) := hcn
        rw [hlen] at hcn'
        have hkl : k = l.length := by omega
        subst hkl
        rw [List.drop_length, List.all_nil] at he
        subst he
        rw [Bool.true_and]
        clear hcn hcn'
        skip
        conv => whnf
        repeat' (first
          | (rw [hlen]; conv => whnf)
          | (refine SBool.mk (fun h => ?_) (fun h => ?_) <;> conv => whnf)
          | fail)
        all_goals first
          | exact ⟨PLe.of_eq (congrArg Bo (decide_eq_true (by omega)).symm)⟩
          | exact ⟨PLe.of_eq (congrArg Bo (decide_eq_false (by omega)).symm)⟩
end Go.Proofs.Ab.Area
end
section
/- Areas handed over: with polygons of their own; short areas; what applies; conflicts compared. -/
set_option maxRecDepth 100000
set_option linter.unusedVariables false
set_option linter.unusedSimpArgs false
namespace Go.Proofs.Ab.Area
open Go Go.RowKit Go.Proofs.Ab
end Go.Proofs.Ab.Area
end
section
/- The reference's Usable. -/
set_option maxRecDepth 100000
set_option linter.unusedVariables false
set_option linter.unusedSimpArgs false
namespace Go.Proofs.Ab.Area
open Go Go.RowKit Go.Proofs.Ab
end Go.Proofs.Ab.Area
end
section
/- The reference's Conflicts, Permitted, Clear. -/
set_option maxRecDepth 100000
set_option linter.unusedVariables false
set_option linter.unusedSimpArgs false
namespace Go.Proofs.Ab.Area
open Go Go.RowKit Go.Proofs.Ab
structure Good3 (areas : List Ar) (lands : List Ld) (moves : List Mv) : Prop where
  ha : areas.length ≤ 1000
  hl : lands.length ≤ 1000
  hm : moves.length ≤ 1000
  hp : ∀ a ∈ areas, 0 < a.poly.length ∧ a.poly.length ≤ 1000 ∧ ∀ q ∈ a.poly, q.Fit
  hlt : ∀ x ∈ lands, x.lo < x.hi
  hmt : ∀ x ∈ moves, x.lo < x.hi ∧ x.box.Fit
end Go.Proofs.Ab.Area
end
section
/- The reference's Conflicts, Permitted. -/
set_option maxRecDepth 100000
set_option linter.unusedVariables false
set_option linter.unusedSimpArgs false
namespace Go.Proofs.Ab.Area
open Go Go.RowKit Go.Proofs.Ab
end Go.Proofs.Ab.Area
end
section
/- The reference's Clear. -/
set_option maxRecDepth 100000
set_option linter.unusedVariables false
set_option linter.unusedSimpArgs false
namespace Go.Proofs.Ab.Area
open Go Go.RowKit Go.Proofs.Ab
end Go.Proofs.Ab.Area
end
section
/- The reference's Earliest. -/
set_option maxRecDepth 100000
set_option linter.unusedVariables false
set_option linter.unusedSimpArgs false
namespace Go.Proofs.Ab.Area
open Go Go.RowKit Go.Proofs.Ab
structure ErlOk (areas : List Ar) (lands : List Ld) (x : Mv) (d : Int) : Prop where
  g : Good3 areas lands [x]
  lo : 0 ≤ x.lo ∧ x.lo ≤ 100000000
  d0 : 0 < d ∧ d ≤ 10000
  hh : ∀ l ∈ lands, 0 ≤ l.hi ∧ l.hi ≤ 100000000
theorem ErlOk.at {areas : List Ar} {lands : List Ld} {x : Mv} {d : Int} (h : ErlOk areas lands x d) (t : Int) : Good3 areas lands [atT x t d] :=
  ⟨h.g.ha, h.g.hl, by simp, h.g.hp, h.g.hlt, fun y hy => by
    have hy : y = atT x t d := by simpa using hy
    subst hy
    exact ⟨by show t < t + d; have := h.d0; omega, (h.g.hmt x (by simp)).2⟩⟩
end Go.Proofs.Ab.Area
end
section
/- The law of what applies. -/
set_option maxRecDepth 100000
set_option linter.unusedVariables false
set_option linter.unusedSimpArgs false
namespace Go.Proofs.Ab.Area
open Go Go.RowKit Go.Proofs.Ab
section
attribute [local irreducible] APure
end
end Go.Proofs.Ab.Area
end
section
/- The law of the conflicts. -/
set_option maxRecDepth 100000
set_option linter.unusedVariables false
set_option linter.unusedSimpArgs false
namespace Go.Proofs.Ab.Area
open Go Go.RowKit Go.Proofs.Ab
section
attribute [local irreducible] APure
end
end Go.Proofs.Ab.Area
end
section
/- The law of the best order. -/
set_option maxRecDepth 100000
set_option linter.unusedVariables false
set_option linter.unusedSimpArgs false
namespace Go.Proofs.Ab.Area
open Go Go.RowKit Go.Proofs.Ab
theorem sameInts_self {m : Int} (a : List Int) (hl : a.length ≤ 1000000) : APure (C m) 72 [.seq 1 (a.map cI), .seq 1 (a.map cI)] (Bo true) := by
  have := sameInts_pure (m := m) a a hl hl
  rw [decide_eq_true rfl] at this
  exact this
theorem sameInts_nil {m : Int} : APure (C m) 72 [nilS, nilS] (Bo true) :=
  (sameInts_self (m := m) [] (by simp)).weaken (.cons (PLe.nil 1) (.cons (PLe.nil 1) .nil)) (PLe.refl _)
section
attribute [local irreducible] APure
end
end Go.Proofs.Ab.Area
end
section
/- The law of an order of flights. -/
set_option maxRecDepth 100000
set_option linter.unusedVariables false
set_option linter.unusedSimpArgs false
namespace Go.Proofs.Ab.Area
open Go Go.RowKit Go.Proofs.Ab
section
attribute [local irreducible] APure
set_option maxHeartbeats 16000000 in
theorem AreaOrders_parts {m : Int} (l : List Fg) (t : Tb) (o : List Int) (e D fe se oe : Int) (A : PV) (hw : APure (C m) 13 [] (Bo true)) (hlen : ¬ 10 < (((o.map cI).length : Nat) : Int))
    (hbd : (∀ c ∈ (o.map cI).flatten, c.one = true) ∧ (([] : List (List PV)).length + (o.map cI).length) * 8 ≤ 140737488355328 ∧ ([] : List (List PV)).length + (o.map cI).length ≤ 9223372036854775807)
    (c61 : APure (C m) 61 [.seq 3 (l.map fc)] (Bo true)) (c63 : APure (C m) 63 [.seq 3 (l.map fc)] (.seq 3 (l.map fc)))
    (c62 : APure (C m) 62 [.seq 3 (l.map fc), .agg (tbc t), .seq 1 (o.map cI)] (.tup [A, I e])) (c64 : APure (C m) 64 [.seq 3 (l.map fc), .agg (tbc t), .seq 1 (o.map cI)] (.tup [I D, I e]))
    (c65 : APure (C m) 65 [.seq 3 (l.map fc)] (I fe)) (c66 : APure (C m) 66 [.agg (tbc t)] (I se)) (c67 : APure (C m) 67 [.seq 3 (l.map fc), .seq 1 (o.map cI)] (I oe)) (c19 : APure (C m) 19 [.seq 1 [[I fe], [I se], [I oe]]] (I e))
    (c68 : e = 0 → APure (C m) 68 [.seq 3 (l.map fc), .agg (tbc t), .seq 1 (o.map cI)] A) (c69 : e = 0 → APure (C m) 69 [.seq 3 (l.map fc), .agg (tbc t), .seq 1 (o.map cI)] (I D)) (k1 : e = 0 → APure (C m) 72 [A, A] (Bo true)) (k2 : e ≠ 0 → APure (C m) 72 [A, nilS] (Bo true)) (n1 : e ≠ 0 → D = 0)
    (c70 : APure (C m) 70 [.seq 3 (l.map fc)] (I fe)) (c71 : APure (C m) 71 [.agg (tbc t)] (I se)) :
    APure (C m) 7 [.seq 3 (l.map fc), .agg (tbc t), .seq 1 (o.map cI)] (Bo true) := by
  refine APure.of_body good [1027, 2029, 1037, 2039] (fn := Tryz.f7) (by kernel_rfl) (by kernel_rfl) rfl rfl (by kernel_rfl) rfl (by kernel_rfl) ?_
  conv => whnf
  repeat' (first
    | (refine SBool.mk (fun h => ?_) (fun h => ?_) <;> conv => whnf)
    | (refine SEx.mk _ (by first | exact hw | exact hbd | exact c61 | exact c63 | exact c62 | exact c64 | exact c65 | exact c66 | exact c67 | exact c19 | exact c68 (by assumption) | exact c69 (by assumption) | exact k1 (by assumption) | exact k2 (by assumption) | exact c70 | exact c71) ?_; conv => whnf)
    | (refine SAnd.mk (by first | exact hw | exact hbd) ?_; conv => whnf)
    | (refine SAnd.mk (by first | exact rfl | kernel_rfl | omega | decide | exact hw | exact hbd | exact c61 | exact c63 | exact c62 | exact c64 | exact c65 | exact c66 | exact c67 | exact c19 | exact c68 (by assumption) | exact c69 (by assumption) | exact k1 (by assumption) | exact k2 (by assumption) | exact c70 | exact c71) ?_; conv => whnf)
    | fail)
  all_goals first
    | exact ⟨PLe.refl _⟩
    | exact absurd rfl (by assumption)
    | exact absurd (by assumption) hlen
    | exact absurd (n1 (by assumption)) (by assumption)
end
set_option maxHeartbeats 4000000 in
theorem AreaOrders_pure {m : Int} (l : List Fg) (t : Tb) (o : List Int) (hl : l.length ≤ 9223372036854775807) : APure (C m) 7 [.seq 3 (l.map fc), .agg (tbc t), .seq 1 (o.map cI)] (Bo true) := by
  obtain ⟨b1, s1, c61⟩ := shortFlights_pure (m := m) l hl
  cases b1
  · refine APure.of_body good [] (fn := Tryz.f7) (by kernel_rfl) (by kernel_rfl) rfl rfl (by kernel_rfl) rfl (by kernel_rfl) ?_
    conv => whnf
    repeat' (first
      | (refine SEx.mk _ (by first | exact c61 | exact awake_pure) ?_; conv => whnf)
      | fail)
    exact ⟨PLe.refl _⟩
  by_cases hbig : 10 < (((o.map cI).length : Nat) : Int)
  · refine APure.of_body good [] (fn := Tryz.f7) (by kernel_rfl) (by kernel_rfl) rfl rfl (by kernel_rfl) rfl (by kernel_rfl) ?_
    conv => whnf
    repeat' (first
      | (refine SBool.mk (fun h => ?_) (fun h => ?_) <;> conv => whnf)
      | (refine SEx.mk _ (by first | exact c61 | exact awake_pure) ?_; conv => whnf)
      | (refine SAnd.mk (by first | exact rfl | kernel_rfl | omega | decide | exact c61 | exact awake_pure) ?_; conv => whnf)
      | fail)
    · exact ⟨PLe.refl _⟩
    all_goals exact absurd hbig (by assumption)
  have q1 := s1 rfl
  have l0 : l.length ≤ 1000 := by have := q1.2; omega
  have l1 : l.length ≤ 1000000 := by omega
  have o0 : o.length ≤ 1000 := by rw [List.length_map] at hbig; omega
  have o1 : o.length ≤ 1000000 := by omega
  have c19 := lawFirst_pure (m := m) [flightsE l, spaceE t, refOrd l o] (by simp)
  rw [order_same] at c19
  refine AreaOrders_parts l t o (orderE l t o) (if orderE l t o = 0 then delayL l t o else 0) (flightsE l) (spaceE t) (refOrd l o) (if orderE l t o = 0 then .seq 1 ((tickL l t o).map cI) else nilS) awake_pure hbig ⟨ones_int o, by simp only [List.length_nil, List.length_map]; omega, by simp only [List.length_nil, List.length_map]; omega⟩ c61 (flown_pure l l1)
    (Times_pure l t o l1 o1) (Delay_pure l t o l1 o1) (refFlights_pure l l1) (refSpacing_pure t) (refOrder_pure l o l1 o1) c19 (fun e => ?_) (fun e => ?_) (fun e => ?_) (fun e => ?_) (fun e => ?_) (CheckFlights_pure l l1) (CheckSpacing_pure t)
  · rw [if_pos e]
    have q := seq_of e
    exact refTimes_pure l t o o0 l0 q.f q.t q.o
  · rw [if_pos e]
    have q := seq_of e
    exact refDelay_pure l t o o0 l0 q.f q.t q.o
  · rw [if_pos e]
    exact sameInts_self _ (by unfold tickL; rw [List.length_map, times_len l t o.length o rfl]; exact o1)
  · rw [if_neg e]
    exact sameInts_nil
  · rw [if_neg e]
end Go.Proofs.Ab.Area
end
section
/- AreaOrders: for every list of flights, every table and every list of indices the program's CheckFlights, CheckSpacing, Times and Delay, or their errors, are the reference's: the law returns true. (Longer lists and names are left out by the law itself, but for one too many; the listed variables are as the program's text lays them.) -/
set_option maxRecDepth 100000
set_option linter.unusedVariables false
set_option linter.unusedSimpArgs false
namespace Go.Proofs.YtlgkijilmpjdmaaGreatDoor
open Go Go.RowKit Go.Proofs.Ab Go.Proofs.Ab.Area
theorem areaOrders_lifted (os : Os) (started : os.Started) (H : Type) (enc : TypeId × Value → H) :
    ReturnsInHanded {} Tryz.checked os 7 .any (fun w args => (Rows.areaOrdersSpec.pre enc Tryz.prog Tryz.f7 [] false w args ∧ laidMetH Tryz.prog listed w) ∧ sizedMet enc Tryz.prog Tryz.f7 (OpenSpec.ofChange Rows.areaOrdersSpec) false w args)
      (Rows.areaOrdersSpec.post enc Tryz.prog Tryz.f7 false true false false) := by
  refine lifted_of started (by as_aux_lemma => kernel_rfl) Tryz.func7 (ss := [(false, [.sl hdSh]), (true, tbSh), (false, [.sl [.int .i64]])])
    (witness #[.slice none 0 0, .agg #[.int .i64 0, .int .i64 0, .int .i64 0, .int .i64 0, .int .i64 0, .int .i64 0, .int .i64 0, .int .i64 0, .int .i64 0], .slice none 0 0] (by as_aux_lemma => kernel_rfl) (by as_aux_lemma => kernel_rfl) (by as_aux_lemma => kernel_rfl) (World.shaped_of_ZipB (by as_aux_lemma => kernel_rfl) (by as_aux_lemma => kernel_rfl)) (laidMet_laidAll _ (by as_aux_lemma => kernel_rfl) (by as_aux_lemma => kernel_rfl)))
    ?_ (by as_aux_lemma => kernel_rfl) (by as_aux_lemma => kernel_rfl) rfl ?_ ?_
  · rw [Tryz.params7]
    intro t ht
    have hall : ([102, 104, 105].all fun u => Tryz.prog.readableRec u && decide (u < Tryz.prog.types.size)) = true := by as_aux_lemma => kernel_rfl
    have := List.all_eq_true.1 hall t (by simpa using ht)
    rw [Bool.and_eq_true, decide_eq_true_eq] at this
    exact this
  · rw [Tryz.params7]
    intro ds hd
    match ds, hd with
    | [d0, d1, d2], _ => exact ⟨rfl, rfl, rfl⟩
  · intro m xs h
    obtain ⟨x0, xs, rfl, h0, h⟩ := h.uncons
    obtain ⟨x1, xs, rfl, h1, h⟩ := h.uncons
    obtain ⟨x2, xs, rfl, h2, h⟩ := h.uncons
    obtain rfl := h.unnil
    obtain ⟨l, rfl, hl⟩ := fit_flights h0
    obtain ⟨t, rfl⟩ := fit_table h1
    obtain ⟨o, rfl⟩ := fit_order h2
    exact AreaOrders_pure l t o hl
set_option maxHeartbeats 40000000 in
theorem areaOrders_facts : joinedFacts Tryz.pinned.checked.prog 7 Tryz.f7 Rows.areaOrdersSpec Rows.areaOrdersRow = true := by
  unfold joinedFacts
  simp only [Bool.and_eq_true]
  repeat' apply And.intro
  all_goals as_aux_lemma => kernel_rfl
theorem areaOrders_row : Rows.AreaOrdersSaid :=
  OpenClaim.holds_of_wide 7 Tryz.f7 rfl rfl rfl rfl rfl rfl rfl ⟨rfl, rfl, rfl, rfl, rfl⟩ rfl rfl rfl rfl rfl (by as_aux_lemma => kernel_rfl) Tryz.func7 areaOrders_facts
    (of_decide_eq_true (by as_aux_lemma => kernel_rfl)) (by as_aux_lemma => unfold Func.isWrapper; first | (rw [if_pos (by decide +kernel)]; kernel_rfl) | (rw [if_neg (by decide +kernel)]; exact ⟨rfl, rfl⟩))
    (fun os started H enc _ => areaOrders_lifted os started H enc)
theorem areaOrders_named : Tryz.prog.funcNamed "glideslope/glideslopelaw05.AreaOrders" = some 7 := by kernel_rfl
theorem areaOrders_holds : Rows.AreaOrdersCardSaid :=
  Claim7.holds_tied_plain_at .later [] [.data, .data, .data, .data, .pinned] true (true, "8d132721e60c3e414474b7b7d1fa76c26332388e2b61df2dc171e81fefcccd9a") false areaOrders_row (fun _ h => by cases h) (by as_aux_lemma => kernel_rfl) (fun _ h => by cases h) areaOrders_row_tie rfl ⟨rfl, rfl⟩ (by as_aux_lemma => kernel_rfl) rfl
    (fun f fn hf hfn => by
      obtain rfl : f = 7 := Option.some.inj (areaOrders_named.symm.trans hf) |>.symm
      obtain rfl : fn = Tryz.f7 := (Option.some.inj (Tryz.func7.symm.trans hfn)).symm
      exact ⟨by as_aux_lemma => kernel_rfl, fun j t ht => by
        rw [Tryz.params7] at ht
        have hm : t ∈ [102, 104, 105] := by simpa using Array.mem_of_getElem? ht
        have hall : ([102, 104, 105].all fun u => !Tryz.prog.wantsStandIn u) = true := by as_aux_lemma => kernel_rfl
        exact (show Tryz.prog.wantsStandIn t = false by simpa using List.all_eq_true.1 hall t hm)⟩)
    (by as_aux_lemma => kernel_rfl)
#print axioms areaOrders_holds
end Go.Proofs.YtlgkijilmpjdmaaGreatDoor
end
