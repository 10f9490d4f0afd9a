/- The proof of AreaMoves (see the last theorem): for every input that can be read the law returns true; the listed package-level variables are as the program's text lays them. -/
import Derived.Test.YtlgkijilmpjdmaaGreatDoorK6
section
/- The shapes of the laws' parameters. -/
set_option maxRecDepth 100000
set_option linter.unusedVariables false
set_option linter.unusedSimpArgs false
namespace Go.Proofs.Ab.Area
open Go Go.RowKit Go.Proofs.Ab
abbrev arSh : List Sh := [.str, .int .i64, .int .i64, .sl ptSh]
abbrev ldSh : List Sh := [.str, .int .i64, .int .i64, .int .i64]
abbrev mvSh : List Sh := [.str, .int .i64, .int .i64, .int .i64, .int .i64, .int .i64, .int .i64, .int .i64]
theorem maxLen_eq : maxLen = 9223372036854775807 := rfl
theorem fitL_ar {xs : List PV} (h : FitL arSh xs) : ∃ a : Ar, xs = ac a := by
  obtain ⟨c1, xs, rfl, h1, h⟩ := h.uncons
  obtain ⟨c2, xs, rfl, h2, h⟩ := h.uncons
  obtain ⟨c3, xs, rfl, h3, h⟩ := h.uncons
  obtain ⟨c4, xs, rfl, h4, h⟩ := h.uncons
  obtain rfl := h.unnil
  obtain ⟨s, rfl, _⟩ := h1.str_inv
  obtain ⟨n2, rfl, _⟩ := h2.int_inv
  obtain ⟨n3, rfl, _⟩ := h3.int_inv
  obtain ⟨ys, rfl, _, hx⟩ := h4.sl_inv
  obtain ⟨l, rfl⟩ := rows_of (fun _ => fitL_pt) hx
  exact ⟨⟨s, n2, n3, l⟩, rfl⟩
theorem fitL_ld {xs : List PV} (h : FitL ldSh xs) : ∃ a : Ld, xs = lc a := by
  obtain ⟨c1, xs, rfl, h1, h⟩ := h.uncons
  obtain ⟨c2, xs, rfl, h2, h⟩ := h.uncons
  obtain ⟨c3, xs, rfl, h3, h⟩ := h.uncons
  obtain ⟨c4, xs, rfl, h4, h⟩ := h.uncons
  obtain rfl := h.unnil
  obtain ⟨s, rfl, _⟩ := h1.str_inv
  obtain ⟨n2, rfl, _⟩ := h2.int_inv
  obtain ⟨n3, rfl, _⟩ := h3.int_inv
  obtain ⟨n4, rfl, _⟩ := h4.int_inv
  exact ⟨⟨s, n2, n3, n4⟩, rfl⟩
theorem fitL_mv {xs : List PV} (h : FitL mvSh xs) : ∃ a : Mv, xs = mc a := by
  obtain ⟨c1, xs, rfl, h1, h⟩ := h.uncons
  obtain ⟨c2, xs, rfl, h2, h⟩ := h.uncons
  obtain ⟨c3, xs, rfl, h3, h⟩ := h.uncons
  obtain ⟨c4, xs, rfl, h4, h⟩ := h.uncons
  obtain ⟨c5, xs, rfl, h5, h⟩ := h.uncons
  obtain ⟨c6, xs, rfl, h6, h⟩ := h.uncons
  obtain ⟨c7, xs, rfl, h7, h⟩ := h.uncons
  obtain ⟨c8, xs, rfl, h8, h⟩ := h.uncons
  obtain rfl := h.unnil
  obtain ⟨s, rfl, _⟩ := h1.str_inv
  obtain ⟨n2, rfl, _⟩ := h2.int_inv
  obtain ⟨n3, rfl, _⟩ := h3.int_inv
  obtain ⟨n4, rfl, _⟩ := h4.int_inv
  obtain ⟨n5, rfl, _⟩ := h5.int_inv
  obtain ⟨n6, rfl, _⟩ := h6.int_inv
  obtain ⟨n7, rfl, _⟩ := h7.int_inv
  obtain ⟨n8, rfl, _⟩ := h8.int_inv
  exact ⟨⟨s, n2, ⟨⟨n3, n4⟩, ⟨n5, n6⟩⟩, n7, n8⟩, rfl⟩
theorem fit_sl {el : List Sh} {α : Type} {f : α → List PV} (hf : ∀ x, FitL el x → ∃ a, x = f a) {c : PV} (h : Fit (.sl el) c) : ∃ l : List α, c = .seq el.length (l.map f) ∧ l.length ≤ 9223372036854775807 := by
  obtain ⟨xs, rfl, hl, hx⟩ := h.sl_inv
  obtain ⟨l, rfl⟩ := rows_of hf hx
  exact ⟨l, rfl, by rw [← maxLen_eq]; simpa using hl⟩
theorem fit_list {el : List Sh} {α : Type} {f : α → List PV} (hf : ∀ x, FitL el x → ∃ a, x = f a) {x : PV} (h : FitP (false, [.sl el]) x) : ∃ l : List α, x = .seq el.length (l.map f) ∧ l.length ≤ 9223372036854775807 := by
  obtain ⟨c1, xs, e, h1, _⟩ := FitL.uncons h
  cases e
  exact fit_sl hf h1
theorem fit_areas {x : PV} (h : FitP (false, [.sl arSh]) x) : ∃ l : List Ar, x = .seq 4 (l.map ac) ∧ l.length ≤ 9223372036854775807 := fit_list (fun _ => fitL_ar) h
theorem fit_lands {x : PV} (h : FitP (false, [.sl ldSh]) x) : ∃ l : List Ld, x = .seq 4 (l.map lc) ∧ l.length ≤ 9223372036854775807 := fit_list (fun _ => fitL_ld) h
theorem fit_move {x : PV} (h : FitP (true, mvSh) x) : ∃ a : Mv, x = .agg (mc a) := by
  obtain ⟨xs, rfl, h⟩ := h
  obtain ⟨a, rfl⟩ := fitL_mv h
  exact ⟨a, rfl⟩
end Go.Proofs.Ab.Area
end
section
/- The reference's CheckPolygon, Size, CheckBox and Meets. -/
set_option maxRecDepth 100000
set_option linter.unusedVariables false
set_option linter.unusedSimpArgs false
namespace Go.Proofs.Ab.Area
open Go Go.RowKit Go.Proofs.Ab
theorem firstM_drop {α : Type} (f : α → Int) {xs : List α} {k : Nat} (h : k < xs.length) : firstOf ((xs.drop k).map f) = if f xs[k] = 0 then firstOf ((xs.drop (k + 1)).map f) else f xs[k] := by
  rw [List.drop_eq_getElem_cons h]
  rfl
theorem firstOf_one (x : Int) : firstOf [x] = x := by
  simp only [firstOf]
  split
  · rename_i h; exact h.symm
  · rfl
theorem refPoly1 {m : Int} (l : List Pt) (h3 : 3 ≤ l.length) (hl : l.length ≤ 1000) :
    AWp (C m) Tryz.f18.ntmps (pieceAt [1, 1] c18) (endV m [ResultVar.tmp 2] (I (if firstOf (l.map ptE) = 0 then (if (List.range l.length).any (badB l) then 1 else 0) else firstOf (l.map ptE)))) ⟨[(0, .p (.seq 2 (l.map pc)))], [], [], 0, [], [], []⟩ := by
  refine codeN_sound good (mu := []) (n := 1) ?_
  conv => whnf
  refine ⟨AWp.loop (ι := { k : Nat // k ≤ l.length ∧ firstOf (l.map ptE) = firstOf ((l.drop k).map ptE) }) (fun k => ⟨[(4, .p (I k.1)), (0, .p (.seq 2 (l.map pc)))], [], [], 0, [], [], []⟩) (fun k => l.length - k.1) ⟨0, by simp⟩ ?_ ?_⟩
  · skip
    · refine SLe.of [] [] rfl rfl ?_
      conv => whnf
      repeat' (first
      | exact True.intro
      | (refine SAnd.mk (PLe.refl _) ?_; conv => whnf))
  · rintro ⟨k, hk, he⟩
    refine codeK_sound good (mu := []) ?_
    conv => whnf
    refine SBool.mk (fun hcn => ?_) (fun hcn => ?_)
    · have hkl : k < l.length := by simpa using hcn
      have hs0 : 0 ≤ (k : Int) ∧ (l.map pc)[((k : Int)).toNat]? = some (pc l[k]) := ⟨by omega, by show (l.map pc)[k]? = _; simp [hkl]⟩
      have mk : l.length - (k + 1) < l.length - k := by omega
      have hd := firstM_drop ptE hkl
      have wk : wrapK IntKind.i64 ((k : Int) + 1) = k + 1 := w64 (by omega)
      have hp := refPoint_pure (m := m) l[k]
      generalize ptE l[k] = e at hp hd
      have ret : ¬ e = 0 → (if firstOf (l.map ptE) = 0 then (if (List.range l.length).any (badB l) then (1 : Int) else 0) else firstOf (l.map ptE)) = e := fun h => by rw [he, hd, if_neg h, if_neg h]
      have nxt : e = 0 → firstOf (l.map ptE) = firstOf ((l.drop (k + 1)).map ptE) := fun h => by rw [he, hd, if_pos h]
      conv => whnf
      conv => whnf
      repeat' (first
        | (rw [wk]; conv => whnf)
        | (refine SBool.mk (fun h => ?_) (fun h => ?_) <;> conv => whnf)
        | (refine SEx.mk _ (by first | exact hs0 | exact hp) ?_; conv => whnf)
        | fail)
      all_goals first
        | exact ⟨PLe.of_eq (congrArg I (ret (by assumption)).symm)⟩
        | refine ⟨⟨k + 1, hkl, nxt (by assumption)⟩, mk, ?_⟩
      skip
      · refine SLe.of [] [] rfl rfl ?_
        conv => whnf
        repeat' (first
        | exact True.intro
        | (refine SAnd.mk (PLe.refl _) ?_; conv => whnf))
    · have : k = l.length := by simp at hcn; omega
      subst this
      have hz : firstOf (l.map ptE) = 0 := by rw [he, List.drop_length]; rfl
      have hfit : ∀ q ∈ l, q.Fit := fun q hq => fit_of (firstOf_all.1 hz _ (List.mem_map_of_mem hq))
      have go := refPoly2 (m := m) l h3 hl hfit
      rw [if_pos hz]
      conv => whnf
      refine ⟨AWp.le ?_ go⟩
      skip
      · refine SLe.of [] [] rfl rfl ?_
        conv => whnf
        repeat' (first
        | exact True.intro
        | (refine SAnd.mk (PLe.refl _) ?_; conv => whnf))
theorem refPolygon_pure {m : Int} (l : List Pt) (hl : l.length ≤ 1000) : APure (C m) 18 [.seq 2 (l.map pc)] (I (polyE l)) := by
  have hlen : (((l.map pc).length : Nat) : Int) = l.length := by simp
  have pe : ∀ a b : Int, a = (if l.length < 3 then 16 else 0) → b = (if 8 < l.length then 5 else 0) → polyF l = firstOf [a, b, firstOf (l.map ptE)] := fun a b ha hb => by rw [ha, hb]; rfl
  have ret : ∀ a b : Int, a = (if l.length < 3 then 16 else 0) → b = (if 8 < l.length then 5 else 0) → ¬ firstOf [a, b] = 0 → firstOf [a, b] = polyE l := fun a b ha hb h => by
    have e : polyF l = firstOf [a, b] := by
      rw [pe a b ha hb]
      simp only [firstOf] at h ⊢
      split
      · split
        · rename_i h1 h2; simp [h1, h2] at h
        · rfl
      · rfl
    unfold polyE
    rw [e, if_neg h]
  have go : ∀ a b : Int, a = (if l.length < 3 then 16 else 0) → b = (if 8 < l.length then 5 else 0) → firstOf [a, b] = 0 →
      AWp (C m) Tryz.f18.ntmps (pieceAt [1, 1] c18) (endV m [ResultVar.tmp 2] (I (polyE l))) ⟨[(0, .p (.seq 2 (l.map pc)))], [], [], 0, [], [], []⟩ := fun a b ha hb h => by
    rw [firstOf_zero, firstOf_zero] at h
    have h3 : 3 ≤ l.length := by
      rcases Nat.lt_or_ge l.length 3 with hh | hh
      · rw [if_pos hh] at ha; rw [ha] at h; exact absurd h.1 (by decide)
      · exact hh
    have e : polyF l = firstOf (l.map ptE) := by
      rw [pe a b ha hb, h.1, h.2.1]
      exact firstOf_one _
    have e2 : polyE l = if firstOf (l.map ptE) = 0 then (if (List.range l.length).any (badB l) then 1 else 0) else firstOf (l.map ptE) := by unfold polyE; rw [e]
    rw [e2]
    exact refPoly1 l h3 hl
  refine APure.of_wp good (fn := Tryz.f18) (by kernel_rfl) (by kernel_rfl) rfl rfl (by kernel_rfl) rfl (by kernel_rfl) ?_
  refine codeN_sound good (mu := []) (n := 2) ?_
  conv => whnf
  repeat' (first
    | (rw [hlen]; conv => whnf)
    | (refine SBool.mk (fun _ => ?_) (fun h => absurd (of_decide_eq_true rfl) h); conv => whnf)
    | (refine SBool.mk (fun h => absurd h (of_decide_eq_false rfl)) (fun _ => ?_); conv => whnf)
    | (refine SBool.mk (fun h => ?_) (fun h => ?_) <;> conv => whnf)
    | (refine SEx.mk _ (by first | exact refWhen_pure _ _ | exact refFirst2_pure _ _) ?_; conv => whnf)
    | fail)
  all_goals first
    | exact ⟨PLe.of_eq (congrArg I (ret _ _ (by first | exact (if_pos (by omega)).symm | exact (if_neg (by omega)).symm) (by first | exact (if_pos (by omega)).symm | exact (if_neg (by omega)).symm) (by assumption)))⟩
    | refine ⟨AWp.le ?_ (go _ _ (by first | exact (if_pos (by omega)).symm | exact (if_neg (by omega)).symm) (by first | exact (if_pos (by omega)).symm | exact (if_neg (by omega)).symm) (by assumption))⟩
  all_goals
    skip
    · refine SLe.of [] [] rfl rfl ?_
      conv => whnf
      repeat' (first
      | exact True.intro
      | (refine SAnd.mk (PLe.refl _) ?_; conv => whnf))
theorem refBox_pure {m : Int} (b : Bx) : APure (C m) 21 [.agg (bc b)] (I (boxE b)) := by
  have e : ∀ a : Int, a = (if b.hi.x < b.lo.x ∨ b.hi.y < b.lo.y then 11 else 0) → firstOf [ptE b.lo, ptE b.hi, a] = boxE b := fun a h => by rw [h]; rfl
  refine APure.of_body good [] (fn := Tryz.f21) (by kernel_rfl) (by kernel_rfl) rfl rfl (by kernel_rfl) rfl (by kernel_rfl) ?_
  conv => whnf
  repeat' (first
    | (refine SBool.mk (fun h => ?_) (fun h => ?_) <;> conv => whnf)
    | (refine SEx.mk _ (by first | exact refPoint_pure b.lo | exact refPoint_pure b.hi | exact refWhen_pure _ _ | exact refFirst3_pure _ _ _) ?_; conv => whnf)
    | (refine SAnd.mk (by first | exact rfl | kernel_rfl | omega | decide | exact refPoint_pure b.lo | exact refPoint_pure b.hi | exact refWhen_pure _ _ | exact refFirst3_pure _ _ _) ?_; conv => whnf)
    | fail)
  all_goals exact ⟨PLe.of_eq (congrArg I (e _ (by first | exact (if_pos (by omega)).symm | exact (if_neg (by omega)).symm)))⟩
theorem refCorners_pure {m : Int} (b : Bx) : APure (C m) 103 [.agg (bc b)] (.seq 2 ((four b).map pc)) := by
  refine APure.of_body good [] (fn := Tryz.f103) (by kernel_rfl) (by kernel_rfl) rfl rfl (by kernel_rfl) rfl (by kernel_rfl) ?_
  conv => whnf
  repeat' (first
    | fail)
  exact ⟨PLe.refl _⟩
end Go.Proofs.Ab.Area
end
section
/- The reference's Meets. -/
set_option maxRecDepth 100000
set_option linter.unusedVariables false
set_option linter.unusedSimpArgs false
namespace Go.Proofs.Ab.Area
open Go Go.RowKit Go.Proofs.Ab
def lo_ (f : Pt → Int) (l : List Pt) (k : Nat) : Int := ((l.take k).map f).foldl min (f (cor l 0))
def hi_ (f : Pt → Int) (l : List Pt) (k : Nat) : Int := ((l.take k).map f).foldl max (f (cor l 0))
theorem lo_succ (f : Pt → Int) {l : List Pt} {k : Nat} (h : k < l.length) : lo_ f l (k + 1) = min (lo_ f l k) (f (cor l k)) := by
  unfold lo_
  rw [take_map_succ h, List.foldl_append, cor_lt h]
  rfl
theorem hi_succ (f : Pt → Int) {l : List Pt} {k : Nat} (h : k < l.length) : hi_ f l (k + 1) = max (hi_ f l k) (f (cor l k)) := by
  unfold hi_
  rw [take_map_succ h, List.foldl_append, cor_lt h]
  rfl
theorem lo_iff (f : Pt → Int) {l : List Pt} (h0 : 0 < l.length) (c : Int) : ∀ k, k ≤ l.length → (c < lo_ f l k ↔ c < f (cor l 0) ∧ ∀ j, j < k → c < f (cor l j))
  | 0, _ => by unfold lo_; simp
  | k + 1, hk => by
    rw [lo_succ f (by omega), Int.lt_min, lo_iff f h0 c k (by omega)]
    constructor
    · rintro ⟨⟨h1, h2⟩, h3⟩
      refine ⟨h1, fun j hj => ?_⟩
      by_cases e : j = k
      · subst e; exact h3
      · exact h2 j (by omega)
    · rintro ⟨h1, h2⟩
      exact ⟨⟨h1, fun j hj => h2 j (by omega)⟩, h2 k (by omega)⟩
theorem hi_iff (f : Pt → Int) {l : List Pt} (h0 : 0 < l.length) (c : Int) : ∀ k, k ≤ l.length → (hi_ f l k < c ↔ f (cor l 0) < c ∧ ∀ j, j < k → f (cor l j) < c)
  | 0, _ => by unfold hi_; simp
  | k + 1, hk => by
    rw [hi_succ f (by omega), Int.max_lt, hi_iff f h0 c k (by omega)]
    constructor
    · rintro ⟨⟨h1, h2⟩, h3⟩
      refine ⟨h1, fun j hj => ?_⟩
      by_cases e : j = k
      · subst e; exact h3
      · exact h2 j (by omega)
    · rintro ⟨h1, h2⟩
      exact ⟨⟨h1, fun j hj => h2 j (by omega)⟩, h2 k (by omega)⟩
theorem lo_all (f : Pt → Int) {l : List Pt} (h0 : 0 < l.length) (c : Int) : l.all (fun p => decide (c < f p)) = decide (c < lo_ f l l.length) := by
  rw [Bool.eq_iff_iff, List.all_eq_true, decide_eq_true_eq, lo_iff f h0 c _ (Nat.le_refl _)]
  constructor
  · intro h
    exact ⟨by simpa using h _ (cor_mem h0 0), fun j _ => by simpa using h _ (cor_mem h0 j)⟩
  · rintro ⟨_, h⟩ p hp
    obtain ⟨j, hj, rfl⟩ := mem_cor hp
    simpa using h j hj
theorem hi_all (f : Pt → Int) {l : List Pt} (h0 : 0 < l.length) (c : Int) : l.all (fun p => decide (f p < c)) = decide (hi_ f l l.length < c) := by
  rw [Bool.eq_iff_iff, List.all_eq_true, decide_eq_true_eq, hi_iff f h0 c _ (Nat.le_refl _)]
  constructor
  · intro h
    exact ⟨by simpa using h _ (cor_mem h0 0), fun j _ => by simpa using h _ (cor_mem h0 j)⟩
  · rintro ⟨_, h⟩ p hp
    obtain ⟨j, hj, rfl⟩ := mem_cor hp
    simpa using h j hj
/-- A box beyond a side, by the least and the greatest parts. -/
def sideR (l : List Pt) (b : Bx) : Prop := ((hi_ (·.x) l l.length < b.lo.x ∨ b.hi.x < lo_ (·.x) l l.length) ∨ hi_ (·.y) l l.length < b.lo.y) ∨ b.hi.y < lo_ (·.y) l l.length
theorem side_iff {l : List Pt} (h0 : 0 < l.length) (b : Bx) : sideB l b = true ↔ sideR l b := by
  unfold sideB sideR
  rw [hi_all (·.x) h0, lo_all (·.x) h0, hi_all (·.y) h0, lo_all (·.y) h0, Bool.or_eq_true, Bool.or_eq_true, Bool.or_eq_true]
  simp only [decide_eq_true_eq]
def sepR (l : List Pt) (b : Bx) (i : Nat) : Bool := (((decide (cr (cor l i) (cor l (i + 1)) b.lo < 0)) && decide (cr (cor l i) (cor l (i + 1)) ⟨b.hi.x, b.lo.y⟩ < 0)) && decide (cr (cor l i) (cor l (i + 1)) b.hi < 0)) && decide (cr (cor l i) (cor l (i + 1)) ⟨b.lo.x, b.hi.y⟩ < 0)
theorem sep_eq (l : List Pt) (b : Bx) : sepB l b = (List.range l.length).any (sepR l b) := by
  unfold sepB
  congr 1
  funext i
  rw [Bool.eq_iff_iff, List.all_eq_true]
  have := corners_four (b := b) (P := fun p => decide (cr (cor l i) (cor l (i + 1)) p < 0) = true)
  rw [this]
  unfold sepR
  simp only [four, List.mem_cons, List.not_mem_nil, or_false, forall_eq_or_imp, forall_eq, Bool.and_eq_true]
  constructor
  · rintro ⟨h1, h2, h3, h4⟩; exact ⟨⟨⟨h1, h2⟩, h3⟩, h4⟩
  · rintro ⟨⟨⟨h1, h2⟩, h3⟩, h4⟩; exact ⟨h1, h2, h3, h4⟩
noncomputable def c24 : Code := Tryz.f24.body.getD .skip
set_option maxHeartbeats 4000000 in
theorem refMeets2 {m : Int} (l : List Pt) (b : Bx) (h0 : 0 < l.length) (hl : l.length ≤ 1000) (hf : ∀ q ∈ l, q.Fit) (hb : b.Fit) :
    AWp (C m) Tryz.f24.ntmps (pieceAt [1, 1, 1, 1, 1] c24) (endV m [ResultVar.tmp 4] (Bo (!(List.range l.length).any (sepR l b)))) ⟨[(0, .p (.seq 2 (l.map pc))), (8, .p (.seq 2 ((four b).map pc)))], [], [], 0, [], [], []⟩ := by
  have hm : ∀ i, (cor l i).Fit := fun i => hf _ (cor_mem (by omega) i)
  refine codeK_sound good (mu := []) ?_
  conv => whnf
  refine ⟨AWp.loop (ι := { i : Nat // i ≤ l.length ∧ (List.range i).any (sepR l b) = false }) (fun i => ⟨[(9, .p (I i.1)), (0, .p (.seq 2 (l.map pc))), (8, .p (.seq 2 ((four b).map pc)))], [], [], 0, [], [], []⟩) (fun i => l.length - i.1) ⟨0, by simp⟩ ?_ ?_⟩
  · skip
    · refine SLe.of [] [] rfl rfl ?_
      conv => whnf
      repeat' (first
      | exact True.intro
      | (refine SAnd.mk (PLe.refl _) ?_; conv => whnf))
  · rintro ⟨i, hi, hI⟩
    refine codeK_sound good (mu := []) ?_
    conv => whnf
    refine SBool.mk (fun hc1 => ?_) (fun hc1 => ?_)
    · have hil : i < l.length := by simpa using hc1
      have hs0 := cor_at hil
      have hn1 := refNext_pure (m := m) l i (by omega) (by omega)
      have mi : l.length - (i + 1) < l.length - i := by omega
      have wi : wrapK IntKind.i64 ((i : Int) + 1) = i + 1 := w64 (by omega)
      have k1 := refCross_pure (m := m) (cor l i) (cor l (i + 1)) b.lo (hm _) (hm _) hb.lo
      have k2 := refCross_pure (m := m) (cor l i) (cor l (i + 1)) ⟨b.hi.x, b.lo.y⟩ (hm _) (hm _) ⟨hb.hi.x, hb.lo.y⟩
      have k3 := refCross_pure (m := m) (cor l i) (cor l (i + 1)) b.hi (hm _) (hm _) hb.hi
      have k4 := refCross_pure (m := m) (cor l i) (cor l (i + 1)) ⟨b.lo.x, b.hi.y⟩ (hm _) (hm _) ⟨hb.lo.x, hb.hi.y⟩
      have hsr : sepR l b i = ((((decide (cr (cor l i) (cor l (i + 1)) b.lo < 0)) && decide (cr (cor l i) (cor l (i + 1)) ⟨b.hi.x, b.lo.y⟩ < 0)) && decide (cr (cor l i) (cor l (i + 1)) b.hi < 0)) && decide (cr (cor l i) (cor l (i + 1)) ⟨b.lo.x, b.hi.y⟩ < 0)) := rfl
      have yes : sepR l b i = true → (!(List.range l.length).any (sepR l b)) = false := fun h => by rw [range_any_true hil h]; rfl
      have nxt : sepR l b i = false → (List.range (i + 1)).any (sepR l b) = false := fun h => by rw [range_any, hI, h]; rfl
      generalize cr (cor l i) (cor l (i + 1)) b.lo = v1 at k1 hsr
      generalize cr (cor l i) (cor l (i + 1)) ⟨b.hi.x, b.lo.y⟩ = v2 at k2 hsr
      generalize cr (cor l i) (cor l (i + 1)) b.hi = v3 at k3 hsr
      generalize cr (cor l i) (cor l (i + 1)) ⟨b.lo.x, b.hi.y⟩ = v4 at k4 hsr
      conv => whnf
      conv => whnf
      repeat' (first
        | (refine codeK_sound good (mu := []) ?_; conv => whnf)
        | ((first | rw [wl0] | rw [wl1] | rw [wl2] | rw [wl3] | rw [wl4] | rw [wl5]); conv => whnf)
        | (rw [wi]; conv => whnf)
        | (refine SBool.mk (fun _ => ?_) (fun h => absurd (of_decide_eq_true rfl) h); conv => whnf)
        | (refine SBool.mk (fun h => absurd h (of_decide_eq_false rfl)) (fun _ => ?_); conv => whnf)
        | (refine SBool.mk (fun h => ?_) (fun h => ?_) <;> conv => whnf)
        | refine SCode.mk (AWp.rounds 5 ?_)
        | (refine SEx.mk _ (by first | exact hs0 | exact hn1 | exact k1 | exact k2 | exact k3 | exact k4) ?_; conv => whnf)
        | (refine SEx.mk _ (by first | exact rfl | exact ⟨of_decide_eq_true rfl, rfl⟩) ?_; conv => whnf)
        | (refine SAnd.mk (by first | exact rfl | kernel_rfl | omega | decide | exact hs0 | exact hn1 | exact k1 | exact k2 | exact k3 | exact k4) ?_; conv => whnf)
        | fail)
      all_goals first
        | exact ⟨PLe.of_eq (congrArg Bo (yes (by rw [hsr, decide_eq_true (show v1 < 0 by assumption), decide_eq_true (show v2 < 0 by assumption), decide_eq_true (show v3 < 0 by assumption), decide_eq_true (show v4 < 0 by assumption)]; rfl)).symm)⟩
        | skip
      all_goals
        refine ⟨⟨i + 1, hil, nxt (by
          rw [hsr]
          first
            | (rw [decide_eq_false (show ¬ v1 < 0 by assumption)]; rfl)
            | (rw [decide_eq_false (show ¬ v2 < 0 by assumption), Bool.and_false]; rfl)
            | (rw [decide_eq_false (show ¬ v3 < 0 by assumption), Bool.and_false]; rfl)
            | (rw [decide_eq_false (show ¬ v4 < 0 by assumption), Bool.and_false]))⟩, mi, ?_⟩
        skip
        · refine SLe.of [] [] rfl rfl ?_
          conv => whnf
          repeat' (first
          | exact True.intro
          | (refine SAnd.mk (PLe.refl _) ?_; conv => whnf))
    · conv => whnf
      have : i = l.length := by simp at hc1; omega
      subst this
      exact ⟨PLe.of_eq (congrArg Bo (by rw [hI]; rfl))⟩
set_option maxHeartbeats 4000000 in
theorem refMeets_pure {m : Int} (l : List Pt) (b : Bx) (h0 : 0 < l.length) (hl : l.length ≤ 1000) (hf : ∀ q ∈ l, q.Fit) (hb : b.Fit) : APure (C m) 24 [.seq 2 (l.map pc), .agg (bc b)] (Bo (meetsB l b)) := by
  have go := refMeets2 (m := m) l b h0 hl hf hb
  rw [← sep_eq] at go
  have hz := cor_at h0
  have yes : sideR l b → meetsB l b = false := fun h => by unfold meetsB; rw [(side_iff h0 b).2 h]; simp
  have no : ¬ sideR l b → meetsB l b = !sepB l b := fun h => by
    have : sideB l b = false := by
      cases e : sideB l b with
      | false => rfl
      | true => exact absurd ((side_iff h0 b).1 e) h
    unfold meetsB
    rw [this]; simp
  unfold sideR at yes no
  refine APure.of_wp good (fn := Tryz.f24) (by kernel_rfl) (by kernel_rfl) rfl rfl (by kernel_rfl) rfl (by kernel_rfl) ?_
  refine codeN_sound good (mu := []) (n := 5) ?_
  conv => whnf
  repeat' (first
    | (refine SEx.mk _ (by first | exact hz) ?_; conv => whnf)
    | (refine SAnd.mk (by first | exact rfl | kernel_rfl | omega | decide | exact hz) ?_; conv => whnf)
    | fail)
  refine ⟨AWp.loop (ι := { k : Nat // k ≤ l.length }) (fun k => ⟨[(7, .p (I k.1)), (6, .box 1 0), (5, .box 0 0), (3, .p (.ref (bc b))), (0, .p (.seq 2 (l.map pc)))], [(0, (24, [I (lo_ (·.x) l k.1), I (lo_ (·.y) l k.1)])), (1, (24, [I (hi_ (·.x) l k.1), I (hi_ (·.y) l k.1)]))], [], 2, [], [], []⟩) (fun k => l.length - k.1) ⟨0, by simp⟩ ?_ ?_⟩
  · skip
    · refine SLe.of [(0, 6), (1, 7)] [] rfl rfl ?_
      conv => whnf
      repeat' (first
      | exact True.intro
      | (refine SAnd.mk (PLe.refl _) ?_; conv => whnf)
      | (refine SAnd.mk (PLeL.refl _) ?_; conv => whnf))
  · rintro ⟨k, hk⟩
    refine codeK_sound good (mu := []) ?_
    conv => whnf
    refine SBool.mk (fun hcn => ?_) (fun hcn => ?_)
    · have hkl : k < l.length := by simpa using hcn
      have hs0 := cor_at hkl
      have mk : l.length - (k + 1) < l.length - k := by omega
      have e1 := lo_succ (·.x) hkl
      have e2 := lo_succ (·.y) hkl
      have e3 := hi_succ (·.x) hkl
      have e4 := hi_succ (·.y) hkl
      have wk : wrapK IntKind.i64 ((k : Int) + 1) = k + 1 := w64 (by omega)
      conv => whnf
      conv => whnf
      repeat' (first
        | (rw [wk]; conv => whnf)
        | (refine SEx.mk _ (by first | exact hs0) ?_; conv => whnf)
        | (refine SAnd.mk (by first | exact rfl | kernel_rfl | omega | decide | exact hs0) ?_; conv => whnf)
        | fail)
      refine ⟨⟨k + 1, hkl⟩, mk, ?_⟩
      skip
      · refine SLe.of [(0, 0), (1, 1)] [] rfl rfl ?_
        conv => whnf
        repeat' (first
        | exact True.intro
        | (refine SAnd.mk (PLeL.cons (PLe.of_eq (congrArg I e1.symm)) (PLeL.cons (PLe.of_eq (congrArg I e2.symm)) PLeL.nil)) ?_; conv => whnf)
        | (refine SAnd.mk (PLeL.cons (PLe.of_eq (congrArg I e3.symm)) (PLeL.cons (PLe.of_eq (congrArg I e4.symm)) PLeL.nil)) ?_; conv => whnf)
        | (refine SAnd.mk (PLe.refl _) ?_; conv => whnf))
    · have : k = l.length := by simp at hcn; omega
      subst this
      conv => whnf
      repeat' (first
        | (refine SBool.mk (fun h => ?_) (fun h => ?_) <;> conv => whnf)
        | (refine SEx.mk _ (by first | exact refCorners_pure b) ?_; conv => whnf)
        | fail)
      all_goals first
        | exact ⟨PLe.of_eq (congrArg Bo (yes (.inl (.inl (.inl (by assumption))))).symm)⟩
        | exact ⟨PLe.of_eq (congrArg Bo (yes (.inl (.inl (.inr (by assumption))))).symm)⟩
        | exact ⟨PLe.of_eq (congrArg Bo (yes (.inl (.inr (by assumption)))).symm)⟩
        | exact ⟨PLe.of_eq (congrArg Bo (yes (.inr (by assumption))).symm)⟩
        | skip
      rw [no (by rintro (((h | h) | h) | h) <;> exact absurd h (by assumption))]
      refine ⟨AWp.le ?_ go⟩
      skip
      · refine SLe.of [] [] rfl rfl ?_
        conv => whnf
        repeat' (first
        | exact True.intro
        | (refine SAnd.mk (PLe.refl _) ?_; conv => whnf))
end Go.Proofs.Ab.Area
end
section
/- The law of the shapes, given that the program is awake. -/
set_option maxRecDepth 100000
set_option linter.unusedVariables false
set_option linter.unusedSimpArgs false
namespace Go.Proofs.Ab.Area
open Go Go.RowKit Go.Proofs.Ab
theorem lawFirst_pure {m : Int} (xs : List Int) (hl : xs.length ≤ 1000000) : APure (C m) 19 [ints xs] (I (firstOf xs)) := by
  have h1 := refFirst_pure (m := m) xs (by omega)
  refine APure.of_body good [] (fn := Tryz.f19) (by kernel_rfl) (by kernel_rfl) rfl rfl (by kernel_rfl) rfl (by kernel_rfl) ?_
  conv => whnf
  repeat' (first
    | (refine codeK_sound good (mu := []) ?_; conv => whnf)
    | ((first | rw [wl0] | rw [wl1] | rw [wl2] | rw [wl3] | rw [wl4] | rw [wl5]); conv => whnf)
    | (refine SBool.mk (fun _ => ?_) (fun h => absurd (of_decide_eq_true rfl) h); conv => whnf)
    | (refine SBool.mk (fun h => absurd h (of_decide_eq_false rfl)) (fun _ => ?_); conv => whnf)
    | (refine SBool.mk (fun h => ?_) (fun h => ?_) <;> conv => whnf)
    | (refine SEx.mk _ (by first | exact h1) ?_; conv => whnf)
    | (refine SEx.mk _ (by first | exact rfl | exact ⟨of_decide_eq_true rfl, rfl⟩) ?_; conv => whnf)
    | (refine SAll.mk (fun _ => ?_); conv => whnf)
    | (refine SAnd.mk (by first | exact h1) ?_; conv => whnf)
    | (refine SAnd.mk ⟨by intro c hc; simp at hc; first | (subst hc; rfl) | ((repeat' (rcases hc with rfl | hc)) <;> first | rfl | (subst hc; rfl)), by (simp; first | done | omega), by (simp; first | done | omega)⟩ ?_; conv => whnf)
    | (refine SAnd.mk (by first | exact rfl | kernel_rfl | omega | decide | exact h1) ?_; conv => whnf)
    | fail)
  exact ⟨PLe.refl _⟩
theorem eql_bool {m : Int} (a b : Bool) : ∀ w, (binOp .eql 4 (.bool a) (.bool b)).run (C m).P w = .ok (.bool (a == b)) w := fun w => run_eql_bool w 4 a b (by kernel_rfl)
theorem eql_same {m : Int} (a : Bool) : ∀ w, (binOp .eql 4 (.bool a) (.bool a)).run (C m).P w = .ok (.bool true) w := fun w => by rw [eql_bool]; cases a <;> rfl
theorem eql_false {m : Int} {a : Bool} (h : a = false) : ∀ w, (binOp .eql 4 (.bool a) (.bool false)).run (C m).P w = .ok (.bool true) w := fun w => by subst h; exact eql_same _ w
section
attribute [local irreducible] APure
end
end Go.Proofs.Ab.Area
end
section
/- The reference's names and small checks. -/
set_option maxRecDepth 100000
set_option linter.unusedVariables false
set_option linter.unusedSimpArgs false
namespace Go.Proofs.Ab.Area
open Go Go.RowKit Go.Proofs.Ab
theorem byte_at {l : List UInt8} {k : Nat} (h : k < l.length) : byteAt ⟨l.toArray⟩ ((k : Int)).toNat = (l[k].toNat : Int) := by
  show byteAt ⟨l.toArray⟩ k = _
  have hs : k < (⟨l.toArray⟩ : ByteArray).size := by simpa [ByteArray.size] using h
  unfold byteAt
  rw [getElem?_pos (⟨l.toArray⟩ : ByteArray) k hs]
  rfl
theorem name_cases (l : List UInt8) : (l.length = 0 → nameB ⟨l.toArray⟩ = false) ∧ (24 < l.length → nameB ⟨l.toArray⟩ = false) ∧ (¬ l.length = 0 → ¬ 24 < l.length → nameB ⟨l.toArray⟩ = goodN 0 l) := by
  have hn : nameB ⟨l.toArray⟩ = (goodN 0 l && decide (l ≠ []) && decide (l.length ≤ 24)) := by
    have : nameB ⟨l.toArray⟩ = nameL l := by unfold nameB; simp
    rw [this, nameL_eq]
  refine ⟨fun h => ?_, fun h => ?_, fun h1 h2 => ?_⟩
  · have : l = [] := List.eq_nil_of_length_eq_zero h
    subst this
    rw [hn]
    simp
  · rw [hn, decide_eq_false (show ¬ l.length ≤ 24 by omega), Bool.and_false]
  · rw [hn, decide_eq_true (show l ≠ [] from fun e => h1 (by rw [e]; rfl)), decide_eq_true (show l.length ≤ 24 by omega), Bool.and_true, Bool.and_true]
set_option maxHeartbeats 4000000 in
theorem refIsName_pure {m : Int} (s : ByteArray) : APure (C m) 182 [St s] (Bo (nameB s)) := by
  obtain ⟨l, rfl⟩ : ∃ l : List UInt8, s = ⟨l.toArray⟩ := ⟨s.data.toList, by simp⟩
  have hbs : (⟨l.toArray⟩ : ByteArray).size = l.length := by simp [ByteArray.size]
  have hbi : (((⟨l.toArray⟩ : ByteArray).size : Nat) : Int) = (l.length : Int) := by rw [hbs]
  obtain ⟨c0, c1, c2⟩ := name_cases l
  generalize nameB ⟨l.toArray⟩ = V at *
  refine APure.of_body good [] (fn := Tryz.f182) (by kernel_rfl) (by kernel_rfl) rfl rfl (by kernel_rfl) rfl (by kernel_rfl) ?_
  conv => whnf
  repeat' (first
    | (rw [hbi]; conv => whnf)
    | (refine SBool.mk (fun h => ?_) (fun h => ?_) <;> conv => whnf)
    | fail)
  · exact ⟨PLe.of_eq (congrArg Bo (c0 (by have h : (l.length : Int) = 0 := h; omega)).symm)⟩
  · exact ⟨PLe.of_eq (congrArg Bo (c1 (by have h : 24 < (l.length : Int) := h; omega)).symm)⟩
  · rename_i h1
    have h24 : ¬ 24 < l.length := by have h : ¬ 24 < (l.length : Int) := h; omega
    have h0 : ¬ l.length = 0 := by have h : ¬ (l.length : Int) = 0 := h1; omega
    have hV := c2 h0 h24
    clear c0 c1 c2 h h1
    refine ⟨AWp.loop (ι := { k : Nat // k ≤ l.length ∧ V = goodN k (l.drop k) }) (fun k => ⟨[(3, .p (I k.1)), (0, .p (St ⟨l.toArray⟩))], [], [], 0, [], [], []⟩) (fun k => l.length - k.1) ⟨0, by simp, by simpa using hV⟩ ?_ ?_⟩
    · skip
      · refine SLe.of [] [] rfl rfl ?_
        conv => whnf
        repeat' (first
        | exact True.intro
        | (refine SAnd.mk (PLe.refl _) ?_; conv => whnf))
    · rintro ⟨k, hk, hg⟩
      refine codeK_sound good (mu := []) ?_
      conv => whnf
      refine SBool.mk (fun hc => ?_) (fun hc => ?_)
      · have hc' : (k : Int) < (((⟨l.toArray⟩ : ByteArray).size : Nat) : Int) := hc
        rw [hbs] at hc'
        have hkl : k < l.length := by omega
        have hs0 : (0 : Int) ≤ (k : Int) ∧ (k : Int) < ((⟨l.toArray⟩ : ByteArray).size : Int) := ⟨by omega, by rw [hbs]; omega⟩
        have hby := byte_at hkl
        have mk := sub_lt hkl
        have wk := wsucc (k := k) (by omega)
        have bad : ¬ letterP l[k].toNat → (k = 0 ∨ ¬ otherP l[k].toNat) → V = false := fun h1 h2 => by rw [hg]; exact goodN_bad hkl h1 h2
        have ok : (letterP l[k].toNat ∨ (k ≠ 0 ∧ otherP l[k].toNat)) → V = goodN (k + 1) (l.drop (k + 1)) := fun h => by rw [hg]; exact goodN_ok hkl h
        unfold letterP otherP at bad ok
        clear hc hc' hV hbs hbi
        generalize l[k].toNat = c at *
        conv => whnf
        conv => whnf
        repeat' (first
          | (rw [wk]; conv => whnf)
          | (rw [hby]; conv => whnf)
          | (refine SBool.mk (fun h => ?_) (fun h => ?_) <;> conv => whnf)
          | (refine SAnd.mk (by first | exact hs0) ?_; conv => whnf)
          | fail)
        all_goals
          dsimp only at *
          first
            | exact ⟨PLe.of_eq (congrArg Bo (bad (by omega) (by omega)).symm)⟩
            | skip
        all_goals
          refine ⟨⟨k + 1, hkl, ok (by omega)⟩, mk, ?_⟩
          skip
          · refine SLe.of [] [] rfl rfl ?_
            conv => whnf
            repeat' (first
            | exact True.intro
            | (refine SAnd.mk (PLe.refl _) ?_; conv => whnf))
      · have hc' : ¬ (k : Int) < (((⟨l.toArray⟩ : ByteArray).size : Nat) : Int) := hc
        rw [hbs] at hc'
        have hkl : k = l.length := by omega
        subst hkl
        have hg' : V = true := by rw [hg, List.drop_length]; rfl
        skip
        conv => whnf
        repeat' (first
          | fail)
        exact ⟨PLe.of_eq (congrArg Bo hg'.symm)⟩
theorem refName_pure {m : Int} (s : ByteArray) : APure (C m) 119 [St s] (I (if nameB s then 0 else 8)) := by
  have h := refIsName_pure (m := m) s
  generalize nameB s = b at h ⊢
  cases b
  · refine APure.of_body good [] (fn := Tryz.f119) (by kernel_rfl) (by kernel_rfl) rfl rfl (by kernel_rfl) rfl (by kernel_rfl) ?_
    conv => whnf
    repeat' (first
      | (refine SEx.mk _ (by first | exact h | exact refWhen_pure _ _) ?_; conv => whnf)
      | fail)
    exact ⟨PLe.refl _⟩
  · refine APure.of_body good [] (fn := Tryz.f119) (by kernel_rfl) (by kernel_rfl) rfl rfl (by kernel_rfl) rfl (by kernel_rfl) ?_
    conv => whnf
    repeat' (first
      | (refine SEx.mk _ (by first | exact h | exact refWhen_pure _ _) ?_; conv => whnf)
      | fail)
    exact ⟨PLe.refl _⟩
theorem refSz_pure {m : Int} (n : Int) : APure (C m) 33 [I n] (I (sizeE n)) := by
  refine APure.of_body good [] (fn := Tryz.f33) (by kernel_rfl) (by kernel_rfl) rfl rfl (by kernel_rfl) rfl (by kernel_rfl) ?_
  conv => whnf
  repeat' (first
    | (refine SEx.mk _ (by first | exact refRange_pure _ _ _) ?_; conv => whnf)
    | fail)
  exact ⟨PLe.refl _⟩
theorem refCat_pure {m : Int} (n : Int) : APure (C m) 34 [I n] (I (catE n)) := by
  refine APure.of_body good [] (fn := Tryz.f34) (by kernel_rfl) (by kernel_rfl) rfl rfl (by kernel_rfl) rfl (by kernel_rfl) ?_
  conv => whnf
  repeat' (first
    | (refine SEx.mk _ (by first | exact refRange_pure _ _ _) ?_; conv => whnf)
    | fail)
  exact ⟨PLe.refl _⟩
theorem refTicks_pure {m : Int} (x y : Int) : APure (C m) 130 [.agg [I x, I y]] (I (ticksE x y)) := by
  refine APure.of_body good [] (fn := Tryz.f130) (by kernel_rfl) (by kernel_rfl) rfl rfl (by kernel_rfl) rfl (by kernel_rfl) ?_
  conv => whnf
  repeat' (first
    | (refine SBool.mk (fun h => ?_) (fun h => ?_) <;> conv => whnf)
    | (refine SEx.mk _ (by first | exact refWhen_pure _ _) ?_; conv => whnf)
    | fail)
  all_goals exact ⟨PLe.of_eq (congrArg I (by unfold ticksE; first | exact (if_pos (by omega)).symm | exact (if_neg (by omega)).symm))⟩
end Go.Proofs.Ab.Area
end
section
/- The reference's checks of lists of things with names. -/
set_option maxRecDepth 100000
set_option linter.unusedVariables false
set_option linter.unusedSimpArgs false
namespace Go.Proofs.Ab.Area
open Go Go.RowKit Go.Proofs.Ab
theorem firstOf_cat : ∀ (xs ys : List Int), firstOf (xs ++ [firstOf ys]) = firstOf (xs ++ ys)
  | [], ys => by
    show (if firstOf ys = 0 then 0 else firstOf ys) = firstOf ys
    split
    · rename_i h; exact h.symm
    · rfl
  | x :: xs, ys => by
    show (if x = 0 then firstOf (xs ++ [firstOf ys]) else x) = (if x = 0 then firstOf (xs ++ ys) else x)
    rw [firstOf_cat xs ys]
theorem refFirst5_pure {m : Int} (a b c d e : Int) : APure (C m) 98 [.seq 1 [[I a], [I b], [I c], [I d], [I e]]] (I (firstOf [a, b, c, d, e])) := refFirst_pure [a, b, c, d, e] (by simp)
theorem namedF_step {α : Type} (nm : α → ByteArray) (er : α → Int) {xs : List α} {k : Nat} (hkl : k < xs.length) {a b z : Int} (ha : a = if nameB (nm xs[k]) then 0 else 8) (hb : b = if knownB ((xs.take k).map nm) (nm xs[k]) then 9 else 0) (hz : z = firstOf [a, b, er xs[k]]) :
    namedF ((xs.take k).map nm) ((xs.drop k).map fun x => (nm x, er x)) = if z = 0 then namedF ((xs.take (k + 1)).map nm) ((xs.drop (k + 1)).map fun x => (nm x, er x)) else z := by
  rw [List.drop_eq_getElem_cons hkl, take_map_succ hkl, hz, ha, hb]
  rfl
theorem app_name (l : List ByteArray) (s : ByteArray) (h : l.length ≤ 1000000) : (∀ c ∈ ([[St s]] : List (List PV)).flatten, c.one = true) ∧ ((l.map cS).length + 1) * 16 ≤ 140737488355328 ∧ (l.map cS).length + 1 ≤ 9223372036854775807 := by
  refine ⟨fun c hc => ?_, by simp only [List.length_map]; omega, by simp only [List.length_map]; omega⟩
  simp at hc
  rw [hc]
  rfl
theorem refMove_pure {m : Int} (x : Mv) : APure (C m) 58 [.agg (mc x)] (I (firstOf [if nameB x.name then 0 else 8, moveE x])) := by
  have e : firstOf [if nameB x.name then 0 else 8, sizeE x.size, boxE x.box, ticksE x.lo x.hi] = firstOf [if nameB x.name then 0 else 8, moveE x] := (firstOf_cat [if nameB x.name then 0 else 8] [sizeE x.size, boxE x.box, ticksE x.lo x.hi]).symm
  have hn := refName_pure (m := m) x.name
  refine APure.of_body good [] (fn := Tryz.f58) (by kernel_rfl) (by kernel_rfl) rfl rfl (by kernel_rfl) rfl (by kernel_rfl) ?_
  conv => whnf
  repeat' (first
    | (refine SEx.mk _ (by first | exact hn | exact refSz_pure _ | exact refBox_pure x.box | exact refTicks_pure _ _ | exact refFirst4_pure _ _ _ _) ?_; conv => whnf)
    | (refine SAnd.mk (by first | exact rfl | kernel_rfl | omega | decide | exact hn | exact refSz_pure _ | exact refBox_pure x.box | exact refTicks_pure _ _ | exact refFirst4_pure _ _ _ _) ?_; conv => whnf)
    | fail)
  exact ⟨PLe.of_eq (congrArg I e)⟩
noncomputable def c32 : Code := Tryz.f32.body.getD .skip
set_option maxHeartbeats 4000000 in
theorem refAreas_loop {m : Int} (xs : List Ar) (hl : xs.length ≤ 1000000) (hp : ∀ a ∈ xs, a.poly.length ≤ 1000) :
    AWp (C m) Tryz.f32.ntmps (pieceAt [1, 1, 1] c32) (endV m [ResultVar.tmp 2] (I (namedF [] (xs.map fun x => (x.name, areaE x))))) ⟨[(3, .p nilS), (0, .p (.seq 4 (xs.map ac)))], [], [], 0, [], [], []⟩ := by
  have hlen : (((xs.map ac).length : Nat) : Int) = xs.length := by simp
  obtain ⟨V, hV⟩ : ∃ V, V = namedF [] (xs.map fun x => (x.name, areaE x)) := ⟨_, rfl⟩
  rw [← hV]
  refine codeK_sound good (mu := []) ?_
  conv => whnf
  repeat' (first
    | fail)
  refine ⟨AWp.loop (ι := { k : Nat // k ≤ xs.length ∧ V = namedF ((xs.take k).map (·.name)) ((xs.drop k).map fun x => (x.name, areaE x)) }) (fun k => ⟨[(4, .p (I k.1)), (0, .p (.seq 4 (xs.map ac))), (3, .own 0)], [], [(0, (9, 1, ((xs.take k.1).map (·.name)).map cS))], 1, [], [], []⟩) (fun k => xs.length - k.1) ⟨0, by simp, by simpa using hV⟩ ?_ ?_⟩
  · refine SLe.row 3 9 1 ?_
    conv => whnf
    skip
    · refine SLe.of [] [(0, 0)] rfl rfl ?_
      conv => whnf
      repeat' (first
      | exact True.intro
      | (refine SAnd.mk (PLe.refl _) ?_; conv => whnf)
      | (refine SAnd.mk rfl ?_; conv => whnf))
  · rintro ⟨k, hk, he⟩
    refine codeK_sound good (mu := []) ?_
    conv => whnf
    refine SBool.mk (fun hcn => ?_) (fun hcn => ?_)
    · have hcn' : (k : Int) < (((xs.map ac).length : Nat) : Int) := hcn
      rw [hlen] at hcn'
      have hkl : k < xs.length := by omega
      have hs := some_at hkl ac
      have mk := sub_lt hkl
      have wk := wsucc (k := k) (by omega)
      have hnm := refName_pure (m := m) xs[k].name
      have hkn := hasWord_pure (m := m) ((xs.take k).map (·.name)) xs[k].name (by rw [List.length_map, List.length_take]; omega)
      have hap := app_name ((xs.take k).map (·.name)) xs[k].name (by rw [List.length_map, List.length_take]; omega)
      have hts : ((xs.take k).map (·.name)).map cS ++ [[St xs[k].name]] = ((xs.take (k + 1)).map (·.name)).map cS := by rw [take_map_succ hkl (fun x : Ar => x.name), List.map_append]; rfl
      have hst := fun a b z ha hb hz => namedF_step (fun x : Ar => x.name) (fun x => areaE x) hkl (a := a) (b := b) (z := z) ha hb hz
      have hsz := refSz_pure (m := m) xs[k].size
      have hct := refCat_pure (m := m) xs[k].cat
      have hpl := refPolygon_pure (m := m) xs[k].poly (hp _ (List.getElem_mem hkl))
      have ecat : ∀ a b, firstOf [a, b, sizeE xs[k].size, catE xs[k].cat, polyE xs[k].poly] = firstOf [a, b, areaE xs[k]] := fun a b => (firstOf_cat [a, b] [sizeE xs[k].size, catE xs[k].cat, polyE xs[k].poly]).symm
      clear hcn hcn'
      generalize hnb : nameB xs[k].name = b1 at *
      generalize hkb : knownB ((xs.take k).map (·.name)) xs[k].name = b2 at *
      cases b1 <;> cases b2
      all_goals
        conv => whnf
        repeat' (first
          | (rw [wk]; conv => whnf)
          | (refine SBool.mk (fun h => absurd h (of_decide_eq_false rfl)) (fun _ => ?_); conv => whnf)
          | (refine SBool.mk (fun h => ?_) (fun h => ?_) <;> conv => whnf)
          | (refine SEx.mk _ (by first | exact hs | exact hnm | exact hkn | exact hap | exact refWhen_pure _ _ | exact hsz | exact hct | exact hpl | exact refFirst5_pure _ _ _ _ _) ?_; conv => whnf)
          | (refine SAnd.mk (by first | exact hs | exact hnm | exact hkn | exact hap | exact hsz | exact hct | exact hpl) ?_; conv => whnf)
          | (refine SAnd.mk (by first | exact rfl | kernel_rfl | omega | decide | exact hs | exact hnm | exact hkn | exact hap | exact refWhen_pure _ _ | exact hsz | exact hct | exact hpl | exact refFirst5_pure _ _ _ _ _) ?_; conv => whnf)
          | fail)
        all_goals first
          | exact ⟨PLe.of_eq (congrArg I (by rw [he, hst _ _ _ rfl rfl (ecat _ _)]; exact (if_neg (by assumption)).symm))⟩
          | skip
      all_goals
        refine ⟨⟨k + 1, hkl, by rw [he, hst _ _ _ rfl rfl (ecat _ _), if_pos (by assumption)]⟩, mk, ?_⟩
        skip
        · refine SLe.of [] [(0, 32)] rfl rfl ?_
          conv => whnf
          repeat' (first
          | exact True.intro
          | (refine SAnd.mk (hts) ?_; conv => whnf)
          | (refine SAnd.mk (PLe.refl _) ?_; conv => whnf))
    · have hcn' : ¬ (k : Int) < (((xs.map ac).length : Nat) : Int) := hcn
      rw [hlen] at hcn'
      have hkl : k = xs.length := by omega
      subst hkl
      skip
      conv => whnf
      repeat' (first
        | fail)
      exact ⟨PLe.of_eq (congrArg I (by rw [he]; simp [namedF]))⟩
theorem refAreas_pure {m : Int} (xs : List Ar) (hl : xs.length ≤ 1000000) (hp : xs.length ≤ 16 → ∀ a ∈ xs, a.poly.length ≤ 1000) : APure (C m) 32 [.seq 4 (xs.map ac)] (I (areasE xs)) := by
  have hlen : (((xs.map ac).length : Nat) : Int) = xs.length := by simp
  by_cases hb : 16 < (xs.length : Int)
  · have e : areasE xs = 5 := by
      unfold areasE namedE
      rw [List.length_map, if_pos hb]
    rw [e]
    refine APure.of_body good [] (fn := Tryz.f32) (by kernel_rfl) (by kernel_rfl) rfl rfl (by kernel_rfl) rfl (by kernel_rfl) ?_
    conv => whnf
    repeat' (first
      | (rw [hlen]; conv => whnf)
      | (refine SBool.mk (fun h => ?_) (fun h => ?_) <;> conv => whnf)
      | fail)
    · exact ⟨PLe.refl _⟩
    all_goals exact absurd hb (by assumption)
  · have e : areasE xs = namedF [] (xs.map fun x => (x.name, areaE x)) := by
      unfold areasE namedE
      rw [List.length_map, if_neg hb]
    rw [e]
    have go := refAreas_loop (m := m) xs hl (hp (by omega))
    refine APure.of_wp good (fn := Tryz.f32) (by kernel_rfl) (by kernel_rfl) rfl rfl (by kernel_rfl) rfl (by kernel_rfl) ?_
    refine codeN_sound good (mu := []) (n := 3) ?_
    conv => whnf
    repeat' (first
      | (rw [hlen]; conv => whnf)
      | (refine SBool.mk (fun h => ?_) (fun h => ?_) <;> conv => whnf)
      | fail)
    · exact absurd (by assumption) hb
    · refine ⟨AWp.le ?_ go⟩
      skip
      · refine SLe.of [] [] rfl rfl ?_
        conv => whnf
        repeat' (first
        | exact True.intro
        | (refine SAnd.mk (PLe.refl _) ?_; conv => whnf))
noncomputable def c45 : Code := Tryz.f45.body.getD .skip
set_option maxHeartbeats 4000000 in
theorem refLands_loop {m : Int} (xs : List Ld) (hl : xs.length ≤ 1000000) :
    AWp (C m) Tryz.f45.ntmps (pieceAt [1, 1, 1] c45) (endV m [ResultVar.tmp 2] (I (namedF [] (xs.map fun x => (x.name, landE x))))) ⟨[(3, .p nilS), (0, .p (.seq 4 (xs.map lc)))], [], [], 0, [], [], []⟩ := by
  have hlen : (((xs.map lc).length : Nat) : Int) = xs.length := by simp
  obtain ⟨V, hV⟩ : ∃ V, V = namedF [] (xs.map fun x => (x.name, landE x)) := ⟨_, rfl⟩
  rw [← hV]
  refine codeK_sound good (mu := []) ?_
  conv => whnf
  repeat' (first
    | fail)
  refine ⟨AWp.loop (ι := { k : Nat // k ≤ xs.length ∧ V = namedF ((xs.take k).map (·.name)) ((xs.drop k).map fun x => (x.name, landE x)) }) (fun k => ⟨[(4, .p (I k.1)), (0, .p (.seq 4 (xs.map lc))), (3, .own 0)], [], [(0, (9, 1, ((xs.take k.1).map (·.name)).map cS))], 1, [], [], []⟩) (fun k => xs.length - k.1) ⟨0, by simp, by simpa using hV⟩ ?_ ?_⟩
  · refine SLe.row 3 9 1 ?_
    conv => whnf
    skip
    · refine SLe.of [] [(0, 0)] rfl rfl ?_
      conv => whnf
      repeat' (first
      | exact True.intro
      | (refine SAnd.mk (PLe.refl _) ?_; conv => whnf)
      | (refine SAnd.mk rfl ?_; conv => whnf))
  · rintro ⟨k, hk, he⟩
    refine codeK_sound good (mu := []) ?_
    conv => whnf
    refine SBool.mk (fun hcn => ?_) (fun hcn => ?_)
    · have hcn' : (k : Int) < (((xs.map lc).length : Nat) : Int) := hcn
      rw [hlen] at hcn'
      have hkl : k < xs.length := by omega
      have hs := some_at hkl lc
      have mk := sub_lt hkl
      have wk := wsucc (k := k) (by omega)
      have hnm := refName_pure (m := m) xs[k].name
      have hkn := hasWord_pure (m := m) ((xs.take k).map (·.name)) xs[k].name (by rw [List.length_map, List.length_take]; omega)
      have hap := app_name ((xs.take k).map (·.name)) xs[k].name (by rw [List.length_map, List.length_take]; omega)
      have hts : ((xs.take k).map (·.name)).map cS ++ [[St xs[k].name]] = ((xs.take (k + 1)).map (·.name)).map cS := by rw [take_map_succ hkl (fun x : Ld => x.name), List.map_append]; rfl
      have hst := fun a b z ha hb hz => namedF_step (fun x : Ld => x.name) (fun x => landE x) hkl (a := a) (b := b) (z := z) ha hb hz
      have hct := refCat_pure (m := m) xs[k].cat
      have htk := refTicks_pure (m := m) xs[k].lo xs[k].hi
      have ecat : ∀ a b, firstOf [a, b, catE xs[k].cat, ticksE xs[k].lo xs[k].hi] = firstOf [a, b, landE xs[k]] := fun a b => (firstOf_cat [a, b] [catE xs[k].cat, ticksE xs[k].lo xs[k].hi]).symm
      clear hcn hcn'
      generalize hnb : nameB xs[k].name = b1 at *
      generalize hkb : knownB ((xs.take k).map (·.name)) xs[k].name = b2 at *
      cases b1 <;> cases b2
      all_goals
        conv => whnf
        repeat' (first
          | (rw [wk]; conv => whnf)
          | (refine SBool.mk (fun h => absurd h (of_decide_eq_false rfl)) (fun _ => ?_); conv => whnf)
          | (refine SBool.mk (fun h => ?_) (fun h => ?_) <;> conv => whnf)
          | (refine SEx.mk _ (by first | exact hs | exact hnm | exact hkn | exact hap | exact refWhen_pure _ _ | exact hct | exact htk | exact refFirst4_pure _ _ _ _) ?_; conv => whnf)
          | (refine SAnd.mk (by first | exact hs | exact hnm | exact hkn | exact hap | exact hct | exact htk) ?_; conv => whnf)
          | (refine SAnd.mk (by first | exact rfl | kernel_rfl | omega | decide | exact hs | exact hnm | exact hkn | exact hap | exact refWhen_pure _ _ | exact hct | exact htk | exact refFirst4_pure _ _ _ _) ?_; conv => whnf)
          | fail)
        all_goals first
          | exact ⟨PLe.of_eq (congrArg I (by rw [he, hst _ _ _ rfl rfl (ecat _ _)]; exact (if_neg (by assumption)).symm))⟩
          | skip
      all_goals
        refine ⟨⟨k + 1, hkl, by rw [he, hst _ _ _ rfl rfl (ecat _ _), if_pos (by assumption)]⟩, mk, ?_⟩
        skip
        · refine SLe.of [] [(0, 26)] rfl rfl ?_
          conv => whnf
          repeat' (first
          | exact True.intro
          | (refine SAnd.mk (hts) ?_; conv => whnf)
          | (refine SAnd.mk (PLe.refl _) ?_; conv => whnf))
    · have hcn' : ¬ (k : Int) < (((xs.map lc).length : Nat) : Int) := hcn
      rw [hlen] at hcn'
      have hkl : k = xs.length := by omega
      subst hkl
      skip
      conv => whnf
      repeat' (first
        | fail)
      exact ⟨PLe.of_eq (congrArg I (by rw [he]; simp [namedF]))⟩
theorem refLands_pure {m : Int} (xs : List Ld) (hl : xs.length ≤ 1000000) : APure (C m) 45 [.seq 4 (xs.map lc)] (I (landsE xs)) := by
  have hlen : (((xs.map lc).length : Nat) : Int) = xs.length := by simp
  by_cases hb : 32 < (xs.length : Int)
  · have e : landsE xs = 5 := by
      unfold landsE namedE
      rw [List.length_map, if_pos hb]
    rw [e]
    refine APure.of_body good [] (fn := Tryz.f45) (by kernel_rfl) (by kernel_rfl) rfl rfl (by kernel_rfl) rfl (by kernel_rfl) ?_
    conv => whnf
    repeat' (first
      | (rw [hlen]; conv => whnf)
      | (refine SBool.mk (fun h => ?_) (fun h => ?_) <;> conv => whnf)
      | fail)
    · exact ⟨PLe.refl _⟩
    all_goals exact absurd hb (by assumption)
  · have e : landsE xs = namedF [] (xs.map fun x => (x.name, landE x)) := by
      unfold landsE namedE
      rw [List.length_map, if_neg hb]
    rw [e]
    have go := refLands_loop (m := m) xs hl
    refine APure.of_wp good (fn := Tryz.f45) (by kernel_rfl) (by kernel_rfl) rfl rfl (by kernel_rfl) rfl (by kernel_rfl) ?_
    refine codeN_sound good (mu := []) (n := 3) ?_
    conv => whnf
    repeat' (first
      | (rw [hlen]; conv => whnf)
      | (refine SBool.mk (fun h => ?_) (fun h => ?_) <;> conv => whnf)
      | fail)
    · exact absurd (by assumption) hb
    · refine ⟨AWp.le ?_ go⟩
      skip
      · refine SLe.of [] [] rfl rfl ?_
        conv => whnf
        repeat' (first
        | exact True.intro
        | (refine SAnd.mk (PLe.refl _) ?_; conv => whnf))
end Go.Proofs.Ab.Area
end
section
/- Lists handed over to the program; short lists. -/
set_option maxRecDepth 100000
set_option linter.unusedVariables false
set_option linter.unusedSimpArgs false
namespace Go.Proofs.Ab.Area
open Go Go.RowKit Go.Proofs.Ab
theorem one_ac (a : Ar) : ∀ c ∈ [ac a].flatten, c.one = true := by
  intro c hc
  simp only [List.flatten_cons, List.flatten_nil, List.append_nil, List.mem_cons, List.not_mem_nil, or_false] at hc
  rcases hc with rfl | rfl | rfl | rfl <;> rfl
theorem one_lc (a : Ld) : ∀ c ∈ [lc a].flatten, c.one = true := by
  intro c hc
  simp only [List.flatten_cons, List.flatten_nil, List.append_nil, List.mem_cons, List.not_mem_nil, or_false] at hc
  rcases hc with rfl | rfl | rfl | rfl <;> rfl
theorem single_pure {m : Int} (x : Mv) : APure (C m) 56 [.agg (mc x)] (.agg (mc x)) := by
  refine APure.of_body good [] (fn := Tryz.f56) (by kernel_rfl) (by kernel_rfl) rfl rfl (by kernel_rfl) rfl (by kernel_rfl) ?_
  conv => whnf
  repeat' (first
    | fail)
  exact ⟨PLe.refl _⟩
theorem landed_pure {m : Int} (l : List Ld) (hl : l.length ≤ 1000000) : APure (C m) 42 [.seq 4 (l.map lc)] (.seq 4 (l.map lc)) := by
  have hlen : (((l.map lc).length : Nat) : Int) = l.length := by simp
  refine APure.of_body good [] (fn := Tryz.f42) (by kernel_rfl) (by kernel_rfl) rfl rfl (by kernel_rfl) rfl (by kernel_rfl) ?_
  conv => whnf
  repeat' (first
    | (rw [hlen]; conv => whnf)
    | fail)
  refine ⟨AWp.loop (ι := { k : Nat // k ≤ l.length }) (fun k => ⟨[(8, .p (I k.1)), (7, .p (I l.length)), (6, .p (.seq 4 (l.map lc))), (3, .own 0)], [], [(0, (202, 4, (l.take k.1).map lc))], 1, [], [], []⟩) (fun k => l.length - k.1) ⟨0, by simp⟩ ?_ ?_⟩
  · refine SLe.row 3 202 4 ?_
    conv => whnf
    skip
    · refine SLe.of [] [(0, 0)] rfl rfl ?_
      conv => whnf
      repeat' (first
      | exact True.intro
      | (refine SAnd.mk (PLe.refl _) ?_; conv => whnf)
      | (refine SAnd.mk rfl ?_; conv => whnf))
  · rintro ⟨k, hk⟩
    refine codeK_sound good (mu := []) ?_
    conv => whnf
    refine SBool.mk (fun hcn => ?_) (fun hcn => ?_)
    · have hkl : k < l.length := by simpa using hcn
      have hs := some_at hkl lc
      have mk := sub_lt hkl
      have hts := take_map_succ hkl lc
      have hap : (∀ c ∈ [lc l[k]].flatten, c.one = true) ∧ (((l.take k).map lc).length + 1) * 40 ≤ 140737488355328 ∧ ((l.take k).map lc).length + 1 ≤ 9223372036854775807 := ⟨one_lc _, by rw [List.length_map, List.length_take]; omega, by rw [List.length_map, List.length_take]; omega⟩
      have wk := wsucc (k := k) (by omega)
      clear hcn
      conv => whnf
      skip
      conv => whnf
      repeat' (first
        | (rw [wk]; conv => whnf)
        | (refine SEx.mk _ (by first | exact hs | exact hap) ?_; conv => whnf)
        | (refine SAnd.mk (by first | exact hs | exact hap) ?_; conv => whnf)
        | fail)
      refine ⟨⟨k + 1, hkl⟩, mk, ?_⟩
      skip
      · refine SLe.of [] [(0, 2)] rfl rfl ?_
        conv => whnf
        repeat' (first
        | exact True.intro
        | (refine SAnd.mk (hts.symm) ?_; conv => whnf)
        | (refine SAnd.mk (PLe.refl _) ?_; conv => whnf))
    · have : k = l.length := by simp at hcn; omega
      subst this
      skip
      conv => whnf
      repeat' (first
        | fail)
      exact ⟨PLe.of_eq (by rw [List.take_length])⟩
def shortLandsB (l : List Ld) : Prop := (∀ a ∈ l, a.name.size ≤ 40) ∧ (l.length ≤ 6 ∨ l.length = 33)
theorem shortLands_pure {m : Int} (l : List Ld) (hl : l.length ≤ 9223372036854775807) : ∃ b : Bool, (b = true → shortLandsB l) ∧ APure (C m) 54 [.seq 4 (l.map lc)] (Bo b) := by
  have hlen : (((l.map lc).length : Nat) : Int) = l.length := by simp
  refine ⟨l.all (fun a => decide (a.name.size ≤ 40)) && decide (l.length ≤ 6 ∨ l.length = 33), fun h => ?_, ?_⟩
  · rw [Bool.and_eq_true, List.all_eq_true, decide_eq_true_eq] at h
    exact ⟨fun a ha => by simpa using h.1 a ha, h.2⟩
  · obtain ⟨V, hV⟩ : ∃ V, V = l.all (fun a => decide (a.name.size ≤ 40)) := ⟨_, rfl⟩
    rw [← hV]
    refine APure.of_body good [] (fn := Tryz.f54) (by kernel_rfl) (by kernel_rfl) rfl rfl (by kernel_rfl) rfl (by kernel_rfl) ?_
    conv => whnf
    repeat' (first
      | fail)
    refine ⟨AWp.loop (ι := { k : Nat // k ≤ l.length ∧ V = (l.drop k).all (fun a => decide (a.name.size ≤ 40)) }) (fun k => ⟨[(3, .p (I k.1)), (0, .p (.seq 4 (l.map lc)))], [], [], 0, [], [], []⟩) (fun k => l.length - k.1) ⟨0, by simp, by simpa using hV⟩ ?_ ?_⟩
    · skip
      · refine SLe.of [] [] rfl rfl ?_
        conv => whnf
        repeat' (first
        | exact True.intro
        | (refine SAnd.mk (PLe.refl _) ?_; conv => whnf))
    · rintro ⟨k, hk, he⟩
      clear hV
      refine codeK_sound good (mu := []) ?_
      conv => whnf
      refine SBool.mk (fun hcn => ?_) (fun hcn => ?_)
      · have hcn' : (k : Int) < (((l.map lc).length : Nat) : Int) := hcn
        rw [hlen] at hcn'
        have hkl : k < l.length := by omega
        have hs := some_at hkl lc
        have mk := sub_lt hkl
        have wk : wrapK IntKind.i64 ((k : Int) + 1) = k + 1 := wrap_id (by omega) (by omega)
        have hst : (l.drop k).all (fun a => decide (a.name.size ≤ 40)) = (decide (l[k].name.size ≤ 40) && (l.drop (k + 1)).all (fun a => decide (a.name.size ≤ 40))) := by rw [List.drop_eq_getElem_cons hkl, List.all_cons]
        rw [hst] at he
        clear hcn hcn' hst
        generalize l[k] = x at *
        by_cases hbig : x.name.size ≤ 40
        · rw [decide_eq_true hbig, Bool.true_and] at he
          have hbi : ¬ 40 < ((x.name.size : Nat) : Int) := by omega
          skip
          conv => whnf
          repeat' (first
            | (rw [wk]; conv => whnf)
            | (refine SBool.mk (fun h => ?_) (fun h => ?_) <;> conv => whnf)
            | (refine SEx.mk _ (by first | exact hs) ?_; conv => whnf)
            | fail)
          · exact absurd (by assumption) hbi
          · refine ⟨⟨k + 1, hkl, he⟩, mk, ?_⟩
            skip
            · refine SLe.of [] [] rfl rfl ?_
              conv => whnf
              repeat' (first
              | exact True.intro
              | (refine SAnd.mk (PLe.refl _) ?_; conv => whnf))
        · rw [decide_eq_false hbig, Bool.false_and] at he
          have hbi : 40 < ((x.name.size : Nat) : Int) := by omega
          subst he
          skip
          conv => whnf
          repeat' (first
            | (rw [wk]; conv => whnf)
            | (refine SBool.mk (fun h => ?_) (fun h => ?_) <;> conv => whnf)
            | (refine SEx.mk _ (by first | exact hs) ?_; conv => whnf)
            | fail)
          · exact ⟨PLe.of_eq (by rw [Bool.false_and])⟩
          · exact absurd hbi (by assumption)
      · have hcn' : ¬ (k : Int) < (((l.map lc).length : Nat) : Int) := hcn
        rw [hlen] at hcn'
        have hkl : k = l.length := by omega
        subst hkl
        rw [List.drop_length, List.all_nil] at he
        subst he
        rw [Bool.true_and]
        clear hcn hcn'
        skip
        conv => whnf
        repeat' (first
          | (rw [hlen]; conv => whnf)
          | (refine SBool.mk (fun h => ?_) (fun h => ?_) <;> conv => whnf)
          | fail)
        all_goals first
          | exact ⟨PLe.of_eq (congrArg Bo (decide_eq_true (by omega)).symm)⟩
          | exact ⟨PLe.of_eq (congrArg Bo (decide_eq_false (by omega)).symm)⟩
end Go.Proofs.Ab.Area
end
section
/- Areas handed over: with polygons of their own; short areas; what applies; conflicts compared. -/
set_option maxRecDepth 100000
set_option linter.unusedVariables false
set_option linter.unusedSimpArgs false
namespace Go.Proofs.Ab.Area
open Go Go.RowKit Go.Proofs.Ab
theorem owned_pure {m : Int} (l : List Ar) (hl : l.length ≤ 1000000) (hp : ∀ a ∈ l, a.poly.length ≤ 1000000) : APure (C m) 113 [.seq 4 (l.map ac)] (.seq 4 (l.map ac)) := by
  have hlen : (((l.map ac).length : Nat) : Int) = l.length := by simp
  refine APure.of_body good [] (fn := Tryz.f113) (by kernel_rfl) (by kernel_rfl) rfl rfl (by kernel_rfl) rfl (by kernel_rfl) ?_
  conv => whnf
  repeat' (first
    | fail)
  refine ⟨AWp.loop (ι := { k : Nat // k ≤ l.length }) (fun k => ⟨[(4, .p (I k.1)), (0, .p (.seq 4 (l.map ac))), (3, .own 0)], [], [(0, (178, 4, (l.take k.1).map ac))], 1, [], [], []⟩) (fun k => l.length - k.1) ⟨0, by simp⟩ ?_ ?_⟩
  · refine SLe.row 3 178 4 ?_
    conv => whnf
    skip
    · refine SLe.of [] [(0, 0)] rfl rfl ?_
      conv => whnf
      repeat' (first
      | exact True.intro
      | (refine SAnd.mk (PLe.refl _) ?_; conv => whnf)
      | (refine SAnd.mk rfl ?_; conv => whnf))
  · rintro ⟨k, hk⟩
    refine codeK_sound good (mu := [5, 1016]) ?_
    conv => whnf
    refine SBool.mk (fun hcn => ?_) (fun hcn => ?_)
    · have hcn' : (k : Int) < (((l.map ac).length : Nat) : Int) := hcn
      rw [hlen] at hcn'
      have hkl : k < l.length := by omega
      have hs := some_at hkl ac
      have mk := sub_lt hkl
      have hts := take_map_succ hkl ac
      have hpk := hp _ (List.getElem_mem hkl)
      have hone : ∀ c ∈ (l[k].poly.map pc).flatten, c.one = true := fun c hc => by
        simp only [List.mem_flatten, List.mem_map] at hc
        obtain ⟨x, ⟨p, _, rfl⟩, hx⟩ := hc
        simp at hx
        rcases hx with rfl | rfl <;> rfl
      have hbds : (∀ c ∈ (l[k].poly.map pc).flatten, c.one = true) ∧ (([] : List (List PV)).length + (l[k].poly.map pc).length) * 16 ≤ 140737488355328 ∧ ([] : List (List PV)).length + (l[k].poly.map pc).length ≤ 9223372036854775807 := ⟨hone, by simp only [List.length_nil, List.length_map]; omega, by simp only [List.length_nil, List.length_map]; omega⟩
      have hap : (∀ c ∈ [ac l[k]].flatten, c.one = true) ∧ (((l.take k).map ac).length + 1) * 56 ≤ 140737488355328 ∧ ((l.take k).map ac).length + 1 ≤ 9223372036854775807 := ⟨one_ac _, by rw [List.length_map, List.length_take]; omega, by rw [List.length_map, List.length_take]; omega⟩
      have wk := wsucc (k := k) (by omega)
      clear hcn hcn'
      conv => whnf
      skip
      conv => whnf
      repeat' (first
        | (rw [wk]; conv => whnf)
        | (refine SEx.mk _ (by first | exact hs | exact hbds | exact hap) ?_; conv => whnf)
        | (refine SAnd.mk (by first | exact hs | exact hbds | exact hap) ?_; conv => whnf)
        | fail)
      refine ⟨⟨k + 1, hkl⟩, mk, ?_⟩
      skip
      · refine SLe.of [] [(0, 4)] rfl rfl ?_
        conv => whnf
        repeat' (first
        | exact True.intro
        | (refine SAnd.mk (hts.symm) ?_; conv => whnf)
        | (refine SAnd.mk (PLe.refl _) ?_; conv => whnf))
    · have hcn' : ¬ (k : Int) < (((l.map ac).length : Nat) : Int) := hcn
      rw [hlen] at hcn'
      have : k = l.length := by omega
      subst this
      skip
      conv => whnf
      repeat' (first
        | fail)
      exact ⟨PLe.of_eq (by rw [List.take_length])⟩
theorem given_pure {m : Int} (l : List Ar) (hl : l.length ≤ 1000000) (hp : ∀ a ∈ l, a.poly.length ≤ 1000000) : APure (C m) 29 [.seq 4 (l.map ac)] (.seq 4 (l.map ac)) := by
  have hlen : (((l.map ac).length : Nat) : Int) = l.length := by simp
  have hown := owned_pure (m := m) l hl hp
  refine APure.of_body good [] (fn := Tryz.f29) (by kernel_rfl) (by kernel_rfl) rfl rfl (by kernel_rfl) rfl (by kernel_rfl) ?_
  conv => whnf
  repeat' (first
    | (rw [hlen]; conv => whnf)
    | (refine SEx.mk _ (by first | exact hown) ?_; conv => whnf)
    | fail)
  refine ⟨AWp.loop (ι := { k : Nat // k ≤ l.length }) (fun k => ⟨[(9, .p (I k.1)), (8, .p (I l.length)), (7, .p (.seq 4 (l.map ac))), (3, .own 0)], [], [(0, (181, 4, (l.take k.1).map ac))], 1, [], [], []⟩) (fun k => l.length - k.1) ⟨0, by simp⟩ ?_ ?_⟩
  · refine SLe.row 3 181 4 ?_
    conv => whnf
    skip
    · refine SLe.of [] [(0, 0)] rfl rfl ?_
      conv => whnf
      repeat' (first
      | exact True.intro
      | (refine SAnd.mk (PLe.refl _) ?_; conv => whnf)
      | (refine SAnd.mk rfl ?_; conv => whnf))
  · rintro ⟨k, hk⟩
    refine codeK_sound good (mu := []) ?_
    conv => whnf
    refine SBool.mk (fun hcn => ?_) (fun hcn => ?_)
    · have hkl : k < l.length := by simpa using hcn
      have hs := some_at hkl ac
      have mk := sub_lt hkl
      have hts := take_map_succ hkl ac
      have hap : (∀ c ∈ [ac l[k]].flatten, c.one = true) ∧ (((l.take k).map ac).length + 1) * 56 ≤ 140737488355328 ∧ ((l.take k).map ac).length + 1 ≤ 9223372036854775807 := ⟨one_ac _, by rw [List.length_map, List.length_take]; omega, by rw [List.length_map, List.length_take]; omega⟩
      have wk := wsucc (k := k) (by omega)
      clear hcn
      conv => whnf
      skip
      conv => whnf
      repeat' (first
        | (rw [wk]; conv => whnf)
        | (refine SEx.mk _ (by first | exact hs | exact hap) ?_; conv => whnf)
        | (refine SAnd.mk (by first | exact hs | exact hap) ?_; conv => whnf)
        | fail)
      refine ⟨⟨k + 1, hkl⟩, mk, ?_⟩
      skip
      · refine SLe.of [] [(0, 2)] rfl rfl ?_
        conv => whnf
        repeat' (first
        | exact True.intro
        | (refine SAnd.mk (hts.symm) ?_; conv => whnf)
        | (refine SAnd.mk (PLe.refl _) ?_; conv => whnf))
    · have : k = l.length := by simp at hcn; omega
      subst this
      skip
      conv => whnf
      repeat' (first
        | fail)
      exact ⟨PLe.of_eq (by rw [List.take_length])⟩
def shortAreasB (l : List Ar) : Prop := (∀ a ∈ l, a.name.size ≤ 40 ∧ a.poly.length ≤ 9) ∧ (l.length ≤ 4 ∨ l.length = 17)
theorem shortAreas_pure {m : Int} (l : List Ar) (hl : l.length ≤ 9223372036854775807) : ∃ b : Bool, (b = true → shortAreasB l) ∧ APure (C m) 26 [.seq 4 (l.map ac)] (Bo b) := by
  have hlen : (((l.map ac).length : Nat) : Int) = l.length := by simp
  refine ⟨l.all (fun a => decide (a.name.size ≤ 40 ∧ a.poly.length ≤ 9)) && decide (l.length ≤ 4 ∨ l.length = 17), fun h => ?_, ?_⟩
  · rw [Bool.and_eq_true, List.all_eq_true, decide_eq_true_eq] at h
    exact ⟨fun a ha => by simpa using h.1 a ha, h.2⟩
  · obtain ⟨V, hV⟩ : ∃ V, V = l.all (fun a => decide (a.name.size ≤ 40 ∧ a.poly.length ≤ 9)) := ⟨_, rfl⟩
    rw [← hV]
    refine APure.of_body good [] (fn := Tryz.f26) (by kernel_rfl) (by kernel_rfl) rfl rfl (by kernel_rfl) rfl (by kernel_rfl) ?_
    conv => whnf
    repeat' (first
      | fail)
    refine ⟨AWp.loop (ι := { k : Nat // k ≤ l.length ∧ V = (l.drop k).all (fun a => decide (a.name.size ≤ 40 ∧ a.poly.length ≤ 9)) }) (fun k => ⟨[(3, .p (I k.1)), (0, .p (.seq 4 (l.map ac)))], [], [], 0, [], [], []⟩) (fun k => l.length - k.1) ⟨0, by simp, by simpa using hV⟩ ?_ ?_⟩
    · skip
      · refine SLe.of [] [] rfl rfl ?_
        conv => whnf
        repeat' (first
        | exact True.intro
        | (refine SAnd.mk (PLe.refl _) ?_; conv => whnf))
    · rintro ⟨k, hk, he⟩
      clear hV
      refine codeK_sound good (mu := []) ?_
      conv => whnf
      refine SBool.mk (fun hcn => ?_) (fun hcn => ?_)
      · have hcn' : (k : Int) < (((l.map ac).length : Nat) : Int) := hcn
        rw [hlen] at hcn'
        have hkl : k < l.length := by omega
        have hs := some_at hkl ac
        have mk := sub_lt hkl
        have wk : wrapK IntKind.i64 ((k : Int) + 1) = k + 1 := wrap_id (by omega) (by omega)
        have hst : (l.drop k).all (fun a => decide (a.name.size ≤ 40 ∧ a.poly.length ≤ 9)) = (decide (l[k].name.size ≤ 40 ∧ l[k].poly.length ≤ 9) && (l.drop (k + 1)).all (fun a => decide (a.name.size ≤ 40 ∧ a.poly.length ≤ 9))) := by rw [List.drop_eq_getElem_cons hkl, List.all_cons]
        rw [hst] at he
        clear hcn hcn' hst
        generalize l[k] = x at *
        by_cases hbig : x.name.size ≤ 40 ∧ x.poly.length ≤ 9
        · rw [decide_eq_true hbig, Bool.true_and] at he
          have hbi : ¬ 40 < ((x.name.size : Nat) : Int) := by omega
          have hbp : ¬ 9 < (((x.poly.map pc).length : Nat) : Int) := by rw [List.length_map]; omega
          skip
          conv => whnf
          repeat' (first
            | (rw [wk]; conv => whnf)
            | (refine SBool.mk (fun h => ?_) (fun h => ?_) <;> conv => whnf)
            | (refine SEx.mk _ (by first | exact hs) ?_; conv => whnf)
            | fail)
          · exact absurd (by assumption) hbi
          · exact absurd (by assumption) hbp
          · refine ⟨⟨k + 1, hkl, he⟩, mk, ?_⟩
            skip
            · refine SLe.of [] [] rfl rfl ?_
              conv => whnf
              repeat' (first
              | exact True.intro
              | (refine SAnd.mk (PLe.refl _) ?_; conv => whnf))
        · rw [decide_eq_false hbig, Bool.false_and] at he
          have hbi : 40 < ((x.name.size : Nat) : Int) ∨ 9 < (((x.poly.map pc).length : Nat) : Int) := by rw [List.length_map]; omega
          subst he
          skip
          conv => whnf
          repeat' (first
            | (rw [wk]; conv => whnf)
            | (refine SBool.mk (fun h => ?_) (fun h => ?_) <;> conv => whnf)
            | (refine SEx.mk _ (by first | exact hs) ?_; conv => whnf)
            | fail)
          · exact ⟨PLe.of_eq (by rw [Bool.false_and])⟩
          · exact ⟨PLe.of_eq (by rw [Bool.false_and])⟩
          · rcases hbi with hb | hb <;> exact absurd hb (by assumption)
      · have hcn' : ¬ (k : Int) < (((l.map ac).length : Nat) : Int) := hcn
        rw [hlen] at hcn'
        have hkl : k = l.length := by omega
        subst hkl
        rw [List.drop_length, List.all_nil] at he
        subst he
        rw [Bool.true_and]
        clear hcn hcn'
        skip
        conv => whnf
        repeat' (first
          | (rw [hlen]; conv => whnf)
          | (refine SBool.mk (fun h => ?_) (fun h => ?_) <;> conv => whnf)
          | fail)
        all_goals first
          | exact ⟨PLe.of_eq (congrArg Bo (decide_eq_true (by omega)).symm)⟩
          | exact ⟨PLe.of_eq (congrArg Bo (decide_eq_false (by omega)).symm)⟩
theorem refApplies_pure {m : Int} (a : Ar) (size cat : Int) : APure (C m) 121 [.agg (ac a), I size, I cat] (Bo (appliesB a size cat)) := by
  refine APure.of_body good [] (fn := Tryz.f121) (by kernel_rfl) (by kernel_rfl) rfl rfl (by kernel_rfl) rfl (by kernel_rfl) ?_
  conv => whnf
  repeat' (first
    | (refine SBool.mk (fun h => ?_) (fun h => ?_) <;> conv => whnf)
    | fail)
  all_goals exact ⟨PLe.of_eq (congrArg Bo (by unfold appliesB; first | (rw [decide_eq_true (by omega), decide_eq_true (by omega)]; rfl) | (rw [Bool.and_eq_false_iff.2 (.inl (decide_eq_false (by omega)))]) | (rw [Bool.and_eq_false_iff.2 (.inr (decide_eq_false (by omega)))])))⟩
theorem refCommon_pure {m : Int} (a b c d : Int) : APure (C m) 131 [.agg [I a, I b], .agg [I c, I d]] (.agg [I (max a c), I (min b d)]) := by
  refine APure.of_body good [] (fn := Tryz.f131) (by kernel_rfl) (by kernel_rfl) rfl rfl (by kernel_rfl) rfl (by kernel_rfl) ?_
  conv => whnf
  repeat' (first
    | fail)
  exact ⟨PLe.refl _⟩
end Go.Proofs.Ab.Area
end
section
/- The reference's Usable. -/
set_option maxRecDepth 100000
set_option linter.unusedVariables false
set_option linter.unusedSimpArgs false
namespace Go.Proofs.Ab.Area
open Go Go.RowKit Go.Proofs.Ab
end Go.Proofs.Ab.Area
end
section
/- The reference's Conflicts, Permitted, Clear. -/
set_option maxRecDepth 100000
set_option linter.unusedVariables false
set_option linter.unusedSimpArgs false
namespace Go.Proofs.Ab.Area
open Go Go.RowKit Go.Proofs.Ab
structure Good3 (areas : List Ar) (lands : List Ld) (moves : List Mv) : Prop where
  ha : areas.length ≤ 1000
  hl : lands.length ≤ 1000
  hm : moves.length ≤ 1000
  hp : ∀ a ∈ areas, 0 < a.poly.length ∧ a.poly.length ≤ 1000 ∧ ∀ q ∈ a.poly, q.Fit
  hlt : ∀ x ∈ lands, x.lo < x.hi
  hmt : ∀ x ∈ moves, x.lo < x.hi ∧ x.box.Fit
theorem common_max {a b c d : Int} (h1 : a < b) (h2 : c < d) : commonB a b c d = decide (max a c < min b d) := by
  unfold commonB
  rw [Bool.eq_iff_iff, Bool.and_eq_true, decide_eq_true_eq, decide_eq_true_eq, decide_eq_true_eq]
  omega
theorem one_cf (i k n : Nat) : ∀ c ∈ ([[I i, I k, I n]] : List (List PV)).flatten, c.one = true := by
  intro c hc
  simp only [List.flatten_cons, List.flatten_nil, List.append_nil, List.mem_cons, List.not_mem_nil, or_false] at hc
  rcases hc with rfl | rfl | rfl <;> rfl
theorem one_ap {N : Nat} (i k n : Nat) (h : N ≤ 2000000000) : (∀ c ∈ ([[I i, I k, I n]] : List (List PV)).flatten, c.one = true) ∧ (N + 1) * 24 ≤ 140737488355328 ∧ N + 1 ≤ 9223372036854775807 := ⟨one_cf i k n, by omega, by omega⟩
noncomputable def c48 : Code := Tryz.f48.body.getD .skip
theorem conf_no {areas : List Ar} {x : Ld} {y : Mv} {i k n : Nat} (L : List Cf) (h : gA areas x y n = false) : (L ++ confA areas x y i k n).map cc = (L ++ confA areas x y i k (n + 1)).map cc := by
  rw [confA_succ, h, if_neg (by decide), List.append_nil]
theorem conf_yes {areas : List Ar} {x : Ld} {y : Mv} {i k n : Nat} (L : List Cf) (h : gA areas x y n = true) : (L ++ confA areas x y i k n).map cc ++ [[I i, I k, I n]] = (L ++ confA areas x y i k (n + 1)).map cc := by
  rw [confA_succ, h, if_pos rfl]
  simp
set_option maxHeartbeats 16000000 in
theorem inner48 {m : Int} (areas : List Ar) (lands : List Ld) (moves : List Mv) (L : List Cf) (x : Ld) (y : Mv) (i k : Nat) (LO HI : Int) (hs1 : 0 ≤ (i : Int) ∧ (lands.map lc)[((i : Int)).toNat]? = some (lc x)) (hs2 : 0 ≤ (k : Int) ∧ (moves.map mc)[((k : Int)).toNat]? = some (mc y))
    (hcb : commonB x.lo x.hi y.lo y.hi = decide (LO < HI)) (ha : areas.length ≤ 1000) (hL : L.length ≤ 1100000000) (hp : ∀ a ∈ areas, 0 < a.poly.length ∧ a.poly.length ≤ 1000 ∧ ∀ q ∈ a.poly, q.Fit) (hy : y.box.Fit) {Q : Out → AS → Prop}
    (hQ : ∀ s', SLe (C m) Tryz.f48.ntmps s' ⟨[(10, .box 1 0), (9, .p (I k)), (8, .p (I i)), (0, .p (.seq 4 (areas.map ac))), (1, .p (.seq 4 (lands.map lc))), (2, .p (.seq 8 (moves.map mc))), (7, .own 0)], [(1, (89, [I LO, I HI]))], [(0, (207, 3, (L ++ confA areas x y i k areas.length).map cc))], 2, [], [], []⟩ → Q (.exit 4) s') :
    AWp (C m) Tryz.f48.ntmps (pieceAt [1, 1, 0, 1, 0, 0, 1, 0, 0, 1, 0, 0, 1, 0, 0, 1, 1, 0] c48) Q ⟨[(11, .p (I (0 : Nat))), (10, .box 1 0), (9, .p (I k)), (8, .p (I i)), (0, .p (.seq 4 (areas.map ac))), (1, .p (.seq 4 (lands.map lc))), (2, .p (.seq 8 (moves.map mc))), (7, .own 0)], [(1, (89, [I LO, I HI]))], [(0, (207, 3, (L ++ confA areas x y i k (0 : Nat)).map cc))], 2, [], [], []⟩ := by
  have hlen : (((areas.map ac).length : Nat) : Int) = areas.length := by simp
  refine codeK_sound good (mu := []) ?_
  conv => whnf
  refine ⟨AWp.loop (ι := { n : Nat // n ≤ areas.length }) (fun n => ⟨[(11, .p (I n.1)), (10, .box 1 0), (9, .p (I k)), (8, .p (I i)), (0, .p (.seq 4 (areas.map ac))), (1, .p (.seq 4 (lands.map lc))), (2, .p (.seq 8 (moves.map mc))), (7, .own 0)], [(1, (89, [I LO, I HI]))], [(0, (207, 3, (L ++ confA areas x y i k n.1).map cc))], 2, [], [], []⟩) (fun n => areas.length - n.1) ⟨0, by simp⟩ ?_ ?_⟩
  · skip
    · refine SLe.of [(1, 1)] [(0, 0)] rfl rfl ?_
      conv => whnf
      repeat' (first
      | exact True.intro
      | (refine SAnd.mk (PLe.refl _) ?_; conv => whnf)
      | (refine SAnd.mk (PLeL.refl _) ?_; conv => whnf)
      | (refine SAnd.mk rfl ?_; conv => whnf))
  · rintro ⟨n, hn⟩
    refine codeK_sound good (mu := []) ?_
    conv => whnf
    refine SBool.mk (fun hcn => ?_) (fun hcn => ?_)
    · have hcn' : (n : Int) < (((areas.map ac).length : Nat) : Int) := hcn
      rw [hlen] at hcn'
      have hnl : n < areas.length := by omega
      have hs3 := some_at hnl ac
      have mn := sub_lt hnl
      have wn := wsucc (k := n) (by omega)
      have hpl := hp _ (List.getElem_mem hnl)
      have happ := refApplies_pure (m := m) areas[n] y.size x.cat
      have hme := refMeets_pure (m := m) areas[n].poly y.box hpl.1 hpl.2.1 hpl.2.2 hy
      have hga : gA areas x y n = (decide (LO < HI) && appliesB areas[n] y.size x.cat && meetsB areas[n].poly y.box) := by
        unfold gA againstB
        rw [hcb, getD_lt hnl]
      have hlA := confA_len areas x y i k n
      have hap := one_ap (N := ((L ++ confA areas x y i k n).map cc).length) i k n (by rw [List.length_map, List.length_append]; omega)
      have no := conf_no (areas := areas) (x := x) (y := y) (i := i) (k := k) (n := n) L
      have yes := conf_yes (areas := areas) (x := x) (y := y) (i := i) (k := k) (n := n) L
      clear hcn hcn' hpl hcb hlA
      generalize areas[n] = a at hs3 happ hme hga
      by_cases hlo : LO < HI
      · rw [decide_eq_true hlo, Bool.true_and] at hga
        cases hA : appliesB a y.size x.cat
        · rw [hA] at happ hga
          have e := no (by rw [hga]; rfl)
          skip
          conv => whnf
          repeat' (first
            | (rw [wn]; conv => whnf)
            | (refine SBool.mk (fun h => ?_) (fun h => ?_) <;> conv => whnf)
            | (refine SEx.mk _ (by first | exact hs1 | exact hs2 | exact hs3 | exact happ | exact hme | exact hap) ?_; conv => whnf)
            | (refine SAnd.mk (by first | exact rfl | kernel_rfl | omega | decide | exact hs1 | exact hs2 | exact hs3 | exact happ | exact hme | exact hap) ?_; conv => whnf)
            | fail)
          all_goals first
            | exact absurd hlo (by assumption)
            | refine ⟨⟨n + 1, hnl⟩, mn, ?_⟩
          skip
          · refine SLe.of [(1, 1)] [(0, 0)] rfl rfl ?_
            conv => whnf
            repeat' (first
            | exact True.intro
            | (refine SAnd.mk (show _ = (_ : List (List PV)) from e) ?_; conv => whnf)
            | (refine SAnd.mk (PLe.refl _) ?_; conv => whnf)
            | (refine SAnd.mk (PLeL.refl _) ?_; conv => whnf))
        · cases hB : meetsB a.poly y.box
          · rw [hA, hB] at hga
            rw [hA] at happ
            rw [hB] at hme
            have e := no (by rw [hga]; rfl)
            skip
            conv => whnf
            repeat' (first
              | (rw [wn]; conv => whnf)
              | (refine SBool.mk (fun h => ?_) (fun h => ?_) <;> conv => whnf)
              | (refine SEx.mk _ (by first | exact hs1 | exact hs2 | exact hs3 | exact happ | exact hme | exact hap) ?_; conv => whnf)
              | (refine SAnd.mk (by first | exact rfl | kernel_rfl | omega | decide | exact hs1 | exact hs2 | exact hs3 | exact happ | exact hme | exact hap) ?_; conv => whnf)
              | fail)
            all_goals first
              | exact absurd hlo (by assumption)
              | refine ⟨⟨n + 1, hnl⟩, mn, ?_⟩
            skip
            · refine SLe.of [(1, 1)] [(0, 0)] rfl rfl ?_
              conv => whnf
              repeat' (first
              | exact True.intro
              | (refine SAnd.mk (show _ = (_ : List (List PV)) from e) ?_; conv => whnf)
              | (refine SAnd.mk (PLe.refl _) ?_; conv => whnf)
              | (refine SAnd.mk (PLeL.refl _) ?_; conv => whnf))
          · rw [hA, hB] at hga
            rw [hA] at happ
            rw [hB] at hme
            have e := yes (by rw [hga]; rfl)
            skip
            conv => whnf
            repeat' (first
              | (rw [wn]; conv => whnf)
              | (refine SBool.mk (fun h => ?_) (fun h => ?_) <;> conv => whnf)
              | (refine SEx.mk _ (by first | exact hs1 | exact hs2 | exact hs3 | exact happ | exact hme | exact hap) ?_; conv => whnf)
              | (refine SAnd.mk (by first | exact hs1 | exact hs2 | exact hs3 | exact happ | exact hme | exact hap) ?_; conv => whnf)
              | (refine SAnd.mk (by first | exact rfl | kernel_rfl | omega | decide | exact hs1 | exact hs2 | exact hs3 | exact happ | exact hme | exact hap) ?_; conv => whnf)
              | fail)
            all_goals first
              | exact absurd hlo (by assumption)
              | refine ⟨⟨n + 1, hnl⟩, mn, ?_⟩
            skip
            · refine SLe.of [(1, 1)] [(0, 35)] rfl rfl ?_
              conv => whnf
              repeat' (first
              | exact True.intro
              | (refine SAnd.mk (show _ = (_ : List (List PV)) from e) ?_; conv => whnf)
              | (refine SAnd.mk (PLe.refl _) ?_; conv => whnf)
              | (refine SAnd.mk (PLeL.refl _) ?_; conv => whnf))
      · rw [decide_eq_false hlo] at hga
        have e := no (by rw [hga]; rfl)
        skip
        conv => whnf
        repeat' (first
          | (rw [wn]; conv => whnf)
          | (refine SBool.mk (fun h => ?_) (fun h => ?_) <;> conv => whnf)
          | (refine SEx.mk _ (by first | exact hs1 | exact hs2 | exact hs3 | exact happ | exact hme | exact hap) ?_; conv => whnf)
          | (refine SAnd.mk (by first | exact rfl | kernel_rfl | omega | decide | exact hs1 | exact hs2 | exact hs3 | exact happ | exact hme | exact hap) ?_; conv => whnf)
          | fail)
        all_goals first
          | exact absurd (by assumption) hlo
          | refine ⟨⟨n + 1, hnl⟩, mn, ?_⟩
        skip
        · refine SLe.of [(1, 1)] [(0, 0)] rfl rfl ?_
          conv => whnf
          repeat' (first
          | exact True.intro
          | (refine SAnd.mk (show _ = (_ : List (List PV)) from e) ?_; conv => whnf)
          | (refine SAnd.mk (PLe.refl _) ?_; conv => whnf)
          | (refine SAnd.mk (PLeL.refl _) ?_; conv => whnf))
    · have hcn' : ¬ (n : Int) < (((areas.map ac).length : Nat) : Int) := hcn
      rw [hlen] at hcn'
      have : n = areas.length := by omega
      subst this
      clear hcn hcn'
      conv => whnf
      refine hQ _ ?_
      skip
      · refine SLe.of [(1, 1)] [(0, 0)] rfl rfl ?_
        conv => whnf
        repeat' (first
        | exact True.intro
        | (refine SAnd.mk (PLe.refl _) ?_; conv => whnf)
        | (refine SAnd.mk (PLeL.refl _) ?_; conv => whnf)
        | (refine SAnd.mk rfl ?_; conv => whnf))
end Go.Proofs.Ab.Area
end
section
/- The reference's Conflicts, Permitted. -/
set_option maxRecDepth 100000
set_option linter.unusedVariables false
set_option linter.unusedSimpArgs false
namespace Go.Proofs.Ab.Area
open Go Go.RowKit Go.Proofs.Ab
theorem conf_zero {areas : List Ar} {lands : List Ld} {moves : List Mv} {x : Ld} (i : Nat) : (confL areas lands moves i).map cc = (confL areas lands moves i ++ confM areas moves x i 0).map cc := by simp [confM]
theorem conf_zero2 {areas : List Ar} {x : Ld} {y : Mv} {i k : Nat} (L : List Cf) : L.map cc = (L ++ confA areas x y i k 0).map cc := by simp [confA]
theorem conf_stepM {areas : List Ar} {moves : List Mv} {x : Ld} {i k : Nat} (L : List Cf) (h : k < moves.length) : ((L ++ confM areas moves x i k) ++ confA areas x moves[k] i k areas.length).map cc = (L ++ confM areas moves x i (k + 1)).map cc := by
  rw [List.append_assoc, ← getD_lt h]; rfl
theorem conf_stepL {areas : List Ar} {lands : List Ld} {moves : List Mv} {i : Nat} (h : i < lands.length) : (confL areas lands moves i ++ confM areas moves lands[i] i moves.length).map cc = (confL areas lands moves (i + 1)).map cc := by
  rw [← getD_lt h]; rfl
theorem conf_len2 {areas : List Ar} (ha : areas.length ≤ 1000) {moves : List Mv} (hm : moves.length ≤ 1000) {lands : List Ld} {x : Ld} {i k : Nat} (hi : i ≤ 1000) (hk : k ≤ 1000) : (confL areas lands moves i ++ confM areas moves x i k).length ≤ 1100000000 := by
  have h1 := confL_len ha hm lands i
  have h2 := confM_len ha moves x i k
  rw [List.length_append]
  omega
set_option maxHeartbeats 16000000 in
theorem refConflicts_pure {m : Int} (areas : List Ar) (lands : List Ld) (moves : List Mv) (g : Good3 areas lands moves) :
    APure (C m) 48 [.seq 4 (areas.map ac), .seq 4 (lands.map lc), .seq 8 (moves.map mc)] (.seq 3 ((conf areas lands moves).map cc)) := by
  have hlen2 : (((lands.map lc).length : Nat) : Int) = lands.length := by simp
  have hlen3 : (((moves.map mc).length : Nat) : Int) = moves.length := by simp
  have hl := g.hl
  have hm := g.hm
  refine APure.of_body good [] (fn := Tryz.f48) (by kernel_rfl) (by kernel_rfl) rfl rfl (by kernel_rfl) rfl (by kernel_rfl) ?_
  conv => whnf
  repeat' (first
    | fail)
  refine ⟨AWp.loop (ι := { i : Nat // i ≤ lands.length }) (fun i => ⟨[(8, .p (I i.1)), (0, .p (.seq 4 (areas.map ac))), (1, .p (.seq 4 (lands.map lc))), (2, .p (.seq 8 (moves.map mc))), (7, .own 0)], [], [(0, (207, 3, (confL areas lands moves i.1).map cc))], 1, [], [], []⟩) (fun i => lands.length - i.1) ⟨0, by simp⟩ ?_ ?_⟩
  · refine SLe.row 7 207 3 ?_
    conv => whnf
    skip
    · refine SLe.of [] [(0, 0)] rfl rfl ?_
      conv => whnf
      repeat' (first
      | exact True.intro
      | (refine SAnd.mk (PLe.refl _) ?_; conv => whnf)
      | (refine SAnd.mk rfl ?_; conv => whnf))
  · rintro ⟨i, hi⟩
    refine codeK_sound good (mu := []) ?_
    conv => whnf
    refine SBool.mk (fun hcn => ?_) (fun hcn => ?_)
    · have hcn' : (i : Int) < (((lands.map lc).length : Nat) : Int) := hcn
      rw [hlen2] at hcn'
      have hil : i < lands.length := by omega
      have hs1 := some_at hil lc
      have mi := sub_lt hil
      have wi := wsucc (k := i) (by omega)
      have hlt := g.hlt _ (List.getElem_mem hil)
      have eL := conf_stepL (areas := areas) (moves := moves) hil
      have e0 := conf_zero (areas := areas) (lands := lands) (moves := moves) (x := lands[i]) i
      clear hcn hcn'
      conv => whnf
      refine ⟨AWp.loop (ι := { k : Nat // k ≤ moves.length }) (fun k => ⟨[(9, .p (I k.1)), (8, .p (I i)), (0, .p (.seq 4 (areas.map ac))), (1, .p (.seq 4 (lands.map lc))), (2, .p (.seq 8 (moves.map mc))), (7, .own 0)], [], [(0, (207, 3, (confL areas lands moves i ++ confM areas moves lands[i] i k.1).map cc))], 1, [], [], []⟩) (fun k => moves.length - k.1) ⟨0, by simp⟩ ?_ ?_⟩
      · skip
        · refine SLe.of [] [(0, 0)] rfl rfl ?_
          conv => whnf
          repeat' (first
          | exact True.intro
          | (refine SAnd.mk (show _ = (_ : List (List PV)) from e0) ?_; conv => whnf)
          | (refine SAnd.mk (PLe.refl _) ?_; conv => whnf))
      · rintro ⟨k, hk⟩
        refine codeK_sound good (mu := []) ?_
        conv => whnf
        refine SBool.mk (fun hcn => ?_) (fun hcn => ?_)
        · have hcn' : (k : Int) < (((moves.map mc).length : Nat) : Int) := hcn
          rw [hlen3] at hcn'
          have hkl : k < moves.length := by omega
          have hs2 := some_at hkl mc
          have mk := sub_lt hkl
          have wk := wsucc (k := k) (by omega)
          have hmt := g.hmt _ (List.getElem_mem hkl)
          have hcm := refCommon_pure (m := m) lands[i].lo lands[i].hi moves[k].lo moves[k].hi
          have hcb := common_max hlt hmt.1
          have eM := conf_stepM (areas := areas) (x := lands[i]) (i := i) (confL areas lands moves i) hkl
          have hL := conf_len2 (areas := areas) g.ha (moves := moves) hm (lands := lands) (x := lands[i]) (i := i) (k := k) (Nat.le_trans (Nat.le_of_lt hil) hl) (Nat.le_trans (Nat.le_of_lt hkl) hm)
          have e1 := conf_zero2 (areas := areas) (x := lands[i]) (y := moves[k]) (i := i) (k := k) (confL areas lands moves i ++ confM areas moves lands[i] i k)
          clear hcn hcn'
          generalize hLO : max lands[i].lo moves[k].lo = LO at hcm hcb
          generalize hHI : min lands[i].hi moves[k].hi = HI at hcm hcb
          skip
          conv => whnf
          repeat' (first
            | (refine SEx.mk _ (by first | exact hs1 | exact hs2 | exact hcm) ?_; conv => whnf)
            | (refine SAnd.mk (by first | exact rfl | kernel_rfl | omega | decide | exact hs1 | exact hs2 | exact hcm) ?_; conv => whnf)
            | fail)
          refine ⟨AWp.post (AWp.le ?_ (inner48 areas lands moves (confL areas lands moves i ++ confM areas moves lands[i] i k) lands[i] moves[k] i k LO HI hs1 hs2 hcb g.ha hL g.hp hmt.2 (fun s' hs' => ⟨_, hs', ?_⟩)))⟩
          · skip
            · refine SLe.of [(1, 12)] [(0, 0)] rfl rfl ?_
              conv => whnf
              repeat' (first
              | exact True.intro
              | (refine SAnd.mk (show _ = (_ : List (List PV)) from e1) ?_; conv => whnf)
              | (refine SAnd.mk (PLe.refl _) ?_; conv => whnf)
              | (refine SAnd.mk (PLeL.refl _) ?_; conv => whnf))
          · skip
            conv => whnf
            repeat' (first
              | (rw [wk]; conv => whnf)
              | fail)
            refine ⟨⟨k + 1, hkl⟩, mk, ?_⟩
            skip
            · refine SLe.of [] [(0, 0)] rfl rfl ?_
              conv => whnf
              repeat' (first
              | exact True.intro
              | (refine SAnd.mk (show _ = (_ : List (List PV)) from eM) ?_; conv => whnf)
              | (refine SAnd.mk (PLe.refl _) ?_; conv => whnf))
        · have hcn' : ¬ (k : Int) < (((moves.map mc).length : Nat) : Int) := hcn
          rw [hlen3] at hcn'
          have : k = moves.length := by omega
          subst this
          clear hcn hcn'
          skip
          conv => whnf
          repeat' (first
            | (rw [wi]; conv => whnf)
            | fail)
          refine ⟨⟨i + 1, hil⟩, mi, ?_⟩
          skip
          · refine SLe.of [] [(0, 0)] rfl rfl ?_
            conv => whnf
            repeat' (first
            | exact True.intro
            | (refine SAnd.mk (show _ = (_ : List (List PV)) from eL) ?_; conv => whnf)
            | (refine SAnd.mk (PLe.refl _) ?_; conv => whnf))
    · have hcn' : ¬ (i : Int) < (((lands.map lc).length : Nat) : Int) := hcn
      rw [hlen2] at hcn'
      have : i = lands.length := by omega
      subst this
      skip
      conv => whnf
      repeat' (first
        | fail)
      exact ⟨PLe.of_eq rfl⟩
theorem refPermitted_pure {m : Int} (areas : List Ar) (lands : List Ld) (x : Mv) (g : Good3 areas lands [x]) : APure (C m) 59 [.seq 4 (areas.map ac), .seq 4 (lands.map lc), .agg (mc x)] (Bo (permB areas lands x)) := by
  have h := refConflicts_pure (m := m) areas lands [x] g
  unfold permB
  generalize conf areas lands [x] = c at *
  have hc : (((c.map cc).length : Nat) : Int) = c.length := by simp
  rcases c with _ | ⟨y, c⟩
  · refine APure.of_body good [] (fn := Tryz.f59) (by kernel_rfl) (by kernel_rfl) rfl rfl (by kernel_rfl) rfl (by kernel_rfl) ?_
    conv => whnf
    repeat' (first
      | (refine SBool.mk (fun _ => ?_) (fun h => absurd (of_decide_eq_true rfl) h); conv => whnf)
      | (refine SEx.mk _ (by first | exact h) ?_; conv => whnf)
      | fail)
    all_goals first
      | exact ⟨PLe.refl _⟩
      | exact absurd rfl (by assumption)
  · have hne : ¬ (((c.length + 1 : Nat)) : Int) = 0 := by omega
    refine APure.of_body good [] (fn := Tryz.f59) (by kernel_rfl) (by kernel_rfl) rfl rfl (by kernel_rfl) rfl (by kernel_rfl) ?_
    conv => whnf
    repeat' (first
      | (rw [hc]; conv => whnf)
      | (refine SBool.mk (fun h => absurd h (of_decide_eq_false rfl)) (fun _ => ?_); conv => whnf)
      | (refine SEx.mk _ (by first | exact h) ?_; conv => whnf)
      | fail)
    all_goals first
      | exact ⟨PLe.refl _⟩
      | exact absurd (by assumption) hne
end Go.Proofs.Ab.Area
end
section
/- The reference's Clear. -/
set_option maxRecDepth 100000
set_option linter.unusedVariables false
set_option linter.unusedSimpArgs false
namespace Go.Proofs.Ab.Area
open Go Go.RowKit Go.Proofs.Ab
end Go.Proofs.Ab.Area
end
section
/- The reference's Earliest. -/
set_option maxRecDepth 100000
set_option linter.unusedVariables false
set_option linter.unusedSimpArgs false
namespace Go.Proofs.Ab.Area
open Go Go.RowKit Go.Proofs.Ab
def idE : Nat → Int
  | 0 => -1
  | j + 1 => j
def foldE (areas : List Ar) (lands : List Ld) (x : Mv) (d : Int) (p : Nat) : Int := ((candE lands x).take p).foldl (pickE fun t => permB areas lands (atT x t d)) (-1)
theorem candE_len (lands : List Ld) (x : Mv) : (candE lands x).length = lands.length + 1 := by simp [candE]
theorem foldE_zero (areas : List Ar) (lands : List Ld) (x : Mv) (d : Int) : foldE areas lands x d 1 = pickE (fun t => permB areas lands (atT x t d)) (foldE areas lands x d 0) x.lo := rfl
theorem foldE_succ (areas : List Ar) {lands : List Ld} (x : Mv) (d : Int) {j : Nat} (h : j < lands.length) : foldE areas lands x d (j + 2) = pickE (fun t => permB areas lands (atT x t d)) (foldE areas lands x d (j + 1)) (max x.lo lands[j].hi) := by
  have hc : (candE lands x)[j + 1]'(by rw [candE_len]; omega) = max x.lo lands[j].hi := by simp [candE]
  unfold foldE
  rw [List.take_succ_eq_append_getElem (by rw [candE_len]; omega), List.foldl_append, hc]
  rfl
theorem foldE_all (areas : List Ar) (lands : List Ld) (x : Mv) (d : Int) : foldE areas lands x d (lands.length + 1) = bestE areas lands x d := by
  unfold foldE bestE
  rw [← candE_len lands x, List.take_length]
structure ErlOk (areas : List Ar) (lands : List Ld) (x : Mv) (d : Int) : Prop where
  g : Good3 areas lands [x]
  lo : 0 ≤ x.lo ∧ x.lo ≤ 100000000
  d0 : 0 < d ∧ d ≤ 10000
  hh : ∀ l ∈ lands, 0 ≤ l.hi ∧ l.hi ≤ 100000000
theorem ErlOk.at {areas : List Ar} {lands : List Ld} {x : Mv} {d : Int} (h : ErlOk areas lands x d) (t : Int) : Good3 areas lands [atT x t d] :=
  ⟨h.g.ha, h.g.hl, by simp, h.g.hp, h.g.hlt, fun y hy => by
    have hy : y = atT x t d := by simpa using hy
    subst hy
    exact ⟨by show t < t + d; have := h.d0; omega, (h.g.hmt x (by simp)).2⟩⟩
theorem pick_yes {f : Int → Bool} {b t : Int} (h : b < 0 ∨ t < b) (hf : f t = true) : pickE f b t = t := by unfold pickE; rw [if_pos ⟨h, hf⟩]
theorem pick_no1 {f : Int → Bool} {b t : Int} (h : ¬ b < 0) (h2 : ¬ t < b) : pickE f b t = b := by unfold pickE; rw [if_neg (fun hh => hh.1.elim h h2)]
theorem pick_no2 {f : Int → Bool} {b t : Int} (hf : f t = false) : pickE f b t = b := by unfold pickE; rw [if_neg (fun hh => by rw [hf] at hh; cases hh.2)]
noncomputable def c60 : Code := Tryz.f60.body.getD .skip
set_option maxHeartbeats 16000000 in
theorem earl_walk {m : Int} (areas : List Ar) (lands : List Ld) (x : Mv) (d : Int) (h : ErlOk areas lands x d) {Q : Out → AS → Prop}
    (hQ : ∀ s', SLe (C m) Tryz.f60.ntmps s' ⟨[(9, .p (I (bestE areas lands x d))), (8, .p (I d))], [], [], 0, [], [], []⟩ → Q (.exit 0) s') :
    AWp (C m) Tryz.f60.ntmps (pieceAt [1, 1, 1, 1, 0, 1, 0] c60) Q ⟨[(10, .p (I (-1))), (9, .p (I (-1))), (8, .p (I d)), (5, .p (.ref (mc x))), (0, .p (.seq 4 (areas.map ac))), (1, .p (.seq 4 (lands.map lc)))], [], [], 0, [], [], []⟩ := by
  have hlen2 : (((lands.map lc).length : Nat) : Int) = lands.length := by simp
  have hll := h.g.hl
  refine codeK_sound good (mu := []) ?_
  conv => whnf
  refine ⟨AWp.loop (ι := { p : Nat // p ≤ lands.length + 1 }) (fun p => ⟨[(10, .p (I (idE p.1))), (9, .p (I (foldE areas lands x d p.1))), (8, .p (I d)), (5, .p (.ref (mc x))), (0, .p (.seq 4 (areas.map ac))), (1, .p (.seq 4 (lands.map lc)))], [], [], 0, [], [], []⟩) (fun p => lands.length + 1 - p.1) ⟨0, by simp⟩ ?_ ?_⟩
  · skip
    · refine SLe.of [] [] rfl rfl ?_
      conv => whnf
      repeat' (first
      | exact True.intro
      | (refine SAnd.mk (PLe.refl _) ?_; conv => whnf))
  · rintro ⟨p, hp⟩
    rcases p with _ | j
    · have hpm := refPermitted_pure (m := m) areas lands (atT x x.lo d) (h.at x.lo)
      have hlo : ¬ (0 : Int) ≤ -1 := by decide
      have hb : ¬ -1 < (((lands.map lc).length : Nat) : Int) → False := fun h => by rw [hlen2] at h; omega
      have wd : wrapK IntKind.i64 (x.lo + d) = x.lo + d := w64 (by have := h.lo; have := h.d0; omega)
      have hf0 : foldE areas lands x d 0 = -1 := rfl
      have hst := foldE_zero areas lands x d
      have mk : lands.length + 1 - (0 + 1) < lands.length + 1 - 0 := by omega
      have w0 : wrapK IntKind.i64 (-1 + 1) = idE 1 := by kernel_rfl
      refine AWp.le (t := ⟨[(10, .p (I (-1))), (9, .p (I (-1))), (8, .p (I d)), (5, .p (.ref (mc x))), (0, .p (.seq 4 (areas.map ac))), (1, .p (.seq 4 (lands.map lc)))], [], [], 0, [], [], []⟩) ?_ ?_
      · skip
        · refine SLe.of [] [] rfl rfl ?_
          conv => whnf
          repeat' (first
          | exact True.intro
          | (refine SAnd.mk (PLe.refl _) ?_; conv => whnf))
      cases hB : permB areas lands (atT x x.lo d)
      · rw [hB] at hpm
        have e : (-1 : Int) = foldE areas lands x d 1 := by rw [hst, pick_no2 hB]; rfl
        refine codeK_sound good (mu := [12]) ?_
        conv => whnf
        repeat' (first
          | (rw [wd]; conv => whnf)
          | (refine SBool.mk (fun _ => ?_) (fun h => absurd (of_decide_eq_true rfl) h); conv => whnf)
          | (refine SBool.mk (fun h => absurd h (of_decide_eq_false rfl)) (fun _ => ?_); conv => whnf)
          | (refine SEx.mk _ (by first | exact hpm) ?_; conv => whnf)
          | fail)
        all_goals first
          | exact (hb (by assumption)).elim
          | exact absurd (by assumption) hlo
          | exact absurd (by decide : (-1 : Int) < 0) (by assumption)
          | refine ⟨⟨1, by omega⟩, mk, ?_⟩
        skip
        · refine SLe.of [] [] rfl rfl ?_
          conv => whnf
          repeat' (first
          | exact True.intro
          | (refine SAnd.mk (PLe.of_eq (congrArg I e)) ?_; conv => whnf)
          | (refine SAnd.mk (PLe.of_eq (congrArg I w0)) ?_; conv => whnf)
          | (refine SAnd.mk (PLe.refl _) ?_; conv => whnf))
      · rw [hB] at hpm
        have e : x.lo = foldE areas lands x d 1 := by rw [hst, hf0, pick_yes (.inl (by decide)) hB]
        refine codeK_sound good (mu := [12]) ?_
        conv => whnf
        repeat' (first
          | (rw [wd]; conv => whnf)
          | (refine SBool.mk (fun _ => ?_) (fun h => absurd (of_decide_eq_true rfl) h); conv => whnf)
          | (refine SBool.mk (fun h => absurd h (of_decide_eq_false rfl)) (fun _ => ?_); conv => whnf)
          | (refine SEx.mk _ (by first | exact hpm) ?_; conv => whnf)
          | fail)
        all_goals first
          | exact (hb (by assumption)).elim
          | exact absurd (by assumption) hlo
          | exact absurd (by decide : (-1 : Int) < 0) (by assumption)
          | refine ⟨⟨1, by omega⟩, mk, ?_⟩
        skip
        · refine SLe.of [] [] rfl rfl ?_
          conv => whnf
          repeat' (first
          | exact True.intro
          | (refine SAnd.mk (PLe.of_eq (congrArg I e)) ?_; conv => whnf)
          | (refine SAnd.mk (PLe.of_eq (congrArg I w0)) ?_; conv => whnf)
          | (refine SAnd.mk (PLe.refl _) ?_; conv => whnf))
    · by_cases hjl : j < lands.length
      · have hs := some_at hjl lc
        have hhi := h.hh _ (List.getElem_mem hjl)
        have hj0 : (0 : Int) ≤ (j : Int) := by omega
        have hjb : ((j : Nat) : Int) < (((lands.map lc).length : Nat) : Int) := by rw [hlen2]; omega
        have hst := foldE_succ areas x d hjl
        have hpm := refPermitted_pure (m := m) areas lands (atT x (max x.lo lands[j].hi) d) (h.at _)
        have wd : wrapK IntKind.i64 (max x.lo lands[j].hi + d) = max x.lo lands[j].hi + d := w64 (by have := h.lo; have := h.d0; omega)
        have wk : wrapK IntKind.i64 ((j : Int) + 1) = ((j + 1 : Nat) : Int) := w64 (by omega)
        have mk : lands.length + 1 - (j + 1 + 1) < lands.length + 1 - (j + 1) := by omega
        clear hhi
        generalize foldE areas lands x d (j + 1) = b at *
        generalize lands[j] = y at *
        cases hB : permB areas lands (atT x (max x.lo y.hi) d)
        · rw [hB] at hpm
          have e : b = foldE areas lands x d (j + 2) := by rw [hst, pick_no2 hB]
          refine codeK_sound good (mu := [12]) ?_
          conv => whnf
          repeat' (first
            | (rw [wd]; conv => whnf)
            | (refine SBool.mk (fun _ => ?_) (fun h => absurd (of_decide_eq_true rfl) h); conv => whnf)
            | (refine SBool.mk (fun h => ?_) (fun h => ?_) <;> conv => whnf)
            | (refine SEx.mk _ (by first | exact hs | exact hpm) ?_; conv => whnf)
            | fail)
          all_goals first
            | exact absurd hjb (by assumption)
            | exact absurd hj0 (by assumption)
            | refine ⟨⟨j + 2, by omega⟩, mk, ?_⟩
          all_goals
            skip
            · refine SLe.of [] [] rfl rfl ?_
              conv => whnf
              repeat' (first
              | exact True.intro
              | (refine SAnd.mk (PLe.of_eq (congrArg I e)) ?_; conv => whnf)
              | (refine SAnd.mk (PLe.of_eq (congrArg I wk)) ?_; conv => whnf)
              | (refine SAnd.mk (PLe.refl _) ?_; conv => whnf))
        · rw [hB] at hpm
          refine codeK_sound good (mu := [12]) ?_
          conv => whnf
          repeat' (first
            | (rw [wd]; conv => whnf)
            | (refine SBool.mk (fun _ => ?_) (fun h => absurd (of_decide_eq_true rfl) h); conv => whnf)
            | (refine SBool.mk (fun h => ?_) (fun h => ?_) <;> conv => whnf)
            | (refine SEx.mk _ (by first | exact hs | exact hpm) ?_; conv => whnf)
            | fail)
          all_goals first
            | exact absurd hjb (by assumption)
            | exact absurd hj0 (by assumption)
            | skip
          · have e : max x.lo y.hi = foldE areas lands x d (j + 2) := by rw [hst, pick_yes (by first | exact .inl (by assumption) | exact .inr (by assumption)) hB]
            refine ⟨⟨j + 2, by omega⟩, mk, ?_⟩
            skip
            · refine SLe.of [] [] rfl rfl ?_
              conv => whnf
              repeat' (first
              | exact True.intro
              | (refine SAnd.mk (PLe.of_eq (congrArg I e)) ?_; conv => whnf)
              | (refine SAnd.mk (PLe.of_eq (congrArg I wk)) ?_; conv => whnf)
              | (refine SAnd.mk (PLe.refl _) ?_; conv => whnf))
          · have e : max x.lo y.hi = foldE areas lands x d (j + 2) := by rw [hst, pick_yes (by first | exact .inl (by assumption) | exact .inr (by assumption)) hB]
            refine ⟨⟨j + 2, by omega⟩, mk, ?_⟩
            skip
            · refine SLe.of [] [] rfl rfl ?_
              conv => whnf
              repeat' (first
              | exact True.intro
              | (refine SAnd.mk (PLe.of_eq (congrArg I e)) ?_; conv => whnf)
              | (refine SAnd.mk (PLe.of_eq (congrArg I wk)) ?_; conv => whnf)
              | (refine SAnd.mk (PLe.refl _) ?_; conv => whnf))
          · have e : b = foldE areas lands x d (j + 2) := by rw [hst, pick_no1 (by assumption) (by assumption)]
            refine ⟨⟨j + 2, by omega⟩, mk, ?_⟩
            skip
            · refine SLe.of [] [] rfl rfl ?_
              conv => whnf
              repeat' (first
              | exact True.intro
              | (refine SAnd.mk (PLe.of_eq (congrArg I e)) ?_; conv => whnf)
              | (refine SAnd.mk (PLe.of_eq (congrArg I wk)) ?_; conv => whnf)
              | (refine SAnd.mk (PLe.refl _) ?_; conv => whnf))
      · have hj : j = lands.length := by omega
        subst hj
        have hjb : ¬ ((lands.length : Nat) : Int) < (((lands.map lc).length : Nat) : Int) := by rw [hlen2]; omega
        have e := foldE_all areas lands x d
        refine codeK_sound good (mu := []) ?_
        conv => whnf
        repeat' (first
          | (refine SBool.mk (fun _ => ?_) (fun h => absurd (of_decide_eq_true rfl) h); conv => whnf)
          | (refine SBool.mk (fun h => ?_) (fun h => ?_) <;> conv => whnf)
          | fail)
        · exact absurd (by assumption) hjb
        · refine hQ _ ?_
          skip
          · refine SLe.of [] [] rfl rfl ?_
            conv => whnf
            repeat' (first
            | exact True.intro
            | (refine SAnd.mk (PLe.of_eq (congrArg I e)) ?_; conv => whnf)
            | (refine SAnd.mk (PLe.refl _) ?_; conv => whnf))
theorem best_bound {areas : List Ar} {lands : List Ld} {x : Mv} {d : Int} (h : ErlOk areas lands x d) : 0 ≤ bestE areas lands x d ∧ bestE areas lands x d ≤ 100000000 := by
  have hb := (best_spec (areas := areas) (lands := lands) (x := x) d h.lo.1 (fun l hl => (h.hh l hl).1)).1
  unfold candE at hb
  rcases List.mem_cons.1 hb with hb | hb
  · rw [hb]; exact h.lo
  · obtain ⟨l, hl, hb⟩ := List.mem_map.1 hb
    have h1 := h.hh l hl
    have h2 := h.lo
    rw [← hb]
    omega
set_option maxHeartbeats 4000000 in
theorem refEarliest_pure {m : Int} (areas : List Ar) (lands : List Ld) (x : Mv) (g : Good3 areas lands [x]) (hx : 0 ≤ x.lo ∧ x.lo < x.hi ∧ x.hi ≤ 100000000) (hh : ∀ l ∈ lands, 0 ≤ l.hi ∧ l.hi ≤ 100000000) :
    APure (C m) 60 [.seq 4 (areas.map ac), .seq 4 (lands.map lc), .agg (mc x)] (.tup [I (earlS areas lands x).1, I (earlS areas lands x).2]) := by
  have wd : wrapK IntKind.i64 (x.hi - x.lo) = x.hi - x.lo := w64 (by omega)
  by_cases hd : 10000 < x.hi - x.lo
  · have e : earlS areas lands x = (0, 3) := by unfold earlS; rw [if_pos hd]
    rw [e]
    refine APure.of_body good [] (fn := Tryz.f60) (by kernel_rfl) (by kernel_rfl) rfl rfl (by kernel_rfl) rfl (by kernel_rfl) ?_
    conv => whnf
    repeat' (first
      | (rw [wd]; conv => whnf)
      | (refine SBool.mk (fun h => ?_) (fun h => ?_) <;> conv => whnf)
      | fail)
    · exact ⟨PLe.refl _⟩
    all_goals exact absurd hd (by assumption)
  · have ok : ErlOk areas lands x (x.hi - x.lo) := ⟨g, ⟨hx.1, by omega⟩, ⟨by omega, by omega⟩, hh⟩
    have hb := best_bound ok
    have wb : wrapK IntKind.i64 (bestE areas lands x (x.hi - x.lo) + (x.hi - x.lo)) = bestE areas lands x (x.hi - x.lo) + (x.hi - x.lo) := w64 (by omega)
    have e1 : 100000000 < bestE areas lands x (x.hi - x.lo) + (x.hi - x.lo) → earlS areas lands x = (0, 7) := fun h => by unfold earlS; rw [if_neg hd, if_pos h]
    have e2 : ¬ 100000000 < bestE areas lands x (x.hi - x.lo) + (x.hi - x.lo) → earlS areas lands x = (bestE areas lands x (x.hi - x.lo), 0) := fun h => by unfold earlS; rw [if_neg hd, if_neg h]
    clear hb hx hh
    refine APure.of_body good [] (fn := Tryz.f60) (by kernel_rfl) (by kernel_rfl) rfl rfl (by kernel_rfl) rfl (by kernel_rfl) ?_
    conv => whnf
    repeat' (first
      | (rw [wd]; conv => whnf)
      | (refine SBool.mk (fun h => ?_) (fun h => ?_) <;> conv => whnf)
      | fail)
    · exact absurd (by assumption) hd
    · refine ⟨AWp.post (AWp.le ?_ (earl_walk areas lands x (x.hi - x.lo) ok (fun s' hs' => ⟨_, hs', ?_⟩)))⟩
      · skip
        · refine SLe.of [] [] rfl rfl ?_
          conv => whnf
          repeat' (first
          | exact True.intro
          | (refine SAnd.mk (PLe.refl _) ?_; conv => whnf))
      · skip
        conv => whnf
        repeat' (first
          | (rw [wb]; conv => whnf)
          | (refine SBool.mk (fun h => ?_) (fun h => ?_) <;> conv => whnf)
          | fail)
        · rw [e1 (by assumption)]
          exact ⟨PLe.refl _⟩
        · rw [e2 (by assumption)]
          exact ⟨PLe.refl _⟩
end Go.Proofs.Ab.Area
end
section
/- The law of what applies. -/
set_option maxRecDepth 100000
set_option linter.unusedVariables false
set_option linter.unusedSimpArgs false
namespace Go.Proofs.Ab.Area
open Go Go.RowKit Go.Proofs.Ab
section
attribute [local irreducible] APure
end
theorem areas_good {l : List Ar} (h : areasE l = 0) : ∀ a ∈ l, 0 < a.poly.length ∧ a.poly.length ≤ 1000 ∧ ∀ q ∈ a.poly, q.Fit := fun a ha => by
  have h1 := (areas_ok h).2 a ha
  have h2 := area_fit h1
  unfold areaE at h1
  rw [firstOf_zero, firstOf_zero, firstOf_zero] at h1
  have := (polyE_zero.1 h1.2.2.1).conv.n3
  exact ⟨by omega, h2⟩
end Go.Proofs.Ab.Area
end
section
/- The law of the conflicts. -/
set_option maxRecDepth 100000
set_option linter.unusedVariables false
set_option linter.unusedSimpArgs false
namespace Go.Proofs.Ab.Area
open Go Go.RowKit Go.Proofs.Ab
section
attribute [local irreducible] APure
end
theorem lands_good {x : List Ld} (h : landsE x = 0) : x.length ≤ 32 ∧ ∀ a ∈ x, 0 ≤ a.lo ∧ a.lo < a.hi ∧ a.hi ≤ 100000000 := by
  have h1 := lands_ok h
  exact ⟨h1.1, fun a ha => land_ticks (h1.2 a ha)⟩
theorem moves_good {x : List Mv} (h : movesE x = 0) : x.length ≤ 32 ∧ ∀ a ∈ x, (0 ≤ a.lo ∧ a.lo < a.hi ∧ a.hi ≤ 100000000) ∧ a.box.Fit := by
  have h1 := moves_ok h
  exact ⟨h1.1, fun a ha => ⟨move_ticks (h1.2 a ha), move_fit (h1.2 a ha)⟩⟩
theorem good3_of {l : List Ar} {x : List Ld} {y : List Mv} (h : sceneE l x y = 0) : Good3 l x y := by
  unfold sceneE at h
  rw [firstOf_zero, firstOf_zero, firstOf_zero] at h
  have h1 := areas_ok h.1
  have h2 := lands_good h.2.1
  have h3 := moves_good h.2.2.1
  exact ⟨by omega, by omega, by omega, areas_good h.1, fun a ha => (h2.2 a ha).2.1, fun a ha => ⟨(h3.2 a ha).1.2.1, (h3.2 a ha).2⟩⟩
end Go.Proofs.Ab.Area
end
section
/- The law of the moves. -/
set_option maxRecDepth 100000
set_option linter.unusedVariables false
set_option linter.unusedSimpArgs false
namespace Go.Proofs.Ab.Area
open Go Go.RowKit Go.Proofs.Ab
theorem moves_one (y : Mv) : movesE [y] = firstOf [if nameB y.name then 0 else 8, moveE y] := by
  have e : movesE [y] = if firstOf [if nameB y.name then 0 else 8, 0, moveE y] = 0 then 0 else firstOf [if nameB y.name then 0 else 8, 0, moveE y] := rfl
  have e2 : firstOf [if nameB y.name then 0 else 8, 0, moveE y] = firstOf [if nameB y.name then 0 else 8, moveE y] := by cases nameB y.name <;> rfl
  rw [e, e2]
  by_cases h : firstOf [if nameB y.name then 0 else 8, moveE y] = 0
  · rw [if_pos h, h]
  · rw [if_neg h]
section
attribute [local irreducible] APure
set_option maxHeartbeats 16000000 in
theorem AreaMoves_parts {m : Int} (l : List Ar) (x : List Ld) (y : Mv) (e1 E1 E2 ba bl bm : Int) (b : Bool) (hw : APure (C m) 13 [] (Bo true)) (hnm : ¬ 40 < ((y.name.size : Nat) : Int))
    (c26 : APure (C m) 26 [.seq 4 (l.map ac)] (Bo true)) (c54 : APure (C m) 54 [.seq 4 (x.map lc)] (Bo true)) (c29 : APure (C m) 29 [.seq 4 (l.map ac)] (.seq 4 (l.map ac))) (c42 : APure (C m) 42 [.seq 4 (x.map lc)] (.seq 4 (x.map lc))) (c56 : APure (C m) 56 [.agg (mc y)] (.agg (mc y)))
    (c55 : APure (C m) 55 [.seq 4 (l.map ac), .seq 4 (x.map lc), .agg (mc y)] (.tup [Bo b, I e1])) (c57 : APure (C m) 57 [.seq 4 (l.map ac), .seq 4 (x.map lc), .agg (mc y)] (.tup [I E1, I E2]))
    (c32 : APure (C m) 32 [.seq 4 (l.map ac)] (I ba)) (c45 : APure (C m) 45 [.seq 4 (x.map lc)] (I bl)) (c58 : APure (C m) 58 [.agg (mc y)] (I bm)) (c19 : APure (C m) 19 [.seq 1 [[I ba], [I bl], [I bm]]] (I e1))
    (c59 : e1 = 0 → APure (C m) 59 [.seq 4 (l.map ac), .seq 4 (x.map lc), .agg (mc y)] (Bo b)) (c60 : e1 = 0 → APure (C m) 60 [.seq 4 (l.map ac), .seq 4 (x.map lc), .agg (mc y)] (.tup [I E1, I E2])) (n1 : e1 ≠ 0 → b = false) (n2 : e1 ≠ 0 → E1 = 0) (n3 : e1 ≠ 0 → E2 = e1) :
    APure (C m) 6 [.seq 4 (l.map ac), .seq 4 (x.map lc), .agg (mc y)] (Bo true) := by
  refine APure.of_body good [] (fn := Tryz.f6) (by kernel_rfl) (by kernel_rfl) rfl rfl (by kernel_rfl) rfl (by kernel_rfl) ?_
  conv => whnf
  repeat' (first
    | (refine SBool.mk (fun _ => ?_) (fun h => absurd (of_decide_eq_true rfl) h); conv => whnf)
    | (refine SBool.mk (fun h => ?_) (fun h => ?_) <;> conv => whnf)
    | (refine SEx.mk _ (by first | exact hw | exact c26 | exact c54 | exact c29 | exact c42 | exact c56 | exact c55 | exact c57 | exact c32 | exact c45 | exact c58 | exact c19 | exact c59 (by assumption) | exact c60 (by assumption) | exact eql_same _ | exact eql_false (n1 (by assumption))) ?_; conv => whnf)
    | (refine SAnd.mk (by first | exact rfl | kernel_rfl | omega | decide | exact hw | exact c26 | exact c54 | exact c29 | exact c42 | exact c56 | exact c55 | exact c57 | exact c32 | exact c45 | exact c58 | exact c19 | exact c59 (by assumption) | exact c60 (by assumption) | exact eql_same _ | exact eql_false (n1 (by assumption))) ?_; conv => whnf)
    | fail)
  all_goals first
    | exact ⟨PLe.refl _⟩
    | exact absurd (by assumption) hnm
    | exact absurd rfl (by assumption)
    | exact absurd (n2 (by assumption)) (by assumption)
    | exact absurd (n3 (by assumption)) (by assumption)
end
set_option maxHeartbeats 4000000 in
theorem AreaMoves_pure {m : Int} (l : List Ar) (x : List Ld) (y : Mv) (hl : l.length ≤ 9223372036854775807) (hx : x.length ≤ 9223372036854775807) : APure (C m) 6 [.seq 4 (l.map ac), .seq 4 (x.map lc), .agg (mc y)] (Bo true) := by
  obtain ⟨b1, s1, c26⟩ := shortAreas_pure (m := m) l hl
  obtain ⟨b2, s2, c54⟩ := shortLands_pure (m := m) x hx
  cases b1
  · refine APure.of_body good [] (fn := Tryz.f6) (by kernel_rfl) (by kernel_rfl) rfl rfl (by kernel_rfl) rfl (by kernel_rfl) ?_
    conv => whnf
    repeat' (first
      | (refine SEx.mk _ (by first | exact c26 | exact awake_pure) ?_; conv => whnf)
      | fail)
    exact ⟨PLe.refl _⟩
  cases b2
  · refine APure.of_body good [] (fn := Tryz.f6) (by kernel_rfl) (by kernel_rfl) rfl rfl (by kernel_rfl) rfl (by kernel_rfl) ?_
    conv => whnf
    repeat' (first
      | (refine SEx.mk _ (by first | exact c26 | exact c54 | exact awake_pure) ?_; conv => whnf)
      | fail)
    exact ⟨PLe.refl _⟩
  by_cases hnm : 40 < ((y.name.size : Nat) : Int)
  · refine APure.of_body good [] (fn := Tryz.f6) (by kernel_rfl) (by kernel_rfl) rfl rfl (by kernel_rfl) rfl (by kernel_rfl) ?_
    conv => whnf
    repeat' (first
      | (refine SBool.mk (fun h => ?_) (fun h => ?_) <;> conv => whnf)
      | (refine SEx.mk _ (by first | exact c26 | exact c54 | exact awake_pure) ?_; conv => whnf)
      | (refine SAnd.mk (by first | exact rfl | kernel_rfl | omega | decide | exact c26 | exact c54 | exact awake_pure) ?_; conv => whnf)
      | fail)
    · exact ⟨PLe.refl _⟩
    all_goals exact absurd hnm (by assumption)
  have q1 := s1 rfl
  have q2 := s2 rfl
  have l1 : l.length ≤ 1000000 := by have := q1.2; omega
  have l2 : x.length ≤ 1000000 := by have := q2.2; omega
  have lp : ∀ a ∈ l, a.poly.length ≤ 1000 := fun a ha => by have := (q1.1 a ha).2; omega
  have c58 := refMove_pure (m := m) y
  rw [← moves_one] at c58
  refine AreaMoves_parts l x y (permE l x y) (earlR l x y).1 (earlR l x y).2 (areasE l) (landsE x) (movesE [y]) (permR l x y) awake_pure hnm c26 c54 (given_pure l l1 (fun a ha => Nat.le_trans (lp a ha) (by decide))) (landed_pure x l2) (single_pure y)
    (Permitted_pure l x y l1 (fun _ => lp) l2) (Earliest_pure l x y l1 (fun _ => lp) l2) (refAreas_pure l l1 (fun _ => lp)) (refLands_pure x l2) c58 (lawFirst_pure [areasE l, landsE x, movesE [y]] (by simp)) (fun e => ?_) (fun e => ?_) (fun e => ?_) (fun e => ?_) (fun e => ?_)
  · unfold permR
    rw [if_pos e]
    exact refPermitted_pure l x y (good3_of e)
  · have e' : sceneE l x [y] = 0 := e
    rw [earl_same e']
    have h' := e'
    unfold sceneE at h'
    rw [firstOf_zero, firstOf_zero, firstOf_zero] at h'
    have h3 := (moves_good h'.2.2.1).2 y (by simp)
    exact refEarliest_pure l x y (good3_of e') h3.1 (fun a ha => by have := (lands_good h'.2.1).2 a ha; omega)
  · unfold permR
    rw [if_neg e]
  · have e' : ¬ sceneE l x [y] = 0 := e
    unfold earlR
    rw [if_neg e']
  · have e' : ¬ sceneE l x [y] = 0 := e
    unfold earlR
    rw [if_neg e']
    rfl
end Go.Proofs.Ab.Area
end
section
/- AreaMoves: for every list of areas and of landings and every move the program's Permitted and Earliest, or their errors, are the reference's: the law returns true. (Longer lists and names are left out by the law itself, but for one too many; the listed variables are as the program's text lays them.) -/
set_option maxRecDepth 100000
set_option linter.unusedVariables false
set_option linter.unusedSimpArgs false
namespace Go.Proofs.YtlgkijilmpjdmaaGreatDoor
open Go Go.RowKit Go.Proofs.Ab Go.Proofs.Ab.Area
theorem areaMoves_lifted (os : Os) (started : os.Started) (H : Type) (enc : TypeId × Value → H) :
    ReturnsInHanded {} Tryz.checked os 6 .any (fun w args => (Rows.areaMovesSpec.pre enc Tryz.prog Tryz.f6 [] false w args ∧ laidMetH Tryz.prog listed w) ∧ sizedMet enc Tryz.prog Tryz.f6 (OpenSpec.ofChange Rows.areaMovesSpec) false w args)
      (Rows.areaMovesSpec.post enc Tryz.prog Tryz.f6 false true false false) := by
  refine lifted_of started (by as_aux_lemma => kernel_rfl) Tryz.func6 (ss := [(false, [.sl arSh]), (false, [.sl ldSh]), (true, mvSh)])
    (witness #[.slice none 0 0, .slice none 0 0, .agg #[.string ⟨#[]⟩, .int .i64 0, .int .i64 0, .int .i64 0, .int .i64 0, .int .i64 0, .int .i64 0, .int .i64 0]] (by as_aux_lemma => kernel_rfl) (by as_aux_lemma => kernel_rfl) (by as_aux_lemma => kernel_rfl) (World.shaped_of_ZipB (by as_aux_lemma => kernel_rfl) (by as_aux_lemma => kernel_rfl)) (laidMet_laidAll _ (by as_aux_lemma => kernel_rfl) (by as_aux_lemma => kernel_rfl)))
    ?_ (by as_aux_lemma => kernel_rfl) (by as_aux_lemma => kernel_rfl) rfl ?_ ?_
  · rw [Tryz.params6]
    intro t ht
    have hall : ([44, 65, 91].all fun u => Tryz.prog.readableRec u && decide (u < Tryz.prog.types.size)) = true := by as_aux_lemma => kernel_rfl
    have := List.all_eq_true.1 hall t (by simpa using ht)
    rw [Bool.and_eq_true, decide_eq_true_eq] at this
    exact this
  · rw [Tryz.params6]
    intro ds hd
    match ds, hd with
    | [d0, d1, d2], _ => exact ⟨rfl, rfl, rfl⟩
  · intro m xs h
    obtain ⟨x0, xs, rfl, h0, h⟩ := h.uncons
    obtain ⟨x1, xs, rfl, h1, h⟩ := h.uncons
    obtain ⟨x2, xs, rfl, h2, h⟩ := h.uncons
    obtain rfl := h.unnil
    obtain ⟨l, rfl, hl⟩ := fit_areas h0
    obtain ⟨x, rfl, hx⟩ := fit_lands h1
    obtain ⟨y, rfl⟩ := fit_move h2
    exact AreaMoves_pure l x y hl hx
set_option maxHeartbeats 40000000 in
theorem areaMoves_facts : joinedFacts Tryz.pinned.checked.prog 6 Tryz.f6 Rows.areaMovesSpec Rows.areaMovesRow = true := by
  unfold joinedFacts
  simp only [Bool.and_eq_true]
  repeat' apply And.intro
  all_goals as_aux_lemma => kernel_rfl
theorem areaMoves_row : Rows.AreaMovesSaid :=
  OpenClaim.holds_of_wide 6 Tryz.f6 rfl rfl rfl rfl rfl rfl rfl ⟨rfl, rfl, rfl, rfl, rfl⟩ rfl rfl rfl rfl rfl (by as_aux_lemma => kernel_rfl) Tryz.func6 areaMoves_facts
    (of_decide_eq_true (by as_aux_lemma => kernel_rfl)) (by as_aux_lemma => unfold Func.isWrapper; first | (rw [if_pos (by decide +kernel)]; kernel_rfl) | (rw [if_neg (by decide +kernel)]; exact ⟨rfl, rfl⟩))
    (fun os started H enc _ => areaMoves_lifted os started H enc)
theorem areaMoves_named : Tryz.prog.funcNamed "glideslope/glideslopelaw05.AreaMoves" = some 6 := by kernel_rfl
theorem areaMoves_holds : Rows.AreaMovesCardSaid :=
  Claim7.holds_tied_plain_at .later [] [.data, .data, .data, .data, .pinned] true (true, "8d132721e60c3e414474b7b7d1fa76c26332388e2b61df2dc171e81fefcccd9a") false areaMoves_row (fun _ h => by cases h) (by as_aux_lemma => kernel_rfl) (fun _ h => by cases h) areaMoves_row_tie rfl ⟨rfl, rfl⟩ (by as_aux_lemma => kernel_rfl) rfl
    (fun f fn hf hfn => by
      obtain rfl : f = 6 := Option.some.inj (areaMoves_named.symm.trans hf) |>.symm
      obtain rfl : fn = Tryz.f6 := (Option.some.inj (Tryz.func6.symm.trans hfn)).symm
      exact ⟨by as_aux_lemma => kernel_rfl, fun j t ht => by
        rw [Tryz.params6] at ht
        have hm : t ∈ [44, 65, 91] := by simpa using Array.mem_of_getElem? ht
        have hall : ([44, 65, 91].all fun u => !Tryz.prog.wantsStandIn u) = true := by as_aux_lemma => kernel_rfl
        exact (show Tryz.prog.wantsStandIn t = false by simpa using List.all_eq_true.1 hall t hm)⟩)
    (by as_aux_lemma => kernel_rfl)
#print axioms areaMoves_holds
end Go.Proofs.YtlgkijilmpjdmaaGreatDoor
end
