/- The proof of AreaShapes (see the last theorem): for every input that can be read the law returns true; the listed package-level variables are as the program's text lays them. -/
import Derived.Test.YtlgkijilmpjdmaaGreatDoorK6
section
/- The reference's CheckPolygon, Size, CheckBox and Meets. -/
set_option maxRecDepth 100000
set_option linter.unusedVariables false
set_option linter.unusedSimpArgs false
namespace Go.Proofs.Ab.Area
open Go Go.RowKit Go.Proofs.Ab
theorem firstM_drop {α : Type} (f : α → Int) {xs : List α} {k : Nat} (h : k < xs.length) : firstOf ((xs.drop k).map f) = if f xs[k] = 0 then firstOf ((xs.drop (k + 1)).map f) else f xs[k] := by
  rw [List.drop_eq_getElem_cons h]
  rfl
theorem firstOf_one (x : Int) : firstOf [x] = x := by
  simp only [firstOf]
  split
  · rename_i h; exact h.symm
  · rfl
theorem refPoly1 {m : Int} (l : List Pt) (h3 : 3 ≤ l.length) (hl : l.length ≤ 1000) :
    AWp (C m) Tryz.f18.ntmps (pieceAt [1, 1] c18) (endV m [ResultVar.tmp 2] (I (if firstOf (l.map ptE) = 0 then (if (List.range l.length).any (badB l) then 1 else 0) else firstOf (l.map ptE)))) ⟨[(0, .p (.seq 2 (l.map pc)))], [], [], 0, [], [], []⟩ := by
  refine codeN_sound good (mu := []) (n := 1) ?_
  conv => whnf
  refine ⟨AWp.loop (ι := { k : Nat // k ≤ l.length ∧ firstOf (l.map ptE) = firstOf ((l.drop k).map ptE) }) (fun k => ⟨[(4, .p (I k.1)), (0, .p (.seq 2 (l.map pc)))], [], [], 0, [], [], []⟩) (fun k => l.length - k.1) ⟨0, by simp⟩ ?_ ?_⟩
  · skip
    · refine SLe.of [] [] rfl rfl ?_
      conv => whnf
      repeat' (first
      | exact True.intro
      | (refine SAnd.mk (PLe.refl _) ?_; conv => whnf))
  · rintro ⟨k, hk, he⟩
    refine codeK_sound good (mu := []) ?_
    conv => whnf
    refine SBool.mk (fun hcn => ?_) (fun hcn => ?_)
    · have hkl : k < l.length := by simpa using hcn
      have hs0 : 0 ≤ (k : Int) ∧ (l.map pc)[((k : Int)).toNat]? = some (pc l[k]) := ⟨by omega, by show (l.map pc)[k]? = _; simp [hkl]⟩
      have mk : l.length - (k + 1) < l.length - k := by omega
      have hd := firstM_drop ptE hkl
      have wk : wrapK IntKind.i64 ((k : Int) + 1) = k + 1 := w64 (by omega)
      have hp := refPoint_pure (m := m) l[k]
      generalize ptE l[k] = e at hp hd
      have ret : ¬ e = 0 → (if firstOf (l.map ptE) = 0 then (if (List.range l.length).any (badB l) then (1 : Int) else 0) else firstOf (l.map ptE)) = e := fun h => by rw [he, hd, if_neg h, if_neg h]
      have nxt : e = 0 → firstOf (l.map ptE) = firstOf ((l.drop (k + 1)).map ptE) := fun h => by rw [he, hd, if_pos h]
      conv => whnf
      conv => whnf
      repeat' (first
        | (rw [wk]; conv => whnf)
        | (refine SBool.mk (fun h => ?_) (fun h => ?_) <;> conv => whnf)
        | (refine SEx.mk _ (by first | exact hs0 | exact hp) ?_; conv => whnf)
        | fail)
      all_goals first
        | exact ⟨PLe.of_eq (congrArg I (ret (by assumption)).symm)⟩
        | refine ⟨⟨k + 1, hkl, nxt (by assumption)⟩, mk, ?_⟩
      skip
      · refine SLe.of [] [] rfl rfl ?_
        conv => whnf
        repeat' (first
        | exact True.intro
        | (refine SAnd.mk (PLe.refl _) ?_; conv => whnf))
    · have : k = l.length := by simp at hcn; omega
      subst this
      have hz : firstOf (l.map ptE) = 0 := by rw [he, List.drop_length]; rfl
      have hfit : ∀ q ∈ l, q.Fit := fun q hq => fit_of (firstOf_all.1 hz _ (List.mem_map_of_mem hq))
      have go := refPoly2 (m := m) l h3 hl hfit
      rw [if_pos hz]
      conv => whnf
      refine ⟨AWp.le ?_ go⟩
      skip
      · refine SLe.of [] [] rfl rfl ?_
        conv => whnf
        repeat' (first
        | exact True.intro
        | (refine SAnd.mk (PLe.refl _) ?_; conv => whnf))
theorem refPolygon_pure {m : Int} (l : List Pt) (hl : l.length ≤ 1000) : APure (C m) 18 [.seq 2 (l.map pc)] (I (polyE l)) := by
  have hlen : (((l.map pc).length : Nat) : Int) = l.length := by simp
  have pe : ∀ a b : Int, a = (if l.length < 3 then 16 else 0) → b = (if 8 < l.length then 5 else 0) → polyF l = firstOf [a, b, firstOf (l.map ptE)] := fun a b ha hb => by rw [ha, hb]; rfl
  have ret : ∀ a b : Int, a = (if l.length < 3 then 16 else 0) → b = (if 8 < l.length then 5 else 0) → ¬ firstOf [a, b] = 0 → firstOf [a, b] = polyE l := fun a b ha hb h => by
    have e : polyF l = firstOf [a, b] := by
      rw [pe a b ha hb]
      simp only [firstOf] at h ⊢
      split
      · split
        · rename_i h1 h2; simp [h1, h2] at h
        · rfl
      · rfl
    unfold polyE
    rw [e, if_neg h]
  have go : ∀ a b : Int, a = (if l.length < 3 then 16 else 0) → b = (if 8 < l.length then 5 else 0) → firstOf [a, b] = 0 →
      AWp (C m) Tryz.f18.ntmps (pieceAt [1, 1] c18) (endV m [ResultVar.tmp 2] (I (polyE l))) ⟨[(0, .p (.seq 2 (l.map pc)))], [], [], 0, [], [], []⟩ := fun a b ha hb h => by
    rw [firstOf_zero, firstOf_zero] at h
    have h3 : 3 ≤ l.length := by
      rcases Nat.lt_or_ge l.length 3 with hh | hh
      · rw [if_pos hh] at ha; rw [ha] at h; exact absurd h.1 (by decide)
      · exact hh
    have e : polyF l = firstOf (l.map ptE) := by
      rw [pe a b ha hb, h.1, h.2.1]
      exact firstOf_one _
    have e2 : polyE l = if firstOf (l.map ptE) = 0 then (if (List.range l.length).any (badB l) then 1 else 0) else firstOf (l.map ptE) := by unfold polyE; rw [e]
    rw [e2]
    exact refPoly1 l h3 hl
  refine APure.of_wp good (fn := Tryz.f18) (by kernel_rfl) (by kernel_rfl) rfl rfl (by kernel_rfl) rfl (by kernel_rfl) ?_
  refine codeN_sound good (mu := []) (n := 2) ?_
  conv => whnf
  repeat' (first
    | (rw [hlen]; conv => whnf)
    | (refine SBool.mk (fun _ => ?_) (fun h => absurd (of_decide_eq_true rfl) h); conv => whnf)
    | (refine SBool.mk (fun h => absurd h (of_decide_eq_false rfl)) (fun _ => ?_); conv => whnf)
    | (refine SBool.mk (fun h => ?_) (fun h => ?_) <;> conv => whnf)
    | (refine SEx.mk _ (by first | exact refWhen_pure _ _ | exact refFirst2_pure _ _) ?_; conv => whnf)
    | fail)
  all_goals first
    | exact ⟨PLe.of_eq (congrArg I (ret _ _ (by first | exact (if_pos (by omega)).symm | exact (if_neg (by omega)).symm) (by first | exact (if_pos (by omega)).symm | exact (if_neg (by omega)).symm) (by assumption)))⟩
    | refine ⟨AWp.le ?_ (go _ _ (by first | exact (if_pos (by omega)).symm | exact (if_neg (by omega)).symm) (by first | exact (if_pos (by omega)).symm | exact (if_neg (by omega)).symm) (by assumption))⟩
  all_goals
    skip
    · refine SLe.of [] [] rfl rfl ?_
      conv => whnf
      repeat' (first
      | exact True.intro
      | (refine SAnd.mk (PLe.refl _) ?_; conv => whnf))
theorem refBox_pure {m : Int} (b : Bx) : APure (C m) 21 [.agg (bc b)] (I (boxE b)) := by
  have e : ∀ a : Int, a = (if b.hi.x < b.lo.x ∨ b.hi.y < b.lo.y then 11 else 0) → firstOf [ptE b.lo, ptE b.hi, a] = boxE b := fun a h => by rw [h]; rfl
  refine APure.of_body good [] (fn := Tryz.f21) (by kernel_rfl) (by kernel_rfl) rfl rfl (by kernel_rfl) rfl (by kernel_rfl) ?_
  conv => whnf
  repeat' (first
    | (refine SBool.mk (fun h => ?_) (fun h => ?_) <;> conv => whnf)
    | (refine SEx.mk _ (by first | exact refPoint_pure b.lo | exact refPoint_pure b.hi | exact refWhen_pure _ _ | exact refFirst3_pure _ _ _) ?_; conv => whnf)
    | (refine SAnd.mk (by first | exact rfl | kernel_rfl | omega | decide | exact refPoint_pure b.lo | exact refPoint_pure b.hi | exact refWhen_pure _ _ | exact refFirst3_pure _ _ _) ?_; conv => whnf)
    | fail)
  all_goals exact ⟨PLe.of_eq (congrArg I (e _ (by first | exact (if_pos (by omega)).symm | exact (if_neg (by omega)).symm)))⟩
theorem refCorners_pure {m : Int} (b : Bx) : APure (C m) 103 [.agg (bc b)] (.seq 2 ((four b).map pc)) := by
  refine APure.of_body good [] (fn := Tryz.f103) (by kernel_rfl) (by kernel_rfl) rfl rfl (by kernel_rfl) rfl (by kernel_rfl) ?_
  conv => whnf
  repeat' (first
    | fail)
  exact ⟨PLe.refl _⟩
theorem refSize_step {l : List Pt} (hf : ∀ q ∈ l, q.Fit) (hl : 0 < l.length) {k : Nat} (hk : k ≤ 1000) : wrapK IntKind.i64 (wrapK IntKind.i64 (sizeI l k + wrapK IntKind.i64 ((cor l k).x * (cor l (k + 1)).y)) - wrapK IntKind.i64 ((cor l (k + 1)).x * (cor l k).y)) = sizeI l (k + 1) := by
  have ih := size_fit hf hl k
  have h1 := hf _ (cor_mem hl k)
  have h2 := hf _ (cor_mem hl (k + 1))
  have m1 : ((cor l k).x * (cor l (k + 1)).y).natAbs ≤ 1000000000000 := by
    rw [Int.natAbs_mul]
    exact Nat.le_trans (Nat.mul_le_mul h1.x h2.y) (by decide)
  have m2 : ((cor l (k + 1)).x * (cor l k).y).natAbs ≤ 1000000000000 := by
    rw [Int.natAbs_mul]
    exact Nat.le_trans (Nat.mul_le_mul h2.x h1.y) (by decide)
  have e : sizeI l (k + 1) = sizeI l k + ((cor l k).x * (cor l (k + 1)).y - (cor l (k + 1)).x * (cor l k).y) := rfl
  rw [e]
  clear e
  have hk2 : k * 2000000000000 ≤ 2000000000000000 := by omega
  generalize (cor l k).x * (cor l (k + 1)).y = a at *
  generalize (cor l (k + 1)).x * (cor l k).y = b at *
  generalize sizeI l k = c at *
  rw [w64 (n := a) (by omega), w64 (n := b) (by omega), w64 (n := c + a) (by omega), w64 (n := c + a - b) (by omega)]
  omega
theorem refSize_pure {m : Int} (l : List Pt) (h0 : 0 < l.length) (hl : l.length ≤ 1000) (hf : ∀ q ∈ l, q.Fit) : APure (C m) 23 [.seq 2 (l.map pc)] (I (sizeI l l.length)) := by
  refine APure.of_body good [] (fn := Tryz.f23) (by kernel_rfl) (by kernel_rfl) rfl rfl (by kernel_rfl) rfl (by kernel_rfl) ?_
  conv => whnf
  refine ⟨AWp.loop (ι := { k : Nat // k ≤ l.length }) (fun k => ⟨[(4, .p (I k.1)), (3, .p (I (sizeI l k.1))), (0, .p (.seq 2 (l.map pc)))], [], [], 0, [], [], []⟩) (fun k => l.length - k.1) ⟨0, by simp⟩ ?_ ?_⟩
  · skip
    · refine SLe.of [] [] rfl rfl ?_
      conv => whnf
      repeat' (first
      | exact True.intro
      | (refine SAnd.mk (PLe.refl _) ?_; conv => whnf))
  · rintro ⟨k, hk⟩
    refine codeK_sound good (mu := []) ?_
    conv => whnf
    refine SBool.mk (fun hcn => ?_) (fun hcn => ?_)
    · have hkl : k < l.length := by simpa using hcn
      have hs0 := cor_at hkl
      have hnx := refNext_pure (m := m) l k h0 (by omega)
      have mk : l.length - (k + 1) < l.length - k := by omega
      have hst := refSize_step hf h0 (show k ≤ 1000 by omega)
      have wk : wrapK IntKind.i64 ((k : Int) + 1) = k + 1 := w64 (by omega)
      conv => whnf
      conv => whnf
      repeat' (first
        | (rw [wk]; conv => whnf)
        | (refine SEx.mk _ (by first | exact hs0 | exact hnx) ?_; conv => whnf)
        | (refine SAnd.mk (by first | exact rfl | kernel_rfl | omega | decide | exact hs0 | exact hnx) ?_; conv => whnf)
        | fail)
      refine ⟨⟨k + 1, hkl⟩, mk, ?_⟩
      skip
      · refine SLe.of [] [] rfl rfl ?_
        conv => whnf
        repeat' (first
        | exact True.intro
        | (refine SAnd.mk (PLe.of_eq (congrArg I hst)) ?_; conv => whnf)
        | (refine SAnd.mk (PLe.refl _) ?_; conv => whnf))
    · conv => whnf
      have : k = l.length := by simp at hcn; omega
      subst this
      exact ⟨PLe.refl _⟩
end Go.Proofs.Ab.Area
end
section
/- The reference's Meets. -/
set_option maxRecDepth 100000
set_option linter.unusedVariables false
set_option linter.unusedSimpArgs false
namespace Go.Proofs.Ab.Area
open Go Go.RowKit Go.Proofs.Ab
def lo_ (f : Pt → Int) (l : List Pt) (k : Nat) : Int := ((l.take k).map f).foldl min (f (cor l 0))
def hi_ (f : Pt → Int) (l : List Pt) (k : Nat) : Int := ((l.take k).map f).foldl max (f (cor l 0))
theorem lo_succ (f : Pt → Int) {l : List Pt} {k : Nat} (h : k < l.length) : lo_ f l (k + 1) = min (lo_ f l k) (f (cor l k)) := by
  unfold lo_
  rw [take_map_succ h, List.foldl_append, cor_lt h]
  rfl
theorem hi_succ (f : Pt → Int) {l : List Pt} {k : Nat} (h : k < l.length) : hi_ f l (k + 1) = max (hi_ f l k) (f (cor l k)) := by
  unfold hi_
  rw [take_map_succ h, List.foldl_append, cor_lt h]
  rfl
theorem lo_iff (f : Pt → Int) {l : List Pt} (h0 : 0 < l.length) (c : Int) : ∀ k, k ≤ l.length → (c < lo_ f l k ↔ c < f (cor l 0) ∧ ∀ j, j < k → c < f (cor l j))
  | 0, _ => by unfold lo_; simp
  | k + 1, hk => by
    rw [lo_succ f (by omega), Int.lt_min, lo_iff f h0 c k (by omega)]
    constructor
    · rintro ⟨⟨h1, h2⟩, h3⟩
      refine ⟨h1, fun j hj => ?_⟩
      by_cases e : j = k
      · subst e; exact h3
      · exact h2 j (by omega)
    · rintro ⟨h1, h2⟩
      exact ⟨⟨h1, fun j hj => h2 j (by omega)⟩, h2 k (by omega)⟩
theorem hi_iff (f : Pt → Int) {l : List Pt} (h0 : 0 < l.length) (c : Int) : ∀ k, k ≤ l.length → (hi_ f l k < c ↔ f (cor l 0) < c ∧ ∀ j, j < k → f (cor l j) < c)
  | 0, _ => by unfold hi_; simp
  | k + 1, hk => by
    rw [hi_succ f (by omega), Int.max_lt, hi_iff f h0 c k (by omega)]
    constructor
    · rintro ⟨⟨h1, h2⟩, h3⟩
      refine ⟨h1, fun j hj => ?_⟩
      by_cases e : j = k
      · subst e; exact h3
      · exact h2 j (by omega)
    · rintro ⟨h1, h2⟩
      exact ⟨⟨h1, fun j hj => h2 j (by omega)⟩, h2 k (by omega)⟩
theorem lo_all (f : Pt → Int) {l : List Pt} (h0 : 0 < l.length) (c : Int) : l.all (fun p => decide (c < f p)) = decide (c < lo_ f l l.length) := by
  rw [Bool.eq_iff_iff, List.all_eq_true, decide_eq_true_eq, lo_iff f h0 c _ (Nat.le_refl _)]
  constructor
  · intro h
    exact ⟨by simpa using h _ (cor_mem h0 0), fun j _ => by simpa using h _ (cor_mem h0 j)⟩
  · rintro ⟨_, h⟩ p hp
    obtain ⟨j, hj, rfl⟩ := mem_cor hp
    simpa using h j hj
theorem hi_all (f : Pt → Int) {l : List Pt} (h0 : 0 < l.length) (c : Int) : l.all (fun p => decide (f p < c)) = decide (hi_ f l l.length < c) := by
  rw [Bool.eq_iff_iff, List.all_eq_true, decide_eq_true_eq, hi_iff f h0 c _ (Nat.le_refl _)]
  constructor
  · intro h
    exact ⟨by simpa using h _ (cor_mem h0 0), fun j _ => by simpa using h _ (cor_mem h0 j)⟩
  · rintro ⟨_, h⟩ p hp
    obtain ⟨j, hj, rfl⟩ := mem_cor hp
    simpa using h j hj
/-- A box beyond a side, by the least and the greatest parts. -/
def sideR (l : List Pt) (b : Bx) : Prop := ((hi_ (·.x) l l.length < b.lo.x ∨ b.hi.x < lo_ (·.x) l l.length) ∨ hi_ (·.y) l l.length < b.lo.y) ∨ b.hi.y < lo_ (·.y) l l.length
theorem side_iff {l : List Pt} (h0 : 0 < l.length) (b : Bx) : sideB l b = true ↔ sideR l b := by
  unfold sideB sideR
  rw [hi_all (·.x) h0, lo_all (·.x) h0, hi_all (·.y) h0, lo_all (·.y) h0, Bool.or_eq_true, Bool.or_eq_true, Bool.or_eq_true]
  simp only [decide_eq_true_eq]
def sepR (l : List Pt) (b : Bx) (i : Nat) : Bool := (((decide (cr (cor l i) (cor l (i + 1)) b.lo < 0)) && decide (cr (cor l i) (cor l (i + 1)) ⟨b.hi.x, b.lo.y⟩ < 0)) && decide (cr (cor l i) (cor l (i + 1)) b.hi < 0)) && decide (cr (cor l i) (cor l (i + 1)) ⟨b.lo.x, b.hi.y⟩ < 0)
theorem sep_eq (l : List Pt) (b : Bx) : sepB l b = (List.range l.length).any (sepR l b) := by
  unfold sepB
  congr 1
  funext i
  rw [Bool.eq_iff_iff, List.all_eq_true]
  have := corners_four (b := b) (P := fun p => decide (cr (cor l i) (cor l (i + 1)) p < 0) = true)
  rw [this]
  unfold sepR
  simp only [four, List.mem_cons, List.not_mem_nil, or_false, forall_eq_or_imp, forall_eq, Bool.and_eq_true]
  constructor
  · rintro ⟨h1, h2, h3, h4⟩; exact ⟨⟨⟨h1, h2⟩, h3⟩, h4⟩
  · rintro ⟨⟨⟨h1, h2⟩, h3⟩, h4⟩; exact ⟨h1, h2, h3, h4⟩
noncomputable def c24 : Code := Tryz.f24.body.getD .skip
set_option maxHeartbeats 4000000 in
theorem refMeets2 {m : Int} (l : List Pt) (b : Bx) (h0 : 0 < l.length) (hl : l.length ≤ 1000) (hf : ∀ q ∈ l, q.Fit) (hb : b.Fit) :
    AWp (C m) Tryz.f24.ntmps (pieceAt [1, 1, 1, 1, 1] c24) (endV m [ResultVar.tmp 4] (Bo (!(List.range l.length).any (sepR l b)))) ⟨[(0, .p (.seq 2 (l.map pc))), (8, .p (.seq 2 ((four b).map pc)))], [], [], 0, [], [], []⟩ := by
  have hm : ∀ i, (cor l i).Fit := fun i => hf _ (cor_mem (by omega) i)
  refine codeK_sound good (mu := []) ?_
  conv => whnf
  refine ⟨AWp.loop (ι := { i : Nat // i ≤ l.length ∧ (List.range i).any (sepR l b) = false }) (fun i => ⟨[(9, .p (I i.1)), (0, .p (.seq 2 (l.map pc))), (8, .p (.seq 2 ((four b).map pc)))], [], [], 0, [], [], []⟩) (fun i => l.length - i.1) ⟨0, by simp⟩ ?_ ?_⟩
  · skip
    · refine SLe.of [] [] rfl rfl ?_
      conv => whnf
      repeat' (first
      | exact True.intro
      | (refine SAnd.mk (PLe.refl _) ?_; conv => whnf))
  · rintro ⟨i, hi, hI⟩
    refine codeK_sound good (mu := []) ?_
    conv => whnf
    refine SBool.mk (fun hc1 => ?_) (fun hc1 => ?_)
    · have hil : i < l.length := by simpa using hc1
      have hs0 := cor_at hil
      have hn1 := refNext_pure (m := m) l i (by omega) (by omega)
      have mi : l.length - (i + 1) < l.length - i := by omega
      have wi : wrapK IntKind.i64 ((i : Int) + 1) = i + 1 := w64 (by omega)
      have k1 := refCross_pure (m := m) (cor l i) (cor l (i + 1)) b.lo (hm _) (hm _) hb.lo
      have k2 := refCross_pure (m := m) (cor l i) (cor l (i + 1)) ⟨b.hi.x, b.lo.y⟩ (hm _) (hm _) ⟨hb.hi.x, hb.lo.y⟩
      have k3 := refCross_pure (m := m) (cor l i) (cor l (i + 1)) b.hi (hm _) (hm _) hb.hi
      have k4 := refCross_pure (m := m) (cor l i) (cor l (i + 1)) ⟨b.lo.x, b.hi.y⟩ (hm _) (hm _) ⟨hb.lo.x, hb.hi.y⟩
      have hsr : sepR l b i = ((((decide (cr (cor l i) (cor l (i + 1)) b.lo < 0)) && decide (cr (cor l i) (cor l (i + 1)) ⟨b.hi.x, b.lo.y⟩ < 0)) && decide (cr (cor l i) (cor l (i + 1)) b.hi < 0)) && decide (cr (cor l i) (cor l (i + 1)) ⟨b.lo.x, b.hi.y⟩ < 0)) := rfl
      have yes : sepR l b i = true → (!(List.range l.length).any (sepR l b)) = false := fun h => by rw [range_any_true hil h]; rfl
      have nxt : sepR l b i = false → (List.range (i + 1)).any (sepR l b) = false := fun h => by rw [range_any, hI, h]; rfl
      generalize cr (cor l i) (cor l (i + 1)) b.lo = v1 at k1 hsr
      generalize cr (cor l i) (cor l (i + 1)) ⟨b.hi.x, b.lo.y⟩ = v2 at k2 hsr
      generalize cr (cor l i) (cor l (i + 1)) b.hi = v3 at k3 hsr
      generalize cr (cor l i) (cor l (i + 1)) ⟨b.lo.x, b.hi.y⟩ = v4 at k4 hsr
      conv => whnf
      conv => whnf
      repeat' (first
        | (refine codeK_sound good (mu := []) ?_; conv => whnf)
        | ((first | rw [wl0] | rw [wl1] | rw [wl2] | rw [wl3] | rw [wl4] | rw [wl5]); conv => whnf)
        | (rw [wi]; conv => whnf)
        | (refine SBool.mk (fun _ => ?_) (fun h => absurd (of_decide_eq_true rfl) h); conv => whnf)
        | (refine SBool.mk (fun h => absurd h (of_decide_eq_false rfl)) (fun _ => ?_); conv => whnf)
        | (refine SBool.mk (fun h => ?_) (fun h => ?_) <;> conv => whnf)
        | refine SCode.mk (AWp.rounds 5 ?_)
        | (refine SEx.mk _ (by first | exact hs0 | exact hn1 | exact k1 | exact k2 | exact k3 | exact k4) ?_; conv => whnf)
        | (refine SEx.mk _ (by first | exact rfl | exact ⟨of_decide_eq_true rfl, rfl⟩) ?_; conv => whnf)
        | (refine SAnd.mk (by first | exact rfl | kernel_rfl | omega | decide | exact hs0 | exact hn1 | exact k1 | exact k2 | exact k3 | exact k4) ?_; conv => whnf)
        | fail)
      all_goals first
        | exact ⟨PLe.of_eq (congrArg Bo (yes (by rw [hsr, decide_eq_true (show v1 < 0 by assumption), decide_eq_true (show v2 < 0 by assumption), decide_eq_true (show v3 < 0 by assumption), decide_eq_true (show v4 < 0 by assumption)]; rfl)).symm)⟩
        | skip
      all_goals
        refine ⟨⟨i + 1, hil, nxt (by
          rw [hsr]
          first
            | (rw [decide_eq_false (show ¬ v1 < 0 by assumption)]; rfl)
            | (rw [decide_eq_false (show ¬ v2 < 0 by assumption), Bool.and_false]; rfl)
            | (rw [decide_eq_false (show ¬ v3 < 0 by assumption), Bool.and_false]; rfl)
            | (rw [decide_eq_false (show ¬ v4 < 0 by assumption), Bool.and_false]))⟩, mi, ?_⟩
        skip
        · refine SLe.of [] [] rfl rfl ?_
          conv => whnf
          repeat' (first
          | exact True.intro
          | (refine SAnd.mk (PLe.refl _) ?_; conv => whnf))
    · conv => whnf
      have : i = l.length := by simp at hc1; omega
      subst this
      exact ⟨PLe.of_eq (congrArg Bo (by rw [hI]; rfl))⟩
set_option maxHeartbeats 4000000 in
theorem refMeets_pure {m : Int} (l : List Pt) (b : Bx) (h0 : 0 < l.length) (hl : l.length ≤ 1000) (hf : ∀ q ∈ l, q.Fit) (hb : b.Fit) : APure (C m) 24 [.seq 2 (l.map pc), .agg (bc b)] (Bo (meetsB l b)) := by
  have go := refMeets2 (m := m) l b h0 hl hf hb
  rw [← sep_eq] at go
  have hz := cor_at h0
  have yes : sideR l b → meetsB l b = false := fun h => by unfold meetsB; rw [(side_iff h0 b).2 h]; simp
  have no : ¬ sideR l b → meetsB l b = !sepB l b := fun h => by
    have : sideB l b = false := by
      cases e : sideB l b with
      | false => rfl
      | true => exact absurd ((side_iff h0 b).1 e) h
    unfold meetsB
    rw [this]; simp
  unfold sideR at yes no
  refine APure.of_wp good (fn := Tryz.f24) (by kernel_rfl) (by kernel_rfl) rfl rfl (by kernel_rfl) rfl (by kernel_rfl) ?_
  refine codeN_sound good (mu := []) (n := 5) ?_
  conv => whnf
  repeat' (first
    | (refine SEx.mk _ (by first | exact hz) ?_; conv => whnf)
    | (refine SAnd.mk (by first | exact rfl | kernel_rfl | omega | decide | exact hz) ?_; conv => whnf)
    | fail)
  refine ⟨AWp.loop (ι := { k : Nat // k ≤ l.length }) (fun k => ⟨[(7, .p (I k.1)), (6, .box 1 0), (5, .box 0 0), (3, .p (.ref (bc b))), (0, .p (.seq 2 (l.map pc)))], [(0, (24, [I (lo_ (·.x) l k.1), I (lo_ (·.y) l k.1)])), (1, (24, [I (hi_ (·.x) l k.1), I (hi_ (·.y) l k.1)]))], [], 2, [], [], []⟩) (fun k => l.length - k.1) ⟨0, by simp⟩ ?_ ?_⟩
  · skip
    · refine SLe.of [(0, 6), (1, 7)] [] rfl rfl ?_
      conv => whnf
      repeat' (first
      | exact True.intro
      | (refine SAnd.mk (PLe.refl _) ?_; conv => whnf)
      | (refine SAnd.mk (PLeL.refl _) ?_; conv => whnf))
  · rintro ⟨k, hk⟩
    refine codeK_sound good (mu := []) ?_
    conv => whnf
    refine SBool.mk (fun hcn => ?_) (fun hcn => ?_)
    · have hkl : k < l.length := by simpa using hcn
      have hs0 := cor_at hkl
      have mk : l.length - (k + 1) < l.length - k := by omega
      have e1 := lo_succ (·.x) hkl
      have e2 := lo_succ (·.y) hkl
      have e3 := hi_succ (·.x) hkl
      have e4 := hi_succ (·.y) hkl
      have wk : wrapK IntKind.i64 ((k : Int) + 1) = k + 1 := w64 (by omega)
      conv => whnf
      conv => whnf
      repeat' (first
        | (rw [wk]; conv => whnf)
        | (refine SEx.mk _ (by first | exact hs0) ?_; conv => whnf)
        | (refine SAnd.mk (by first | exact rfl | kernel_rfl | omega | decide | exact hs0) ?_; conv => whnf)
        | fail)
      refine ⟨⟨k + 1, hkl⟩, mk, ?_⟩
      skip
      · refine SLe.of [(0, 0), (1, 1)] [] rfl rfl ?_
        conv => whnf
        repeat' (first
        | exact True.intro
        | (refine SAnd.mk (PLeL.cons (PLe.of_eq (congrArg I e1.symm)) (PLeL.cons (PLe.of_eq (congrArg I e2.symm)) PLeL.nil)) ?_; conv => whnf)
        | (refine SAnd.mk (PLeL.cons (PLe.of_eq (congrArg I e3.symm)) (PLeL.cons (PLe.of_eq (congrArg I e4.symm)) PLeL.nil)) ?_; conv => whnf)
        | (refine SAnd.mk (PLe.refl _) ?_; conv => whnf))
    · have : k = l.length := by simp at hcn; omega
      subst this
      conv => whnf
      repeat' (first
        | (refine SBool.mk (fun h => ?_) (fun h => ?_) <;> conv => whnf)
        | (refine SEx.mk _ (by first | exact refCorners_pure b) ?_; conv => whnf)
        | fail)
      all_goals first
        | exact ⟨PLe.of_eq (congrArg Bo (yes (.inl (.inl (.inl (by assumption))))).symm)⟩
        | exact ⟨PLe.of_eq (congrArg Bo (yes (.inl (.inl (.inr (by assumption))))).symm)⟩
        | exact ⟨PLe.of_eq (congrArg Bo (yes (.inl (.inr (by assumption)))).symm)⟩
        | exact ⟨PLe.of_eq (congrArg Bo (yes (.inr (by assumption))).symm)⟩
        | skip
      rw [no (by rintro (((h | h) | h) | h) <;> exact absurd h (by assumption))]
      refine ⟨AWp.le ?_ go⟩
      skip
      · refine SLe.of [] [] rfl rfl ?_
        conv => whnf
        repeat' (first
        | exact True.intro
        | (refine SAnd.mk (PLe.refl _) ?_; conv => whnf))
end Go.Proofs.Ab.Area
end
section
/- The law of the shapes, given that the program is awake. -/
set_option maxRecDepth 100000
set_option linter.unusedVariables false
set_option linter.unusedSimpArgs false
namespace Go.Proofs.Ab.Area
open Go Go.RowKit Go.Proofs.Ab
theorem points_pure {m : Int} (l : List Pt) (hl : l.length ≤ 1000000) : APure (C m) 15 [.seq 2 (l.map pc)] (.seq 2 (l.map pc)) := by
  have hbd : (l.map pc).length ≤ 1000000 := by simpa using hl
  have hone : ∀ c ∈ (l.map pc).flatten, c.one = true := fun c hc => by
    simp only [List.mem_flatten, List.mem_map] at hc
    obtain ⟨x, ⟨p, _, rfl⟩, hx⟩ := hc
    simp at hx
    rcases hx with rfl | rfl <;> rfl
  have hbds : (∀ c ∈ (l.map pc).flatten, c.one = true) ∧ (([] : List (List PV)).length + (l.map pc).length) * 16 ≤ 140737488355328 ∧ ([] : List (List PV)).length + (l.map pc).length ≤ 9223372036854775807 := ⟨hone, by simp only [List.length_nil]; omega, by simp only [List.length_nil]; omega⟩
  refine APure.of_body good [1003] (fn := Tryz.f15) (by kernel_rfl) (by kernel_rfl) rfl rfl (by kernel_rfl) rfl (by kernel_rfl) ?_
  conv => whnf
  repeat' (first
    | (refine codeK_sound good (mu := [1003]) ?_; conv => whnf)
    | ((first | rw [wl0] | rw [wl1] | rw [wl2] | rw [wl3] | rw [wl4] | rw [wl5]); conv => whnf)
    | (refine SBool.mk (fun _ => ?_) (fun h => absurd (of_decide_eq_true rfl) h); conv => whnf)
    | (refine SBool.mk (fun h => absurd h (of_decide_eq_false rfl)) (fun _ => ?_); conv => whnf)
    | (refine SBool.mk (fun h => ?_) (fun h => ?_) <;> conv => whnf)
    | (refine SEx.mk _ (by first | exact hbds) ?_; conv => whnf)
    | (refine SEx.mk _ (by first | exact rfl | exact ⟨of_decide_eq_true rfl, rfl⟩) ?_; conv => whnf)
    | (refine SAll.mk (fun _ => ?_); conv => whnf)
    | (refine SAnd.mk (by first | exact hbds) ?_; conv => whnf)
    | (refine SAnd.mk ⟨by intro c hc; simp at hc; first | (subst hc; rfl) | ((repeat' (rcases hc with rfl | hc)) <;> first | rfl | (subst hc; rfl)), by (simp; first | done | omega), by (simp; first | done | omega)⟩ ?_; conv => whnf)
    | (refine SAnd.mk (by first | exact rfl | kernel_rfl | omega | decide | exact hbds) ?_; conv => whnf)
    | fail)
  exact ⟨PLe.refl _⟩
theorem lawFirst_pure {m : Int} (xs : List Int) (hl : xs.length ≤ 1000000) : APure (C m) 19 [ints xs] (I (firstOf xs)) := by
  have h1 := refFirst_pure (m := m) xs (by omega)
  refine APure.of_body good [] (fn := Tryz.f19) (by kernel_rfl) (by kernel_rfl) rfl rfl (by kernel_rfl) rfl (by kernel_rfl) ?_
  conv => whnf
  repeat' (first
    | (refine codeK_sound good (mu := []) ?_; conv => whnf)
    | ((first | rw [wl0] | rw [wl1] | rw [wl2] | rw [wl3] | rw [wl4] | rw [wl5]); conv => whnf)
    | (refine SBool.mk (fun _ => ?_) (fun h => absurd (of_decide_eq_true rfl) h); conv => whnf)
    | (refine SBool.mk (fun h => absurd h (of_decide_eq_false rfl)) (fun _ => ?_); conv => whnf)
    | (refine SBool.mk (fun h => ?_) (fun h => ?_) <;> conv => whnf)
    | (refine SEx.mk _ (by first | exact h1) ?_; conv => whnf)
    | (refine SEx.mk _ (by first | exact rfl | exact ⟨of_decide_eq_true rfl, rfl⟩) ?_; conv => whnf)
    | (refine SAll.mk (fun _ => ?_); conv => whnf)
    | (refine SAnd.mk (by first | exact h1) ?_; conv => whnf)
    | (refine SAnd.mk ⟨by intro c hc; simp at hc; first | (subst hc; rfl) | ((repeat' (rcases hc with rfl | hc)) <;> first | rfl | (subst hc; rfl)), by (simp; first | done | omega), by (simp; first | done | omega)⟩ ?_; conv => whnf)
    | (refine SAnd.mk (by first | exact rfl | kernel_rfl | omega | decide | exact h1) ?_; conv => whnf)
    | fail)
  exact ⟨PLe.refl _⟩
theorem eql_bool {m : Int} (a b : Bool) : ∀ w, (binOp .eql 4 (.bool a) (.bool b)).run (C m).P w = .ok (.bool (a == b)) w := fun w => run_eql_bool w 4 a b (by kernel_rfl)
theorem eql_same {m : Int} (a : Bool) : ∀ w, (binOp .eql 4 (.bool a) (.bool a)).run (C m).P w = .ok (.bool true) w := fun w => by rw [eql_bool]; cases a <;> rfl
theorem eql_false {m : Int} {a : Bool} (h : a = false) : ∀ w, (binOp .eql 4 (.bool a) (.bool false)).run (C m).P w = .ok (.bool true) w := fun w => by subst h; exact eql_same _ w
section
attribute [local irreducible] APure
set_option maxHeartbeats 8000000 in
theorem AreaShapes_parts {m : Int} (l : List Pt) (p : Pt) (b : Bx) (b1 b2 : Bool) (e1 e3 bad s pe be : Int) (hw : APure (C m) 13 [] (Bo true)) (hlen : ¬ 9 < (((l.map pc).length : Nat) : Int))
    (c15 : APure (C m) 15 [.seq 2 (l.map pc)] (.seq 2 (l.map pc))) (c14 : APure (C m) 14 [.seq 2 (l.map pc), .agg (pc p)] (.tup [Bo b1, I e1])) (c16 : APure (C m) 16 [.seq 2 (l.map pc)] (.tup [I s, I bad])) (c17 : APure (C m) 17 [.seq 2 (l.map pc), .agg (bc b)] (.tup [Bo b2, I e3]))
    (c18 : APure (C m) 18 [.seq 2 (l.map pc)] (I bad)) (c20 : APure (C m) 20 [.agg (pc p)] (I pe)) (c21 : APure (C m) 21 [.agg (bc b)] (I be)) (c19a : APure (C m) 19 [.seq 1 [[I bad], [I pe]]] (I e1)) (c19b : APure (C m) 19 [.seq 1 [[I bad], [I be]]] (I e3))
    (c22 : e1 = 0 → APure (C m) 22 [.seq 2 (l.map pc), .agg (pc p)] (Bo b1)) (n1 : e1 ≠ 0 → b1 = false) (c23 : bad = 0 → APure (C m) 23 [.seq 2 (l.map pc)] (I s)) (n2 : bad ≠ 0 → s = 0) (c24 : e3 = 0 → APure (C m) 24 [.seq 2 (l.map pc), .agg (bc b)] (Bo b2)) (n3 : e3 ≠ 0 → b2 = false)
    (c25 : APure (C m) 25 [.seq 2 (l.map pc)] (I bad)) : APure (C m) 3 [.seq 2 (l.map pc), .agg (pc p), .agg (bc b)] (Bo true) := by
  refine APure.of_body good [] (fn := Tryz.f3) (by kernel_rfl) (by kernel_rfl) rfl rfl (by kernel_rfl) rfl (by kernel_rfl) ?_
  conv => whnf
  repeat' (first
    | (refine codeK_sound good (mu := []) ?_; conv => whnf)
    | ((first | rw [wl0] | rw [wl1] | rw [wl2] | rw [wl3] | rw [wl4] | rw [wl5]); conv => whnf)
    | (refine SBool.mk (fun _ => ?_) (fun h => absurd (of_decide_eq_true rfl) h); conv => whnf)
    | (refine SBool.mk (fun h => absurd h (of_decide_eq_false rfl)) (fun _ => ?_); conv => whnf)
    | (refine SBool.mk (fun h => ?_) (fun h => ?_) <;> conv => whnf)
    | (refine SEx.mk _ (by first | exact hw | exact c15 | exact c14 | exact c16 | exact c17 | exact c18 | exact c20 | exact c21 | exact c19a | exact c19b | exact c22 (by assumption) | exact c23 (by assumption) | exact c24 (by assumption) | exact c25 | exact eql_same _ | exact eql_false (n1 (by assumption)) | exact eql_false (n3 (by assumption))) ?_; conv => whnf)
    | (refine SEx.mk _ (by first | exact rfl | exact ⟨of_decide_eq_true rfl, rfl⟩) ?_; conv => whnf)
    | (refine SAll.mk (fun _ => ?_); conv => whnf)
    | (refine SAnd.mk (by first | exact hw) ?_; conv => whnf)
    | (refine SAnd.mk ⟨by intro c hc; simp at hc; first | (subst hc; rfl) | ((repeat' (rcases hc with rfl | hc)) <;> first | rfl | (subst hc; rfl)), by (simp; first | done | omega), by (simp; first | done | omega)⟩ ?_; conv => whnf)
    | (refine SAnd.mk (by first | exact rfl | kernel_rfl | omega | decide | exact hw | exact c15 | exact c14 | exact c16 | exact c17 | exact c18 | exact c20 | exact c21 | exact c19a | exact c19b | exact c22 (by assumption) | exact c23 (by assumption) | exact c24 (by assumption) | exact c25 | exact eql_same _ | exact eql_false (n1 (by assumption)) | exact eql_false (n3 (by assumption))) ?_; conv => whnf)
    | fail)
  all_goals first
    | exact ⟨PLe.refl _⟩
    | exact absurd (by assumption) hlen
    | exact absurd rfl (by assumption)
    | exact absurd (n2 (by assumption)) (by assumption)
end
end Go.Proofs.Ab.Area
end
section
/- The law of the shapes. -/
set_option maxRecDepth 100000
set_option linter.unusedVariables false
set_option linter.unusedSimpArgs false
namespace Go.Proofs.Ab.Area
open Go Go.RowKit Go.Proofs.Ab
theorem box_fit' {b : Bx} (h : boxE b = 0) : b.Fit := by
  unfold boxE at h
  rw [firstOf_zero, firstOf_zero] at h
  exact ⟨fit_of h.1, fit_of h.2.1⟩
theorem poly_pos {l : List Pt} (h : polyE l = 0) : 0 < l.length := by
  have := (polyE_zero.1 h).conv.n3
  omega
theorem AreaShapes_pure {m : Int} (l : List Pt) (p : Pt) (b : Bx) : APure (C m) 3 [.seq 2 (l.map pc), .agg (pc p), .agg (bc b)] (Bo true) := by
  by_cases hbig : 9 < l.length
  · have hx : 9 < (((l.map pc).length : Nat) : Int) := by rw [List.length_map]; omega
    refine APure.of_body good [] (fn := Tryz.f3) (by kernel_rfl) (by kernel_rfl) rfl rfl (by kernel_rfl) rfl (by kernel_rfl) ?_
    conv => whnf
    repeat' (first
      | (refine codeK_sound good (mu := []) ?_; conv => whnf)
      | ((first | rw [wl0] | rw [wl1] | rw [wl2] | rw [wl3] | rw [wl4] | rw [wl5]); conv => whnf)
      | (refine SBool.mk (fun _ => ?_) (fun h => absurd (of_decide_eq_true rfl) h); conv => whnf)
      | (refine SBool.mk (fun h => absurd h (of_decide_eq_false rfl)) (fun _ => ?_); conv => whnf)
      | (refine SBool.mk (fun h => ?_) (fun h => ?_) <;> conv => whnf)
      | (refine SEx.mk _ (by first | exact awake_pure) ?_; conv => whnf)
      | (refine SEx.mk _ (by first | exact rfl | exact ⟨of_decide_eq_true rfl, rfl⟩) ?_; conv => whnf)
      | (refine SAll.mk (fun _ => ?_); conv => whnf)
      | (refine SAnd.mk ⟨by intro c hc; simp at hc; first | (subst hc; rfl) | ((repeat' (rcases hc with rfl | hc)) <;> first | rfl | (subst hc; rfl)), by (simp; first | done | omega), by (simp; first | done | omega)⟩ ?_; conv => whnf)
      | (refine SAnd.mk (by first | exact rfl | kernel_rfl | omega | decide | exact awake_pure) ?_; conv => whnf)
      | fail)
    · exact ⟨PLe.refl _⟩
    all_goals exact absurd hx (by assumption)
  · have hl : l.length ≤ 1000 := by omega
    have f1 : APure (C m) 19 [.seq 1 [[I (polyE l)], [I (ptE p)]]] (I (inE l p)) := lawFirst_pure [polyE l, ptE p] (by simp)
    have f2 : APure (C m) 19 [.seq 1 [[I (polyE l)], [I (boxE b)]]] (I (meetsE l b)) := lawFirst_pure [polyE l, boxE b] (by simp)
    refine AreaShapes_parts l p b (inR l p) (meetsR l b) (inE l p) (meetsE l b) (polyE l) (sizeR l) (ptE p) (boxE b) awake_pure (by rw [List.length_map]; omega) (points_pure l (by omega)) (In_pure l p hl) (Size_pure l hl) (Meets_pure l b hl) (refPolygon_pure l hl) (refPoint_pure p) (refBox_pure b) f1 f2 (fun h => ?_) (fun h => ?_) (fun h => ?_) (fun h => ?_) (fun h => ?_) (fun h => ?_) (CheckPolygon_pure l hl)
    · have h' := h
      unfold inE at h'
      rw [firstOf_zero, firstOf_zero] at h'
      have := refIn_pure (m := m) l p hl (poly_fit h'.1).2 (fit_of h'.2.1)
      unfold inR
      rw [if_pos h]
      exact this
    · unfold inR
      rw [if_neg h]
    · have := refSize_pure (m := m) l (poly_pos h) hl (poly_fit h).2
      unfold sizeR
      rw [if_pos h]
      exact this
    · unfold sizeR
      rw [if_neg h]
    · have h' := h
      unfold meetsE at h'
      rw [firstOf_zero, firstOf_zero] at h'
      have := refMeets_pure (m := m) l b (poly_pos h'.1) hl (poly_fit h'.1).2 (box_fit' h'.2.1)
      unfold meetsR
      rw [if_pos h]
      exact this
    · unfold meetsR
      rw [if_neg h]
end Go.Proofs.Ab.Area
end
section
/- AreaShapes: for every list of points, point and box the program's CheckPolygon, In, Size and Meets, or their errors, are the reference's: the law returns true. (Longer lists are left out by the law itself, but for one corner too many; the listed variables are as the program's text lays them.) -/
set_option maxRecDepth 100000
set_option linter.unusedVariables false
set_option linter.unusedSimpArgs false
namespace Go.Proofs.YtlgkijilmpjdmaaGreatDoor
open Go Go.RowKit Go.Proofs.Ab Go.Proofs.Ab.Area
theorem areaShapes_lifted (os : Os) (started : os.Started) (H : Type) (enc : TypeId × Value → H) :
    ReturnsInHanded {} Tryz.checked os 3 .any (fun w args => (Rows.areaShapesSpec.pre enc Tryz.prog Tryz.f3 [] false w args ∧ laidMetH Tryz.prog listed w) ∧ sizedMet enc Tryz.prog Tryz.f3 (OpenSpec.ofChange Rows.areaShapesSpec) false w args)
      (Rows.areaShapesSpec.post enc Tryz.prog Tryz.f3 false true false false) := by
  refine lifted_of started (by as_aux_lemma => kernel_rfl) Tryz.func3 (ss := [(false, [.sl ptSh]), (true, ptSh), (true, boxSh)])
    (witness #[.slice none 0 0, .agg #[.int .i64 0, .int .i64 0], .agg #[.int .i64 0, .int .i64 0, .int .i64 0, .int .i64 0]] (by as_aux_lemma => kernel_rfl) (by as_aux_lemma => kernel_rfl) (by as_aux_lemma => kernel_rfl) (World.shaped_of_ZipB (by as_aux_lemma => kernel_rfl) (by as_aux_lemma => kernel_rfl)) (laidMet_laidAll _ (by as_aux_lemma => kernel_rfl) (by as_aux_lemma => kernel_rfl)))
    ?_ (by as_aux_lemma => kernel_rfl) (by as_aux_lemma => kernel_rfl) rfl ?_ ?_
  · rw [Tryz.params3]
    intro t ht
    have hall : ([22, 24, 26].all fun u => Tryz.prog.readableRec u && decide (u < Tryz.prog.types.size)) = true := by as_aux_lemma => kernel_rfl
    have := List.all_eq_true.1 hall t (by simpa using ht)
    rw [Bool.and_eq_true, decide_eq_true_eq] at this
    exact this
  · rw [Tryz.params3]
    intro ds hd
    match ds, hd with
    | [d0, d1, d2], _ => exact ⟨rfl, rfl, rfl⟩
  · intro m xs h
    obtain ⟨x0, xs, rfl, h0, h⟩ := h.uncons
    obtain ⟨x1, xs, rfl, h1, h⟩ := h.uncons
    obtain ⟨x2, xs, rfl, h2, h⟩ := h.uncons
    obtain rfl := h.unnil
    obtain ⟨l, rfl⟩ := fit_pts h0
    obtain ⟨p, rfl⟩ := fit_pt h1
    obtain ⟨b, rfl⟩ := fit_box h2
    exact AreaShapes_pure l p b
set_option maxHeartbeats 40000000 in
theorem areaShapes_facts : joinedFacts Tryz.pinned.checked.prog 3 Tryz.f3 Rows.areaShapesSpec Rows.areaShapesRow = true := by
  unfold joinedFacts
  simp only [Bool.and_eq_true]
  repeat' apply And.intro
  all_goals as_aux_lemma => kernel_rfl
theorem areaShapes_row : Rows.AreaShapesSaid :=
  OpenClaim.holds_of_wide 3 Tryz.f3 rfl rfl rfl rfl rfl rfl rfl ⟨rfl, rfl, rfl, rfl, rfl⟩ rfl rfl rfl rfl rfl (by as_aux_lemma => kernel_rfl) Tryz.func3 areaShapes_facts
    (of_decide_eq_true (by as_aux_lemma => kernel_rfl)) (by as_aux_lemma => unfold Func.isWrapper; first | (rw [if_pos (by decide +kernel)]; kernel_rfl) | (rw [if_neg (by decide +kernel)]; exact ⟨rfl, rfl⟩))
    (fun os started H enc _ => areaShapes_lifted os started H enc)
theorem areaShapes_named : Tryz.prog.funcNamed "glideslope/glideslopelaw05.AreaShapes" = some 3 := by kernel_rfl
theorem areaShapes_holds : Rows.AreaShapesCardSaid :=
  Claim7.holds_tied_plain_at .later [] [.data, .data, .data, .data, .pinned] true (true, "8d132721e60c3e414474b7b7d1fa76c26332388e2b61df2dc171e81fefcccd9a") false areaShapes_row (fun _ h => by cases h) (by as_aux_lemma => kernel_rfl) (fun _ h => by cases h) areaShapes_row_tie rfl ⟨rfl, rfl⟩ (by as_aux_lemma => kernel_rfl) rfl
    (fun f fn hf hfn => by
      obtain rfl : f = 3 := Option.some.inj (areaShapes_named.symm.trans hf) |>.symm
      obtain rfl : fn = Tryz.f3 := (Option.some.inj (Tryz.func3.symm.trans hfn)).symm
      exact ⟨by as_aux_lemma => kernel_rfl, fun j t ht => by
        rw [Tryz.params3] at ht
        have hm : t ∈ [22, 24, 26] := by simpa using Array.mem_of_getElem? ht
        have hall : ([22, 24, 26].all fun u => !Tryz.prog.wantsStandIn u) = true := by as_aux_lemma => kernel_rfl
        exact (show Tryz.prog.wantsStandIn t = false by simpa using List.all_eq_true.1 hall t hm)⟩)
    (by as_aux_lemma => kernel_rfl)
#print axioms areaShapes_holds
end Go.Proofs.YtlgkijilmpjdmaaGreatDoor
end
