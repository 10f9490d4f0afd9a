/- The proof of AreaInside (see the last theorem): for every input that can be read the law returns true; the listed package-level variables are as the program's text lays them. -/
import Derived.Test.YtlgkijilmpjdmaaGreatDoorK6
section
/- The shapes of the laws' parameters. -/
set_option maxRecDepth 100000
set_option linter.unusedVariables false
set_option linter.unusedSimpArgs false
namespace Go.Proofs.Ab.Area
open Go Go.RowKit Go.Proofs.Ab
end Go.Proofs.Ab.Area
end
section
/- The shapes of tables and orders. -/
set_option maxRecDepth 100000
set_option linter.unusedVariables false
set_option linter.unusedSimpArgs false
namespace Go.Proofs.Ab.Area
open Go Go.RowKit Go.Proofs.Ab
end Go.Proofs.Ab.Area
end
section
/- The reference's CheckPolygon, Size, CheckBox and Meets. -/
set_option maxRecDepth 100000
set_option linter.unusedVariables false
set_option linter.unusedSimpArgs false
namespace Go.Proofs.Ab.Area
open Go Go.RowKit Go.Proofs.Ab
theorem firstM_drop {α : Type} (f : α → Int) {xs : List α} {k : Nat} (h : k < xs.length) : firstOf ((xs.drop k).map f) = if f xs[k] = 0 then firstOf ((xs.drop (k + 1)).map f) else f xs[k] := by
  rw [List.drop_eq_getElem_cons h]
  rfl
theorem firstOf_one (x : Int) : firstOf [x] = x := by
  simp only [firstOf]
  split
  · rename_i h; exact h.symm
  · rfl
theorem refPoly1 {m : Int} (l : List Pt) (h3 : 3 ≤ l.length) (hl : l.length ≤ 1000) :
    AWp (C m) Tryz.f18.ntmps (pieceAt [1, 1] c18) (endV m [ResultVar.tmp 2] (I (if firstOf (l.map ptE) = 0 then (if (List.range l.length).any (badB l) then 1 else 0) else firstOf (l.map ptE)))) ⟨[(0, .p (.seq 2 (l.map pc)))], [], [], 0, [], [], []⟩ := by
  refine codeN_sound good (mu := []) (n := 1) ?_
  conv => whnf
  refine ⟨AWp.loop (ι := { k : Nat // k ≤ l.length ∧ firstOf (l.map ptE) = firstOf ((l.drop k).map ptE) }) (fun k => ⟨[(4, .p (I k.1)), (0, .p (.seq 2 (l.map pc)))], [], [], 0, [], [], []⟩) (fun k => l.length - k.1) ⟨0, by simp⟩ ?_ ?_⟩
  · skip
    · refine SLe.of [] [] rfl rfl ?_
      conv => whnf
      repeat' (first
      | exact True.intro
      | (refine SAnd.mk (PLe.refl _) ?_; conv => whnf))
  · rintro ⟨k, hk, he⟩
    refine codeK_sound good (mu := []) ?_
    conv => whnf
    refine SBool.mk (fun hcn => ?_) (fun hcn => ?_)
    · have hkl : k < l.length := by simpa using hcn
      have hs0 : 0 ≤ (k : Int) ∧ (l.map pc)[((k : Int)).toNat]? = some (pc l[k]) := ⟨by omega, by show (l.map pc)[k]? = _; simp [hkl]⟩
      have mk : l.length - (k + 1) < l.length - k := by omega
      have hd := firstM_drop ptE hkl
      have wk : wrapK IntKind.i64 ((k : Int) + 1) = k + 1 := w64 (by omega)
      have hp := refPoint_pure (m := m) l[k]
      generalize ptE l[k] = e at hp hd
      have ret : ¬ e = 0 → (if firstOf (l.map ptE) = 0 then (if (List.range l.length).any (badB l) then (1 : Int) else 0) else firstOf (l.map ptE)) = e := fun h => by rw [he, hd, if_neg h, if_neg h]
      have nxt : e = 0 → firstOf (l.map ptE) = firstOf ((l.drop (k + 1)).map ptE) := fun h => by rw [he, hd, if_pos h]
      conv => whnf
      conv => whnf
      repeat' (first
        | (rw [wk]; conv => whnf)
        | (refine SBool.mk (fun h => ?_) (fun h => ?_) <;> conv => whnf)
        | (refine SEx.mk _ (by first | exact hs0 | exact hp) ?_; conv => whnf)
        | fail)
      all_goals first
        | exact ⟨PLe.of_eq (congrArg I (ret (by assumption)).symm)⟩
        | refine ⟨⟨k + 1, hkl, nxt (by assumption)⟩, mk, ?_⟩
      skip
      · refine SLe.of [] [] rfl rfl ?_
        conv => whnf
        repeat' (first
        | exact True.intro
        | (refine SAnd.mk (PLe.refl _) ?_; conv => whnf))
    · have : k = l.length := by simp at hcn; omega
      subst this
      have hz : firstOf (l.map ptE) = 0 := by rw [he, List.drop_length]; rfl
      have hfit : ∀ q ∈ l, q.Fit := fun q hq => fit_of (firstOf_all.1 hz _ (List.mem_map_of_mem hq))
      have go := refPoly2 (m := m) l h3 hl hfit
      rw [if_pos hz]
      conv => whnf
      refine ⟨AWp.le ?_ go⟩
      skip
      · refine SLe.of [] [] rfl rfl ?_
        conv => whnf
        repeat' (first
        | exact True.intro
        | (refine SAnd.mk (PLe.refl _) ?_; conv => whnf))
theorem refPolygon_pure {m : Int} (l : List Pt) (hl : l.length ≤ 1000) : APure (C m) 18 [.seq 2 (l.map pc)] (I (polyE l)) := by
  have hlen : (((l.map pc).length : Nat) : Int) = l.length := by simp
  have pe : ∀ a b : Int, a = (if l.length < 3 then 16 else 0) → b = (if 8 < l.length then 5 else 0) → polyF l = firstOf [a, b, firstOf (l.map ptE)] := fun a b ha hb => by rw [ha, hb]; rfl
  have ret : ∀ a b : Int, a = (if l.length < 3 then 16 else 0) → b = (if 8 < l.length then 5 else 0) → ¬ firstOf [a, b] = 0 → firstOf [a, b] = polyE l := fun a b ha hb h => by
    have e : polyF l = firstOf [a, b] := by
      rw [pe a b ha hb]
      simp only [firstOf] at h ⊢
      split
      · split
        · rename_i h1 h2; simp [h1, h2] at h
        · rfl
      · rfl
    unfold polyE
    rw [e, if_neg h]
  have go : ∀ a b : Int, a = (if l.length < 3 then 16 else 0) → b = (if 8 < l.length then 5 else 0) → firstOf [a, b] = 0 →
      AWp (C m) Tryz.f18.ntmps (pieceAt [1, 1] c18) (endV m [ResultVar.tmp 2] (I (polyE l))) ⟨[(0, .p (.seq 2 (l.map pc)))], [], [], 0, [], [], []⟩ := fun a b ha hb h => by
    rw [firstOf_zero, firstOf_zero] at h
    have h3 : 3 ≤ l.length := by
      rcases Nat.lt_or_ge l.length 3 with hh | hh
      · rw [if_pos hh] at ha; rw [ha] at h; exact absurd h.1 (by decide)
      · exact hh
    have e : polyF l = firstOf (l.map ptE) := by
      rw [pe a b ha hb, h.1, h.2.1]
      exact firstOf_one _
    have e2 : polyE l = if firstOf (l.map ptE) = 0 then (if (List.range l.length).any (badB l) then 1 else 0) else firstOf (l.map ptE) := by unfold polyE; rw [e]
    rw [e2]
    exact refPoly1 l h3 hl
  refine APure.of_wp good (fn := Tryz.f18) (by kernel_rfl) (by kernel_rfl) rfl rfl (by kernel_rfl) rfl (by kernel_rfl) ?_
  refine codeN_sound good (mu := []) (n := 2) ?_
  conv => whnf
  repeat' (first
    | (rw [hlen]; conv => whnf)
    | (refine SBool.mk (fun _ => ?_) (fun h => absurd (of_decide_eq_true rfl) h); conv => whnf)
    | (refine SBool.mk (fun h => absurd h (of_decide_eq_false rfl)) (fun _ => ?_); conv => whnf)
    | (refine SBool.mk (fun h => ?_) (fun h => ?_) <;> conv => whnf)
    | (refine SEx.mk _ (by first | exact refWhen_pure _ _ | exact refFirst2_pure _ _) ?_; conv => whnf)
    | fail)
  all_goals first
    | exact ⟨PLe.of_eq (congrArg I (ret _ _ (by first | exact (if_pos (by omega)).symm | exact (if_neg (by omega)).symm) (by first | exact (if_pos (by omega)).symm | exact (if_neg (by omega)).symm) (by assumption)))⟩
    | refine ⟨AWp.le ?_ (go _ _ (by first | exact (if_pos (by omega)).symm | exact (if_neg (by omega)).symm) (by first | exact (if_pos (by omega)).symm | exact (if_neg (by omega)).symm) (by assumption))⟩
  all_goals
    skip
    · refine SLe.of [] [] rfl rfl ?_
      conv => whnf
      repeat' (first
      | exact True.intro
      | (refine SAnd.mk (PLe.refl _) ?_; conv => whnf))
theorem refBox_pure {m : Int} (b : Bx) : APure (C m) 21 [.agg (bc b)] (I (boxE b)) := by
  have e : ∀ a : Int, a = (if b.hi.x < b.lo.x ∨ b.hi.y < b.lo.y then 11 else 0) → firstOf [ptE b.lo, ptE b.hi, a] = boxE b := fun a h => by rw [h]; rfl
  refine APure.of_body good [] (fn := Tryz.f21) (by kernel_rfl) (by kernel_rfl) rfl rfl (by kernel_rfl) rfl (by kernel_rfl) ?_
  conv => whnf
  repeat' (first
    | (refine SBool.mk (fun h => ?_) (fun h => ?_) <;> conv => whnf)
    | (refine SEx.mk _ (by first | exact refPoint_pure b.lo | exact refPoint_pure b.hi | exact refWhen_pure _ _ | exact refFirst3_pure _ _ _) ?_; conv => whnf)
    | (refine SAnd.mk (by first | exact rfl | kernel_rfl | omega | decide | exact refPoint_pure b.lo | exact refPoint_pure b.hi | exact refWhen_pure _ _ | exact refFirst3_pure _ _ _) ?_; conv => whnf)
    | fail)
  all_goals exact ⟨PLe.of_eq (congrArg I (e _ (by first | exact (if_pos (by omega)).symm | exact (if_neg (by omega)).symm)))⟩
end Go.Proofs.Ab.Area
end
section
/- The reference's Meets. -/
set_option maxRecDepth 100000
set_option linter.unusedVariables false
set_option linter.unusedSimpArgs false
namespace Go.Proofs.Ab.Area
open Go Go.RowKit Go.Proofs.Ab
end Go.Proofs.Ab.Area
end
section
/- The law of the shapes, given that the program is awake. -/
set_option maxRecDepth 100000
set_option linter.unusedVariables false
set_option linter.unusedSimpArgs false
namespace Go.Proofs.Ab.Area
open Go Go.RowKit Go.Proofs.Ab
theorem points_pure {m : Int} (l : List Pt) (hl : l.length ≤ 1000000) : APure (C m) 15 [.seq 2 (l.map pc)] (.seq 2 (l.map pc)) := by
  have hbd : (l.map pc).length ≤ 1000000 := by simpa using hl
  have hone : ∀ c ∈ (l.map pc).flatten, c.one = true := fun c hc => by
    simp only [List.mem_flatten, List.mem_map] at hc
    obtain ⟨x, ⟨p, _, rfl⟩, hx⟩ := hc
    simp at hx
    rcases hx with rfl | rfl <;> rfl
  have hbds : (∀ c ∈ (l.map pc).flatten, c.one = true) ∧ (([] : List (List PV)).length + (l.map pc).length) * 16 ≤ 140737488355328 ∧ ([] : List (List PV)).length + (l.map pc).length ≤ 9223372036854775807 := ⟨hone, by simp only [List.length_nil]; omega, by simp only [List.length_nil]; omega⟩
  refine APure.of_body good [1003] (fn := Tryz.f15) (by kernel_rfl) (by kernel_rfl) rfl rfl (by kernel_rfl) rfl (by kernel_rfl) ?_
  conv => whnf
  repeat' (first
    | (refine codeK_sound good (mu := [1003]) ?_; conv => whnf)
    | ((first | rw [wl0] | rw [wl1] | rw [wl2] | rw [wl3] | rw [wl4] | rw [wl5]); conv => whnf)
    | (refine SBool.mk (fun _ => ?_) (fun h => absurd (of_decide_eq_true rfl) h); conv => whnf)
    | (refine SBool.mk (fun h => absurd h (of_decide_eq_false rfl)) (fun _ => ?_); conv => whnf)
    | (refine SBool.mk (fun h => ?_) (fun h => ?_) <;> conv => whnf)
    | (refine SEx.mk _ (by first | exact hbds) ?_; conv => whnf)
    | (refine SEx.mk _ (by first | exact rfl | exact ⟨of_decide_eq_true rfl, rfl⟩) ?_; conv => whnf)
    | (refine SAll.mk (fun _ => ?_); conv => whnf)
    | (refine SAnd.mk (by first | exact hbds) ?_; conv => whnf)
    | (refine SAnd.mk ⟨by intro c hc; simp at hc; first | (subst hc; rfl) | ((repeat' (rcases hc with rfl | hc)) <;> first | rfl | (subst hc; rfl)), by (simp; first | done | omega), by (simp; first | done | omega)⟩ ?_; conv => whnf)
    | (refine SAnd.mk (by first | exact rfl | kernel_rfl | omega | decide | exact hbds) ?_; conv => whnf)
    | fail)
  exact ⟨PLe.refl _⟩
section
attribute [local irreducible] APure
end
end Go.Proofs.Ab.Area
end
section
/- The law of the shapes. -/
set_option maxRecDepth 100000
set_option linter.unusedVariables false
set_option linter.unusedSimpArgs false
namespace Go.Proofs.Ab.Area
open Go Go.RowKit Go.Proofs.Ab
end Go.Proofs.Ab.Area
end
section
/- Polygons that begin with another corner, that are moved, that are cut: plain laws. -/
namespace Go.Proofs.Ab.Area
open Go Go.Proofs.Ab
def rot (l : List Pt) (k : Nat) : List Pt := l.drop k ++ l.take k
theorem rot_len {l : List Pt} {k : Nat} (hk : k ≤ l.length) : (rot l k).length = l.length := by
  unfold rot
  rw [List.length_append, List.length_drop, List.length_take]
  omega
theorem rot_mem {l : List Pt} {k : Nat} {p : Pt} : p ∈ rot l k ↔ p ∈ l := by
  unfold rot
  rw [List.mem_append]
  conv => rhs; rw [← List.take_append_drop k l]
  rw [List.mem_append]
  exact Or.comm
theorem cor_rot {l : List Pt} {k : Nat} (hk : k < l.length) (i : Nat) : cor (rot l k) i = cor l (i + k) := by
  have hn := rot_len (show k ≤ l.length by omega)
  have hr : i % l.length < l.length := Nat.mod_lt _ (by omega)
  rw [← cor_mod (rot l k), hn, ← cor_mod1]
  generalize i % l.length = r at hr
  rw [cor_lt (by rw [hn]; exact hr)]
  by_cases h : r < l.length - k
  · rw [cor_lt (by omega)]
    unfold rot
    rw [List.getElem_append_left (by rw [List.length_drop]; exact h), List.getElem_drop]
    congr 1
    omega
  · have e : cor l (r + k) = cor l (r + k - l.length) := by
      rw [← cor_per l (r + k - l.length), show r + k - l.length + l.length = r + k by omega]
    rw [e, cor_lt (by omega)]
    unfold rot
    rw [List.getElem_append_right (by rw [List.length_drop]; omega), List.getElem_take]
    congr 1
    rw [List.length_drop]
    omega
theorem all_turn {n k : Nat} {Q : Nat → Prop} (hn : 0 < n) (per : ∀ i, Q (i + n) ↔ Q i) : (∀ i, Q (i + k)) ↔ ∀ i, Q i := by
  refine ⟨fun h i => ?_, fun h i => h _⟩
  have : ∀ m i, Q (i + n * m) ↔ Q i := by
    intro m
    induction m with
    | zero => intro i; simp
    | succ m ih => intro i; rw [Nat.mul_succ, ← Nat.add_assoc, per, ih]
  rw [← this k i]
  have hk : k ≤ n * k := Nat.le_mul_of_pos_left k hn
  have := h (i + (n * k - k))
  rw [show i + (n * k - k) + k = i + n * k by omega] at this
  exact this
theorem rot_poly {l : List Pt} {k : Nat} (h : Poly l) (hk : k < l.length) : Poly (rot l k) := by
  have hn := rot_len (show k ≤ l.length by omega)
  refine ⟨by rw [hn]; exact h.n8, ?_, fun p hp => h.rng p (rot_mem.1 hp)⟩
  have e : cor (rot l k) = fun i => cor l (i + k) := funext (cor_rot hk)
  rw [hn, e]
  exact h.conv.turned k
theorem rot_in {l : List Pt} {k : Nat} (hk : k < l.length) (p : Pt) : inB (rot l k) p = inB l p := by
  have hn := rot_len (show k ≤ l.length by omega)
  rw [Bool.eq_iff_iff, inB_iff (by omega), inB_iff (by omega)]
  have := all_turn (n := l.length) (k := k) (Q := fun i => 0 ≤ cr (cor l i) (cor l (i + 1)) p) (by omega) (fun i => by rw [show i + l.length + 1 = i + 1 + l.length by omega, cor_per, cor_per])
  rw [← this]
  exact ⟨fun h i => by have := h i; rw [cor_rot hk, cor_rot hk, show i + 1 + k = i + k + 1 by omega] at this; exact this, fun h i => by rw [cor_rot hk, cor_rot hk, show i + 1 + k = i + k + 1 by omega]; exact h i⟩
theorem all_mem {l m : List Pt} (h : ∀ p, p ∈ l ↔ p ∈ m) (P : Pt → Bool) : l.all P = m.all P := by
  rw [Bool.eq_iff_iff, List.all_eq_true, List.all_eq_true]
  exact ⟨fun hh p hp => hh p ((h p).2 hp), fun hh p hp => hh p ((h p).1 hp)⟩
theorem rot_meets {l : List Pt} {k : Nat} (hk : k < l.length) (b : Bx) : meetsB (rot l k) b = meetsB l b := by
  have hn := rot_len (show k ≤ l.length by omega)
  have e1 : sepB (rot l k) b = sepB l b := by
    rw [Bool.eq_iff_iff, sepB_iff (by omega), sepB_iff (by omega)]
    have := all_turn (n := l.length) (k := k) (Q := fun i => ¬ ∀ p ∈ corners b, cr (cor l i) (cor l (i + 1)) p < 0) (by omega) (fun i => by rw [show i + l.length + 1 = i + 1 + l.length by omega, cor_per, cor_per])
    have hh : (∃ i, ∀ p ∈ corners b, cr (cor (rot l k) i) (cor (rot l k) (i + 1)) p < 0) ↔ ∃ i, ∀ p ∈ corners b, cr (cor l (i + k)) (cor l (i + k + 1)) p < 0 := by
      refine exists_congr fun i => ?_
      rw [cor_rot hk, cor_rot hk, show i + 1 + k = i + k + 1 by omega]
    rw [hh]
    have h2 := not_congr this
    rw [Classical.not_forall, Classical.not_forall] at h2
    simpa only [Classical.not_not] using h2
  have e2 : sideB (rot l k) b = sideB l b := by
    unfold sideB
    rw [all_mem (fun p => rot_mem), all_mem (fun p => rot_mem), all_mem (fun p => rot_mem), all_mem (fun p => rot_mem)]
  unfold meetsB
  rw [e1, e2]
theorem rot_size {l : List Pt} {k : Nat} (hk : k < l.length) : sizeI (rot l k) l.length = sizeI l l.length := by
  rw [sizeI_eq, sizeI_eq]
  have e : cor (rot l k) = fun i => cor l (i + k) := funext (cor_rot hk)
  rw [e]
  exact area2_turn (cor_per l) k
def mv (dx dy : Int) (p : Pt) : Pt := ⟨p.x + dx, p.y + dy⟩
theorem cr_mv (dx dy : Int) (a b c : Pt) : cr (mv dx dy a) (mv dx dy b) (mv dx dy c) = cr a b c := by simp only [cr, mv]; grind
theorem cor_mv {l : List Pt} (h : 0 < l.length) (dx dy : Int) (i : Nat) : cor (l.map (mv dx dy)) i = mv dx dy (cor l i) := by
  have hr := Nat.mod_lt i h
  rw [← cor_mod (l.map (mv dx dy)), ← cor_mod l, List.length_map, cor_lt (by rw [List.length_map]; exact hr), cor_lt hr, List.getElem_map]
theorem mv_poly {l : List Pt} (h : Poly l) {dx dy : Int} (hr : ∀ p ∈ l, ptE (mv dx dy p) = 0) : Poly (l.map (mv dx dy)) := by
  have h3 := h.conv.n3
  refine ⟨by rw [List.length_map]; exact h.n8, ?_, fun p hp => ?_⟩
  · have e : cor (l.map (mv dx dy)) = fun i => ⟨(cor l i).x + dx, (cor l i).y + dy⟩ := funext fun i => cor_mv (by omega) dx dy i
    rw [List.length_map, e]
    exact h.conv.moved dx dy
  · obtain ⟨q, hq, rfl⟩ := List.mem_map.1 hp
    exact hr q hq
theorem mv_meets {l : List Pt} (h : 0 < l.length) (b : Bx) (dx dy : Int) : meetsB (l.map (mv dx dy)) ⟨mv dx dy b.lo, mv dx dy b.hi⟩ = meetsB l b := by
  have e1 : sepB (l.map (mv dx dy)) ⟨mv dx dy b.lo, mv dx dy b.hi⟩ = sepB l b := by
    rw [Bool.eq_iff_iff, sepB_iff (by rw [List.length_map]; exact h), sepB_iff h]
    refine exists_congr fun i => ?_
    rw [cor_mv h, cor_mv h, corners_four, corners_four]
    have hf : four ⟨mv dx dy b.lo, mv dx dy b.hi⟩ = (four b).map (mv dx dy) := rfl
    rw [hf]
    constructor
    · intro hh p hp
      have := hh _ (List.mem_map_of_mem hp)
      rwa [cr_mv] at this
    · intro hh p hp
      obtain ⟨q, hq, rfl⟩ := List.mem_map.1 hp
      rw [cr_mv]
      exact hh q hq
  have e2 : sideB (l.map (mv dx dy)) ⟨mv dx dy b.lo, mv dx dy b.hi⟩ = sideB l b := by
    have hx : ∀ (P Q : Pt → Bool), (∀ p, P (mv dx dy p) = Q p) → (l.map (mv dx dy)).all P = l.all Q := fun P Q hPQ => by
      rw [List.all_map]
      congr 1
      funext p
      exact hPQ p
    unfold sideB
    rw [hx _ (fun p => decide (p.x < b.lo.x)) (fun p => decide_eq_decide.2 (by show p.x + dx < b.lo.x + dx ↔ p.x < b.lo.x; omega)), hx _ (fun p => decide (b.hi.x < p.x)) (fun p => decide_eq_decide.2 (by show b.hi.x + dx < p.x + dx ↔ b.hi.x < p.x; omega)),
      hx _ (fun p => decide (p.y < b.lo.y)) (fun p => decide_eq_decide.2 (by show p.y + dy < b.lo.y + dy ↔ p.y < b.lo.y; omega)), hx _ (fun p => decide (b.hi.y < p.y)) (fun p => decide_eq_decide.2 (by show b.hi.y + dy < p.y + dy ↔ b.hi.y < p.y; omega))]
  unfold meetsB
  rw [e1, e2]
theorem conv3 {u o v : Pt} (h : 0 < cr u o v) : Conv 3 (cor [u, o, v]) := by
  have m : ∀ i, i % 3 = 0 ∨ i % 3 = 1 ∨ i % 3 = 2 := fun i => by omega
  have c0 : ∀ i, i % 3 = 0 → cor [u, o, v] i = u := fun i hi => by unfold cor; rw [show ([u, o, v] : List Pt).length = 3 from rfl, hi]; rfl
  have c1 : ∀ i, i % 3 = 1 → cor [u, o, v] i = o := fun i hi => by unfold cor; rw [show ([u, o, v] : List Pt).length = 3 from rfl, hi]; rfl
  have c2 : ∀ i, i % 3 = 2 → cor [u, o, v] i = v := fun i hi => by unfold cor; rw [show ([u, o, v] : List Pt).length = 3 from rfl, hi]; rfl
  have h1 : 0 < cr o v u := by rw [← cr_cyc]; exact h
  have h2 : 0 < cr v u o := by rw [← cr_cyc]; exact h1
  have z : ∀ a b : Pt, cr a b a = 0 ∧ cr a b b = 0 := fun a b => ⟨by simp only [cr]; grind, by simp only [cr]; grind⟩
  have nz : ∀ a b : Pt, cr a a b = 0 := fun a b => by simp only [cr]; grind
  refine ⟨by omega, fun i => cor_per [u, o, v] i, fun i j => ?_, fun i => ?_, fun i j hi hj hij => ?_⟩
  · rcases m i with hi | hi | hi
    · rw [c0 i hi, c1 (i + 1) (by omega)]
      rcases m j with hj | hj | hj
      · rw [c0 j hj, (z u o).1]; exact Int.le_refl _
      · rw [c1 j hj, (z u o).2]; exact Int.le_refl _
      · rw [c2 j hj]; omega
    · rw [c1 i hi, c2 (i + 1) (by omega)]
      rcases m j with hj | hj | hj
      · rw [c0 j hj]; omega
      · rw [c1 j hj, (z o v).1]; exact Int.le_refl _
      · rw [c2 j hj, (z o v).2]; exact Int.le_refl _
    · rw [c2 i hi, c0 (i + 1) (by omega)]
      rcases m j with hj | hj | hj
      · rw [c0 j hj, (z v u).2]; exact Int.le_refl _
      · rw [c1 j hj]; omega
      · rw [c2 j hj, (z v u).1]; exact Int.le_refl _
  · rcases m i with hi | hi | hi
    · rw [c0 i hi, c1 (i + 1) (by omega), c2 (i + 2) (by omega)]; exact h
    · rw [c1 i hi, c2 (i + 1) (by omega), c0 (i + 2) (by omega)]; exact h1
    · rw [c2 i hi, c0 (i + 1) (by omega), c1 (i + 2) (by omega)]; exact h2
  · have d1 : u ≠ o := fun e => by rw [e, nz] at h; omega
    have d2 : o ≠ v := fun e => by rw [e, nz] at h1; omega
    have d3 : v ≠ u := fun e => by rw [e, nz] at h2; omega
    have q : ∀ i, i < 3 → i = 0 ∨ i = 1 ∨ i = 2 := fun i hi => by omega
    rcases q i hi with rfl | rfl | rfl <;> rcases q j hj with rfl | rfl | rfl <;> first
      | exact absurd rfl hij
      | (show u ≠ o; exact d1)
      | (show o ≠ u; exact d1.symm)
      | (show o ≠ v; exact d2)
      | (show v ≠ o; exact d2.symm)
      | (show v ≠ u; exact d3)
      | (show u ≠ v; exact d3.symm)
theorem size3 (u o v : Pt) : sizeI [u, o, v] 3 = 0 + (u.x * o.y - o.x * u.y) + (o.x * v.y - v.x * o.y) + (v.x * u.y - u.x * v.y) := by simp [sizeI, cor]
/-- A polygon is cut at its first corner: a triangle and the rest. -/
theorem cut_poly {l : List Pt} (h : Poly l) (h4 : 4 ≤ l.length) : Poly [cor l (l.length - 1), cor l 0, cor l 1] ∧ Poly (l.drop 1) ∧
    sizeI [cor l (l.length - 1), cor l 0, cor l 1] 3 + sizeI (l.drop 1) (l.length - 1) = sizeI l l.length := by
  have h8 := h.n8
  have hd : (l.drop 1).length = l.length - 1 := List.length_drop
  have cd : ∀ i, cor (l.drop 1) i = cor l (i % (l.length - 1) + 1) := fun i => by
    have hr := Nat.mod_lt i (show 0 < l.length - 1 by omega)
    rw [← cor_mod, hd, cor_lt (by rw [hd]; exact hr), cor_lt (by omega), List.getElem_drop]
    congr 1
    omega
  have mem : ∀ i, cor l i ∈ l := cor_mem (by omega)
  have e0 : cor l l.length = cor l 0 := by have := cor_per l 0; rwa [Nat.zero_add] at this
  have ht := h.conv.turn (l.length - 1)
  rw [show l.length - 1 + 1 = l.length by omega, show l.length - 1 + 2 = 1 + l.length by omega, cor_per, e0] at ht
  refine ⟨⟨by simp, conv3 ht, fun p hp => ?_⟩, ⟨by omega, ?_, fun p hp => h.rng p (List.mem_of_mem_drop hp)⟩, ?_⟩
  · simp only [List.mem_cons, List.not_mem_nil, or_false] at hp
    rcases hp with rfl | rfl | rfl <;> exact h.rng _ (mem _)
  · have e : cor (l.drop 1) = fun i => cor l (i % (l.length - 1) + 1) := funext cd
    rw [hd, e]
    exact h.conv.rest h4
  · have hc := area_cut (cor_per l) (show 2 ≤ l.length by omega)
    rw [sizeI_eq l, hc]
    have t3 := size3 (cor l (l.length - 1)) (cor l 0) (cor l 1)
    have same : ∀ k, k ≤ l.length - 2 → area2 (cor (l.drop 1)) k = area2 (fun i => cor l (i + 1)) k := by
      intro k
      induction k with
      | zero => intro _; rfl
      | succ k ih =>
        intro hk
        simp only [area2]
        rw [ih (by omega), cd, cd, Nat.mod_eq_of_lt (by omega), Nat.mod_eq_of_lt (by omega)]
    have r1 : sizeI (l.drop 1) (l.length - 1) = area2 (fun i => cor l (i + 1)) (l.length - 2) + ((cor l (l.length - 1)).x * (cor l 1).y - (cor l 1).x * (cor l (l.length - 1)).y) := by
      rw [sizeI_eq]
      conv => lhs; rw [show l.length - 1 = (l.length - 2) + 1 by omega]
      simp only [area2]
      rw [same _ (Nat.le_refl _), cd, cd, Nat.mod_eq_of_lt (by omega), show l.length - 2 + 1 = l.length - 1 by omega, Nat.mod_self]
    rw [t3, r1]
    omega
end Go.Proofs.Ab.Area
end
section
/- A law on insides: what it calls. -/
set_option maxRecDepth 100000
set_option linter.unusedVariables false
set_option linter.unusedSimpArgs false
namespace Go.Proofs.Ab.Area
open Go Go.RowKit Go.Proofs.Ab
theorem ones_pt (l : List Pt) : ∀ c ∈ (l.map pc).flatten, c.one = true := fun c hc => by
  simp only [List.mem_flatten, List.mem_map] at hc
  obtain ⟨x, ⟨p, _, rfl⟩, hx⟩ := hc
  simp at hx
  rcases hx with rfl | rfl <;> rfl
theorem plain_pt (l : List Pt) : ∀ c ∈ (l.map pc).flatten, ∃ x, c = .v x := fun c hc => by
  simp only [List.mem_flatten, List.mem_map] at hc
  obtain ⟨x, ⟨p, _, rfl⟩, hx⟩ := hc
  simp at hx
  rcases hx with rfl | rfl
  · exact ⟨_, rfl⟩
  · exact ⟨_, rfl⟩
theorem points_own {m : Int} (l : List Pt) (hl : l.length ≤ 1000000) : AOwn (C m) 15 [.seq 2 (l.map pc)] 24 2 (fun ys => ys = l.map pc) := by
  have hbds : (∀ c ∈ (l.map pc).flatten, c.one = true) ∧ (([] : List (List PV)).length + (l.map pc).length) * 16 ≤ 140737488355328 ∧ ([] : List (List PV)).length + (l.map pc).length ≤ 9223372036854775807 := ⟨ones_pt l, by simp only [List.length_nil, List.length_map]; omega, by simp only [List.length_nil, List.length_map]; omega⟩
  refine AOwn.of_body good [1003] (fun ys hy => by rw [hy]; exact plain_pt l) (fn := Tryz.f15) (by kernel_rfl) (by kernel_rfl) rfl rfl (by kernel_rfl) rfl (by kernel_rfl) ?_
  conv => whnf
  repeat' (first
    | (refine SAnd.mk (by first | exact hbds) ?_; conv => whnf)
    | fail)
  exact ⟨by simp, ⟨by simp⟩⟩
theorem refPolygon_big {m : Int} (l : List Pt) (hl : 8 < l.length) : APure (C m) 18 [.seq 2 (l.map pc)] (I 5) := by
  have hlen : (((l.map pc).length : Nat) : Int) = l.length := by simp
  have h3 : ¬ (((l.map pc).length : Nat) : Int) < 3 := by rw [hlen]; omega
  have h8 : 8 < (((l.map pc).length : Nat) : Int) := by rw [hlen]; omega
  refine APure.of_body good [] (fn := Tryz.f18) (by kernel_rfl) (by kernel_rfl) rfl rfl (by kernel_rfl) rfl (by kernel_rfl) ?_
  conv => whnf
  repeat' (first
    | (refine SBool.mk (fun _ => ?_) (fun h => absurd (of_decide_eq_true rfl) h); conv => whnf)
    | (refine SBool.mk (fun h => absurd h (of_decide_eq_false rfl)) (fun _ => ?_); conv => whnf)
    | (refine SBool.mk (fun h => ?_) (fun h => ?_) <;> conv => whnf)
    | (refine SEx.mk _ (by first | exact refWhen_pure _ _ | exact refFirst2_pure _ _) ?_; conv => whnf)
    | fail)
  all_goals first
    | exact ⟨PLe.refl _⟩
    | exact absurd (by assumption) h3
    | exact absurd h8 (by assumption)
    | exact absurd (by assumption) (by decide)
theorem poly_len {l : List Pt} (h : Poly l) : l.length ≤ 1000 := by have := h.n8; omega
theorem in_ok {m : Int} {l : List Pt} {p : Pt} (h : Poly l) (hp : ptE p = 0) : APure (C m) 14 [.seq 2 (l.map pc), .agg (pc p)] (.tup [Bo (inB l p), I 0]) := by
  have hE : inE l p = 0 := by unfold inE; rw [firstOf_zero, firstOf_zero]; exact ⟨polyE_zero.2 h, hp, rfl⟩
  have := In_pure (m := m) l p (poly_len h)
  unfold inR at this
  rw [if_pos hE, hE] at this
  exact this
theorem meets_ok {m : Int} {l : List Pt} {b : Bx} (h : Poly l) (hb : boxE b = 0) : APure (C m) 17 [.seq 2 (l.map pc), .agg (bc b)] (.tup [Bo (meetsB l b), I 0]) := by
  have hE : meetsE l b = 0 := by unfold meetsE; rw [firstOf_zero, firstOf_zero]; exact ⟨polyE_zero.2 h, hb, rfl⟩
  have := Meets_pure (m := m) l b (poly_len h)
  unfold meetsR at this
  rw [if_pos hE, hE] at this
  exact this
theorem size_ok {m : Int} {l : List Pt} (h : Poly l) : APure (C m) 16 [.seq 2 (l.map pc)] (.tup [I (sizeI l l.length), I 0]) := by
  have hE := polyE_zero.2 h
  have := Size_pure (m := m) l (poly_len h)
  unfold sizeR at this
  rw [if_pos hE, hE] at this
  exact this
/-- A corner is in its polygon. -/
theorem corner_in {l : List Pt} (h : Poly l) {p : Pt} (hp : p ∈ l) : inB l p = true := by
  have h3 := h.conv.n3
  obtain ⟨j, _, rfl⟩ := mem_cor hp
  exact (inB_iff (by omega)).2 fun i => h.conv.left i j
theorem pt_small {p : Pt} (hx : -1000000 ≤ p.x ∧ p.x ≤ 1000000) (hy : -1000000 ≤ p.y ∧ p.y ≤ 1000000) : ptE p = 0 := ptE_zero.2 ⟨hx, hy⟩
theorem box_small {b : Bx} (h1 : ptE b.lo = 0) (h2 : ptE b.hi = 0) (h3 : b.lo.x ≤ b.hi.x ∧ b.lo.y ≤ b.hi.y) : boxE b = 0 := by
  unfold boxE
  rw [firstOf_zero, firstOf_zero, firstOf_zero]
  exact ⟨h1, h2, if_neg (by omega), rfl⟩
theorem box_inv {b : Bx} (h : boxE b = 0) : (-1000000 ≤ b.lo.x ∧ b.lo.x ≤ 1000000) ∧ (-1000000 ≤ b.lo.y ∧ b.lo.y ≤ 1000000) ∧ (-1000000 ≤ b.hi.x ∧ b.hi.x ≤ 1000000) ∧ (-1000000 ≤ b.hi.y ∧ b.hi.y ≤ 1000000) ∧ b.lo.x ≤ b.hi.x ∧ b.lo.y ≤ b.hi.y := by
  unfold boxE at h
  rw [firstOf_zero, firstOf_zero, firstOf_zero] at h
  have h1 := ptE_zero.1 h.1
  have h2 := ptE_zero.1 h.2.1
  have h3 : ¬ (b.hi.x < b.lo.x ∨ b.hi.y < b.lo.y) := fun hh => by rw [if_pos hh] at h; exact absurd h.2.2.1 (by decide)
  exact ⟨h1.1, h1.2, h2.1, h2.2, by omega, by omega⟩
theorem neq_bool {m : Int} (a b : Bool) : ∀ w, (binOp .neq 4 (.bool a) (.bool b)).run (C m).P w = .ok (.bool (!(a == b))) w := fun w => by
  have := run_neq_bool w 4 a b (by kernel_rfl) (P := (C m).P)
  rw [this]
theorem neq_same {m : Int} (a : Bool) : ∀ w, (binOp .neq 4 (.bool a) (.bool a)).run (C m).P w = .ok (.bool false) w := fun w => by
  have := neq_bool (m := m) a a w
  cases a <;> exact this
end Go.Proofs.Ab.Area
end
section
/- A law on insides: its tail. -/
set_option maxRecDepth 100000
set_option linter.unusedVariables false
set_option linter.unusedSimpArgs false
namespace Go.Proofs.Ab.Area
open Go Go.RowKit Go.Proofs.Ab
noncomputable def c10 : Code := Tryz.f10.body.getD .skip
set_option maxHeartbeats 8000000 in
theorem ins_cut {m : Int} (l R : List Pt) (b1 b2 b3 b4 dx dy S T1 T2 : Int) (M : Bool) (u o v : Pt) (hw : APure (C m) 13 [] (Bo true))
    (hR : R.length ≤ 1000) (hu : 0 < R.length → R[R.length - 1]? = some u) (ho : 0 < R.length → R[0]? = some o) (hv : 1 < R.length → R[1]? = some v) (hR3 : 3 ≤ R.length)
    (c16a : R.length ≠ 3 → APure (C m) 16 [.seq 2 [pc u, pc o, pc v]] (.tup [I T1, I 0]))
    (cR : APure (C m) 15 [.seq 2 ((R.drop 1).map pc)] (.seq 2 ((R.drop 1).map pc)))
    (c16b : R.length ≠ 3 → APure (C m) 16 [.seq 2 ((R.drop 1).map pc)] (.tup [I T2, I 0])) (wT : wrapK .i64 (T1 + T2) = T1 + T2) (hS : R.length ≠ 3 → T1 + T2 = S) :
    AWp (C m) Tryz.f10.ntmps (pieceAt [1, 1, 1, 1, 1, 1, 1, 1, 1, 1, 1, 1, 1, 1, 1, 1, 1, 1, 1, 1, 1, 1] c10) (endV m [ResultVar.tmp 6] (Bo true))
      ⟨[(0, .p (.seq 2 (l.map pc))), (9, .p (Bo M)), (11, .p (I S)), (14, .p (.seq 2 (R.map pc)))], [], [], 0, [], [], []⟩ := by
  have hlR : (((R.map pc).length : Nat) : Int) = R.length := by simp
  by_cases h3 : R.length = 3
  · have e3 : (((R.map pc).length : Nat) : Int) = 3 := by rw [hlR, h3]; rfl
    refine codeK_sound good (mu := []) ?_
    conv => whnf
    repeat' (first
      | (rw [e3]; conv => whnf)
      | (refine SBool.mk (fun _ => ?_) (fun h => absurd (of_decide_eq_true rfl) h); conv => whnf)
      | (refine SEx.mk _ (by first | exact hw) ?_; conv => whnf)
      | fail)
    all_goals first
      | exact ⟨PLe.refl _⟩
      | exact absurd e3 (by assumption)
  · have n3 : ¬ (((R.map pc).length : Nat) : Int) = 3 := by rw [hlR]; omega
    have c16a := c16a h3
    have c16b := c16b h3
    have hS := hS h3
    have wn : wrapK IntKind.i64 ((((R.map pc).length : Nat) : Int) - 1) = ((R.length - 1 : Nat) : Int) := by rw [hlR, w64 (by omega)]; omega
    have hs0 : (0 : Int) ≤ ((R.length - 1 : Nat) : Int) ∧ (R.map pc)[(((R.length - 1 : Nat) : Int)).toNat]? = some (pc u) := ⟨by omega, by show (R.map pc)[R.length - 1]? = _; rw [List.getElem?_map, hu (by omega)]; rfl⟩
    have hs1 : (0 : Int) ≤ 0 ∧ (R.map pc)[(0 : Int).toNat]? = some (pc o) := ⟨by omega, by show (R.map pc)[0]? = _; rw [List.getElem?_map, ho (by omega)]; rfl⟩
    have hs2 : (0 : Int) ≤ 1 ∧ (R.map pc)[(1 : Int).toNat]? = some (pc v) := ⟨by omega, by show (R.map pc)[1]? = _; rw [List.getElem?_map, hv (by omega)]; rfl⟩
    have hsl : (0 : Int) ≤ 1 ∧ (1 : Int) ≤ (((R.map pc).length : Nat) : Int) := ⟨by omega, by rw [hlR]; omega⟩
    have hdr : (R.map pc).drop (1 : Int).toNat = (R.drop 1).map pc := by rw [← List.map_drop]; rfl
    refine codeK_sound good (mu := []) ?_
    conv => whnf
    repeat' (first
      | (rw [wT]; conv => whnf)
      | (rw [wn]; conv => whnf)
      | (rw [hdr]; conv => whnf)
      | (refine SBool.mk (fun _ => ?_) (fun h => absurd (of_decide_eq_true rfl) h); conv => whnf)
      | (refine SBool.mk (fun h => ?_) (fun h => ?_) <;> conv => whnf)
      | (refine SEx.mk _ (by first | exact hw | exact hs0 | exact hs1 | exact hs2 | exact hsl | exact c16a | exact c16b | exact cR) ?_; conv => whnf)
      | (refine SAnd.mk (by first | exact hw | exact hs0 | exact hs1 | exact hs2 | exact hsl) ?_; conv => whnf)
      | (refine SAnd.mk (by first | exact rfl | kernel_rfl | omega | decide | exact hw | exact hs0 | exact hs1 | exact hs2 | exact hsl | exact c16a | exact c16b | exact cR) ?_; conv => whnf)
      | fail)
    all_goals first
      | exact ⟨PLe.refl _⟩
      | exact absurd (by assumption) n3
      | exact absurd hS (by assumption)
abbrev sCut (l R : List Pt) (S : Int) (M : Bool) : AS := ⟨[(0, .p (.seq 2 (l.map pc))), (9, .p (Bo M)), (11, .p (I S)), (14, .p (.seq 2 (R.map pc)))], [], [], 0, [], [], []⟩
noncomputable abbrev q10 (n : Nat) : Code := pieceAt (List.replicate n 1) c10
set_option maxHeartbeats 8000000 in
theorem ins_small {m : Int} (l R : List Pt) (b : Bx) (S : Int) (M M2 : Bool)
    (cl : APure (C m) 15 [.seq 2 (l.map pc)] (.seq 2 (l.map pc)))
    (w5 : wrapK .i64 (b.hi.x - 1) = b.hi.x - 1)
    (c51 : b.lo.x < b.hi.x → APure (C m) 17 [.seq 2 (l.map pc), .agg [I b.lo.x, I b.lo.y, I (b.hi.x - 1), I b.hi.y]] (.tup [Bo M2, I 0])) (hM : M2 = true → M = true)
    (go : AWp (C m) Tryz.f10.ntmps (q10 22) (endV m [ResultVar.tmp 6] (Bo true)) (sCut l R S M)) :
    AWp (C m) Tryz.f10.ntmps (q10 21) (endV m [ResultVar.tmp 6] (Bo true))
      ⟨[(0, .p (.seq 2 (l.map pc))), (4, .p (.ref (bc b))), (9, .p (Bo M)), (11, .p (I S)), (14, .p (.seq 2 (R.map pc)))], [], [], 0, [], [], []⟩ := by
  refine AWp.mid (sCut l R S M) go ?_
  cases M
  · cases M2
    · refine codeK_sound good (mu := []) ?_
      conv => whnf
      repeat' (first
        | (rw [w5]; conv => whnf)
        | (refine SBool.mk (fun _ => ?_) (fun h => absurd (of_decide_eq_true rfl) h); conv => whnf)
        | (refine SBool.mk (fun h => ?_) (fun h => ?_) <;> conv => whnf)
        | (refine SEx.mk _ (by first | exact cl | exact c51 (by assumption) | exact spot_pure _ _) ?_; conv => whnf)
        | (refine SAnd.mk (by first | exact rfl | kernel_rfl | omega | decide | exact cl | exact c51 (by assumption) | exact spot_pure _ _) ?_; conv => whnf)
        | fail)
      all_goals
        skip
        · refine SLe.of [] [] rfl rfl ?_
          conv => whnf
          repeat' (first
          | exact True.intro
          | (refine SAnd.mk (PLe.refl _) ?_; conv => whnf))
    · exact absurd (hM rfl) (by decide)
  · cases M2
    · refine codeK_sound good (mu := []) ?_
      conv => whnf
      repeat' (first
        | (rw [w5]; conv => whnf)
        | (refine SBool.mk (fun _ => ?_) (fun h => absurd (of_decide_eq_true rfl) h); conv => whnf)
        | (refine SBool.mk (fun h => ?_) (fun h => ?_) <;> conv => whnf)
        | (refine SEx.mk _ (by first | exact cl | exact c51 (by assumption) | exact spot_pure _ _) ?_; conv => whnf)
        | (refine SAnd.mk (by first | exact rfl | kernel_rfl | omega | decide | exact cl | exact c51 (by assumption) | exact spot_pure _ _) ?_; conv => whnf)
        | fail)
      all_goals
        skip
        · refine SLe.of [] [] rfl rfl ?_
          conv => whnf
          repeat' (first
          | exact True.intro
          | (refine SAnd.mk (PLe.refl _) ?_; conv => whnf))
    · refine codeK_sound good (mu := []) ?_
      conv => whnf
      repeat' (first
        | (rw [w5]; conv => whnf)
        | (refine SBool.mk (fun _ => ?_) (fun h => absurd (of_decide_eq_true rfl) h); conv => whnf)
        | (refine SBool.mk (fun h => ?_) (fun h => ?_) <;> conv => whnf)
        | (refine SEx.mk _ (by first | exact cl | exact c51 (by assumption) | exact spot_pure _ _) ?_; conv => whnf)
        | (refine SAnd.mk (by first | exact rfl | kernel_rfl | omega | decide | exact cl | exact c51 (by assumption) | exact spot_pure _ _) ?_; conv => whnf)
        | fail)
      all_goals
        skip
        · refine SLe.of [] [] rfl rfl ?_
          conv => whnf
          repeat' (first
          | exact True.intro
          | (refine SAnd.mk (PLe.refl _) ?_; conv => whnf))
set_option maxHeartbeats 8000000 in
theorem ins_moved {m : Int} (l R mvd : List Pt) (b : Bx) (dx dy S : Int) (M : Bool)
    (c17 : APure (C m) 17 [.seq 2 (mvd.map pc), .agg [I (b.lo.x + dx), I (b.lo.y + dy), I (b.hi.x + dx), I (b.hi.y + dy)]] (.tup [Bo M, I 0]))
    (w1 : wrapK .i64 (b.lo.x + dx) = b.lo.x + dx) (w2 : wrapK .i64 (b.lo.y + dy) = b.lo.y + dy) (w3 : wrapK .i64 (b.hi.x + dx) = b.hi.x + dx) (w4 : wrapK .i64 (b.hi.y + dy) = b.hi.y + dy)
    (go : AWp (C m) Tryz.f10.ntmps (q10 21) (endV m [ResultVar.tmp 6] (Bo true)) ⟨[(0, .p (.seq 2 (l.map pc))), (4, .p (.ref (bc b))), (9, .p (Bo M)), (11, .p (I S)), (14, .p (.seq 2 (R.map pc)))], [], [], 0, [], [], []⟩) :
    AWp (C m) Tryz.f10.ntmps (q10 19) (endV m [ResultVar.tmp 6] (Bo true))
      ⟨[(0, .p (.seq 2 (l.map pc))), (4, .p (.ref (bc b))), (9, .p (Bo M)), (11, .p (I S)), (14, .p (.seq 2 (R.map pc))), (30, .box 0 0), (31, .p (.seq 2 (mvd.map pc)))], [(0, (24, [I dx, I dy]))], [], 1, [], [], []⟩ := by
  refine AWp.mid ⟨[(0, .p (.seq 2 (l.map pc))), (4, .p (.ref (bc b))), (9, .p (Bo M)), (11, .p (I S)), (14, .p (.seq 2 (R.map pc))), (34, .p (Bo M)), (35, .p (I 0))], [], [], 0, [], [], []⟩ (AWp.mid ⟨[(0, .p (.seq 2 (l.map pc))), (4, .p (.ref (bc b))), (9, .p (Bo M)), (11, .p (I S)), (14, .p (.seq 2 (R.map pc)))], [], [], 0, [], [], []⟩ go ?_) ?_
  · refine codeK_sound good (mu := []) ?_
    conv => whnf
    repeat' (first
      | (refine SBool.mk (fun _ => ?_) (fun h => absurd (of_decide_eq_true rfl) h); conv => whnf)
      | (refine SBool.mk (fun h => absurd h (of_decide_eq_false rfl)) (fun _ => ?_); conv => whnf)
      | (refine SEx.mk _ (by first | exact neq_same _) ?_; conv => whnf)
      | fail)
    all_goals
      skip
      · refine SLe.of [] [] rfl rfl ?_
        conv => whnf
        repeat' (first
        | exact True.intro
        | (refine SAnd.mk (PLe.refl _) ?_; conv => whnf))
  · refine codeK_sound good (mu := []) ?_
    conv => whnf
    repeat' (first
      | (rw [w4]; conv => whnf)
      | (rw [w3]; conv => whnf)
      | (rw [w2]; conv => whnf)
      | (rw [w1]; conv => whnf)
      | (refine SEx.mk _ (by first | exact c17 | exact spot_pure _ _) ?_; conv => whnf)
      | (refine SAnd.mk (by first | exact rfl | kernel_rfl | omega | decide | exact c17 | exact spot_pure _ _) ?_; conv => whnf)
      | fail)
    all_goals
      skip
      · refine SLe.of [] [] rfl rfl ?_
        conv => whnf
        repeat' (first
        | exact True.intro
        | (refine SAnd.mk (PLe.refl _) ?_; conv => whnf))
end Go.Proofs.Ab.Area
end
section
/- A law on insides: the polygon is moved. -/
set_option maxRecDepth 100000
set_option linter.unusedVariables false
set_option linter.unusedSimpArgs false
namespace Go.Proofs.Ab.Area
open Go Go.RowKit Go.Proofs.Ab
abbrev sBy (l R : List Pt) (b : Bx) (dx dy S : Int) (M : Bool) : AS := ⟨[(0, .p (.seq 2 (l.map pc))), (4, .p (.ref (bc b))), (9, .p (Bo M)), (11, .p (I S)), (14, .p (.seq 2 (R.map pc))), (30, .box 0 0)], [(0, (24, [I dx, I dy]))], [], 1, [], [], []⟩
set_option maxHeartbeats 8000000 in
theorem ins_mvd {m : Int} (l R : List Pt) (b : Bx) (dx dy S : Int) (M : Bool) (hl : l.length ≤ 1000) (w : ∀ p ∈ l, wrapK .i64 (p.x + dx) = p.x + dx ∧ wrapK .i64 (p.y + dy) = p.y + dy)
    (go : AWp (C m) Tryz.f10.ntmps (q10 19) (endV m [ResultVar.tmp 6] (Bo true))
      ⟨[(0, .p (.seq 2 (l.map pc))), (4, .p (.ref (bc b))), (9, .p (Bo M)), (11, .p (I S)), (14, .p (.seq 2 (R.map pc))), (30, .box 0 0), (31, .p (.seq 2 ((l.map (mv dx dy)).map pc)))], [(0, (24, [I dx, I dy]))], [], 1, [], [], []⟩) :
    AWp (C m) Tryz.f10.ntmps (q10 17) (endV m [ResultVar.tmp 6] (Bo true)) (sBy l R b dx dy S M) := by
  have hlen : (((l.map pc).length : Nat) : Int) = l.length := by simp
  refine AWp.mid ⟨[(31, .p nilS), (0, .p (.seq 2 (l.map pc))), (4, .p (.ref (bc b))), (9, .p (Bo M)), (11, .p (I S)), (14, .p (.seq 2 (R.map pc))), (30, .box 0 0)], [(0, (24, [I dx, I dy]))], [], 1, [], [], []⟩ (AWp.mid _ go ?_) (by
    refine codeK_sound good (mu := []) ?_
    conv => whnf
    repeat' (first
      | fail)
    skip
    · refine SLe.of [(0, 0)] [] rfl rfl ?_
      conv => whnf
      repeat' (first
      | exact True.intro
      | (refine SAnd.mk (PLe.refl _) ?_; conv => whnf)
      | (refine SAnd.mk (PLeL.refl _) ?_; conv => whnf))
    )
  refine codeK_sound good (mu := []) ?_
  conv => whnf
  repeat' (first
    | fail)
  refine ⟨AWp.loop (ι := { k : Nat // k ≤ l.length }) (fun k => ⟨[(344, .p (I k.1)), (343, .p (I l.length)), (342, .p (.seq 2 (l.map pc))), (31, .own 0), (0, .p (.seq 2 (l.map pc))), (4, .p (.ref (bc b))), (9, .p (Bo M)), (11, .p (I S)), (14, .p (.seq 2 (R.map pc))), (30, .box 0 0)], [(0, (24, [I dx, I dy]))], [(0, (24, 2, ((l.take k.1).map (mv dx dy)).map pc))], 1, [], [], []⟩) (fun k => l.length - k.1) ⟨0, by simp⟩ ?_ ?_⟩
  · refine SLe.row 31 24 2 ?_
    conv => whnf
    skip
    · refine SLe.of [(0, 0)] [(0, 1)] rfl rfl ?_
      conv => whnf
      repeat' (first
      | exact True.intro
      | (refine SAnd.mk (PLe.refl _) ?_; conv => whnf)
      | (refine SAnd.mk (PLeL.refl _) ?_; conv => whnf)
      | (refine SAnd.mk (PLe.of_eq (by simp)) ?_; conv => whnf)
      | (refine SAnd.mk rfl ?_; conv => whnf))
  · rintro ⟨k, hk⟩
    refine codeK_sound good (mu := []) ?_
    conv => whnf
    refine SBool.mk (fun hcn => ?_) (fun hcn => ?_)
    · have hkl : k < l.length := by simpa using hcn
      have hs := some_at hkl pc
      have wk : wrapK IntKind.i64 ((k : Int) + 1) = k + 1 := w64 (by omega)
      have wxy := w _ (List.getElem_mem hkl)
      have hst : (l.take (k + 1)).map (mv dx dy) = (l.take k).map (mv dx dy) ++ [mv dx dy l[k]] := by rw [List.take_succ_eq_append_getElem hkl, List.map_append]; rfl
      have hfl : ((l.take k).map (mv dx dy)).length ≤ 1000 := by rw [List.length_map, List.length_take]; omega
      have mk := sub_lt hkl
      generalize (l.take k).map (mv dx dy) = ys at *
      generalize l[k] = p at *
      have w1 := wxy.1
      have w2 := wxy.2
      clear wxy w hcn
      skip
      conv => whnf
      repeat' (first
        | (rw [wk]; conv => whnf)
        | (rw [w2]; conv => whnf)
        | (rw [w1]; conv => whnf)
        | (refine SEx.mk _ (by first | exact hs | exact spot_pure _ _) ?_; conv => whnf)
        | (refine SAnd.mk ⟨by intro c hc; simp at hc; first | (subst hc; rfl) | ((repeat' (rcases hc with rfl | hc)) <;> first | rfl | (subst hc; rfl)), by (simp; first | done | omega), by (simp; first | done | omega)⟩ ?_; conv => whnf)
        | fail)
      refine ⟨⟨k + 1, hkl⟩, mk, ?_⟩
      skip
      · refine SLe.of [(0, 0)] [(0, 2)] rfl rfl ?_
        conv => whnf
        repeat' (first
        | exact True.intro
        | (refine SAnd.mk (show _ = (_ : List (List PV)) from by rw [hst]; simp [mv]) ?_; conv => whnf)
        | (refine SAnd.mk (PLe.refl _) ?_; conv => whnf)
        | (refine SAnd.mk (PLeL.refl _) ?_; conv => whnf))
    · have hkl : k = l.length := by simp at hcn; omega
      subst hkl
      conv => whnf
      refine SLe.shutB 0 ?_
      conv => whnf
      skip
      · refine SLe.of [(0, 0)] [] rfl rfl ?_
        conv => whnf
        repeat' (first
        | exact True.intro
        | (refine SAnd.mk (PLe.refl _) ?_; conv => whnf)
        | (refine SAnd.mk (PLeL.refl _) ?_; conv => whnf)
        | (refine SAnd.mk (PLe.of_eq (by simp)) ?_; conv => whnf))
set_option maxHeartbeats 8000000 in
theorem ins_by {m : Int} (l R : List Pt) (b : Bx) (n0 n1 n2 S : Int) (M : Bool) (v1 : wrapK .i64 n1 = n1) (v2 : wrapK .i64 n2 = n2)
    (go : AWp (C m) Tryz.f10.ntmps (q10 17) (endV m [ResultVar.tmp 6] (Bo true)) (sBy l R b (n1.tmod 1000) (n2.tmod 1000) S M)) :
    AWp (C m) Tryz.f10.ntmps (q10 16) (endV m [ResultVar.tmp 6] (Bo true))
      ⟨[(0, .p (.seq 2 (l.map pc))), (4, .p (.ref (bc b))), (5, .p (.ref [.v (.int .i16 n0), .v (.int .i16 n1), .v (.int .i16 n2)])), (9, .p (Bo M)), (11, .p (I S)), (14, .p (.seq 2 (R.map pc)))], [], [], 0, [], [], []⟩ := by
  refine AWp.mid (sBy l R b (n1.tmod 1000) (n2.tmod 1000) S M) go ?_
  · have ha1 : (0 : Int) ≤ 1 ∧ (1 : Int) < ((3 : Nat) : Int) := by decide
    have ha2 : (0 : Int) ≤ 2 ∧ (2 : Int) < ((3 : Nat) : Int) := by decide
    refine codeK_sound good (mu := []) ?_
    conv => whnf
    repeat' (first
      | (rw [v2]; conv => whnf)
      | (rw [v1]; conv => whnf)
      | (refine SEx.mk _ (by first | exact ha1 | exact ha2 | exact spot_pure _ _) ?_; conv => whnf)
      | (refine SAnd.mk (by first | exact ha1 | exact ha2) ?_; conv => whnf)
      | (refine SAnd.mk (by first | exact rfl | kernel_rfl | omega | decide | exact ha1 | exact ha2 | exact spot_pure _ _) ?_; conv => whnf)
      | fail)
    all_goals
      skip
      · refine SLe.of [(0, 0)] [] rfl rfl ?_
        conv => whnf
        repeat' (first
        | exact True.intro
        | (refine SAnd.mk (PLe.refl _) ?_; conv => whnf)
        | (refine SAnd.mk (PLeL.refl _) ?_; conv => whnf))
end Go.Proofs.Ab.Area
end
section
/- A law on insides: each point of the box. -/
set_option maxRecDepth 100000
set_option linter.unusedVariables false
set_option linter.unusedSimpArgs false
namespace Go.Proofs.Ab.Area
open Go Go.RowKit Go.Proofs.Ab
abbrev frI (l R : List Pt) (b : Bx) (n0 n1 n2 S : Int) (M : Bool) : List (Nat × SV) := [(0, .p (.seq 2 (l.map pc))), (4, .p (.ref (bc b))), (5, .p (.ref [.v (.int .i16 n0), .v (.int .i16 n1), .v (.int .i16 n2)])), (9, .p (Bo M)), (11, .p (I S)), (14, .p (.seq 2 (R.map pc)))]
abbrev sI (fr : List (Nat × SV)) (l R : List Pt) (b : Bx) (n0 n1 n2 S : Int) (M : Bool) : AS := ⟨fr ++ frI l R b n0 n1 n2 S M, [], [], 0, [], [], []⟩
set_option maxHeartbeats 8000000 in
theorem ins_38 {m : Int} (l R : List Pt) (b : Bx) (n0 n1 n2 S : Int) (M s : Bool) (hs : s = true → M = true)
    (go : AWp (C m) Tryz.f10.ntmps (q10 16) (endV m [ResultVar.tmp 6] (Bo true)) (sI [] l R b n0 n1 n2 S M)) :
    AWp (C m) Tryz.f10.ntmps (q10 15) (endV m [ResultVar.tmp 6] (Bo true)) (sI [(19, .p (Bo s))] l R b n0 n1 n2 S M) := by
  refine AWp.mid _ go ?_
  cases s
  · refine codeK_sound good (mu := []) ?_
    conv => whnf
    repeat' (first
      | fail)
    all_goals
      skip
      · refine SLe.of [] [] rfl rfl ?_
        conv => whnf
        repeat' (first
        | exact True.intro
        | (refine SAnd.mk (PLe.refl _) ?_; conv => whnf))
  · have hM := hs rfl
    subst hM
    refine codeK_sound good (mu := []) ?_
    conv => whnf
    repeat' (first
      | fail)
    all_goals
      skip
      · refine SLe.of [] [] rfl rfl ?_
        conv => whnf
        repeat' (first
        | exact True.intro
        | (refine SAnd.mk (PLe.refl _) ?_; conv => whnf))
set_option maxHeartbeats 8000000 in
theorem ins_corners {m : Int} (l R : List Pt) (b : Bx) (n0 n1 n2 S : Int) (M s0 : Bool) (hl : l.length ≤ 1000) (hs0 : s0 = true → M = true)
    (hin : ∀ p ∈ l, b.lo.x ≤ p.x → p.x ≤ b.hi.x → b.lo.y ≤ p.y → p.y ≤ b.hi.y → M = true)
    (go : ∀ s : Bool, (s = true → M = true) → AWp (C m) Tryz.f10.ntmps (q10 15) (endV m [ResultVar.tmp 6] (Bo true)) (sI [(19, .p (Bo s))] l R b n0 n1 n2 S M)) :
    AWp (C m) Tryz.f10.ntmps (q10 14) (endV m [ResultVar.tmp 6] (Bo true)) (sI [(19, .p (Bo s0))] l R b n0 n1 n2 S M) := by
  have hlen : (((l.map pc).length : Nat) : Int) = l.length := by simp
  refine codeN_sound good (mu := []) (n := 1) ?_
  conv => whnf
  repeat' (first
    | fail)
  refine ⟨AWp.loop (ι := { q : Nat × Bool // q.1 ≤ l.length ∧ (q.2 = true → M = true) }) (fun q => sI [(290, .p (I q.1.1)), (289, .p (I l.length)), (288, .p (.seq 2 (l.map pc))), (19, .p (Bo q.1.2))] l R b n0 n1 n2 S M) (fun q => l.length - q.1.1) ⟨(0, s0), by simp, hs0⟩ ?_ ?_⟩
  · skip
    · refine SLe.of [] [] rfl rfl ?_
      conv => whnf
      repeat' (first
      | exact True.intro
      | (refine SAnd.mk (PLe.refl _) ?_; conv => whnf)
      | (refine SAnd.mk (PLe.of_eq (by simp)) ?_; conv => whnf))
  · rintro ⟨⟨k, s⟩, hk, hi⟩
    refine codeK_sound good (mu := []) ?_
    conv => whnf
    refine SBool.mk (fun hcn => ?_) (fun hcn => ?_)
    · have hkl : k < l.length := by simpa using hcn
      have hs := some_at hkl pc
      have wk : wrapK IntKind.i64 ((k : Int) + 1) = k + 1 := w64 (by omega)
      have mk := sub_lt hkl
      have hp := hin _ (List.getElem_mem hkl)
      generalize l[k] = p at *
      clear hcn hin go
      cases s
      · skip
        conv => whnf
        repeat' (first
          | (rw [wk]; conv => whnf)
          | (refine SBool.mk (fun h => ?_) (fun h => ?_) <;> conv => whnf)
          | (refine SEx.mk _ (by first | exact hs) ?_; conv => whnf)
          | fail)
        all_goals first
          | refine ⟨⟨(k + 1, true), hkl, fun _ => hp (by assumption) (by assumption) (by assumption) (by assumption)⟩, mk, ?_⟩
          | refine ⟨⟨(k + 1, false), hkl, fun h => by cases h⟩, mk, ?_⟩
        all_goals
          skip
          · refine SLe.of [] [] rfl rfl ?_
            conv => whnf
            repeat' (first
            | exact True.intro
            | (refine SAnd.mk (PLe.refl _) ?_; conv => whnf))
      · skip
        conv => whnf
        repeat' (first
          | (rw [wk]; conv => whnf)
          | (refine SEx.mk _ (by first | exact hs) ?_; conv => whnf)
          | fail)
        all_goals
          refine ⟨⟨(k + 1, true), hkl, hi⟩, mk, ?_⟩
          skip
          · refine SLe.of [] [] rfl rfl ?_
            conv => whnf
            repeat' (first
            | exact True.intro
            | (refine SAnd.mk (PLe.refl _) ?_; conv => whnf))
    · conv => whnf
      refine ⟨AWp.le ?_ (go s hi)⟩
      skip
      · refine SLe.of [] [] rfl rfl ?_
        conv => whnf
        repeat' (first
        | exact True.intro
        | (refine SAnd.mk (PLe.refl _) ?_; conv => whnf))
section
attribute [local irreducible] APure
set_option maxHeartbeats 4000000 in
theorem ins_round {m : Int} (l R : List Pt) (b : Bx) (n0 n1 n2 S x y : Int) (M s v : Bool) (Q : Out → AS → Prop)
    (cl : APure (C m) 15 [.seq 2 (l.map pc)] (.seq 2 (l.map pc))) (cR : APure (C m) 15 [.seq 2 (R.map pc)] (.seq 2 (R.map pc)))
    (c84 : APure (C m) 84 [I x, I y] (.agg [I x, I y]))
    (a1 : APure (C m) 14 [.seq 2 (l.map pc), .agg [I x, I y]] (.tup [Bo v, I 0]))
    (a2 : APure (C m) 14 [.seq 2 (R.map pc), .agg [I x, I y]] (.tup [Bo v, I 0]))
    (a3 : APure (C m) 17 [.seq 2 (l.map pc), .agg [I x, I y, I x, I y]] (.tup [Bo v, I 0]))
    (hq : Q .normal (sI [(21, .p (I y)), (20, .p (I x)), (19, .p (Bo (s || v)))] l R b n0 n1 n2 S M)) :
    AWp (C m) Tryz.f10.ntmps (pieceAt [1, 1, 1, 1, 1, 1, 1, 1, 1, 1, 1, 1, 1, 0, 1, 0, 0, 1, 0, 0, 1, 0, 0, 1, 0] c10) Q (sI [(21, .p (I y)), (20, .p (I x)), (19, .p (Bo s))] l R b n0 n1 n2 S M) := by
  refine AWp.post ?_
  have n0 := neq_same (m := m) v
  cases s
  · cases v
    · refine codeK_sound good (mu := []) ?_
      conv => whnf
      repeat' (first
        | (refine SBool.mk (fun _ => ?_) (fun h => absurd (of_decide_eq_true rfl) h); conv => whnf)
        | (refine SBool.mk (fun h => absurd h (of_decide_eq_false rfl)) (fun _ => ?_); conv => whnf)
        | (refine SEx.mk _ (by first | exact cl | exact cR | exact c84 | exact a1 | exact a2 | exact a3 | exact n0) ?_; conv => whnf)
        | fail)
      refine ⟨_, ?_, hq⟩
      skip
      · refine SLe.of [] [] rfl rfl ?_
        conv => whnf
        repeat' (first
        | exact True.intro
        | (refine SAnd.mk (PLe.refl _) ?_; conv => whnf))
    · refine codeK_sound good (mu := []) ?_
      conv => whnf
      repeat' (first
        | (refine SBool.mk (fun _ => ?_) (fun h => absurd (of_decide_eq_true rfl) h); conv => whnf)
        | (refine SBool.mk (fun h => absurd h (of_decide_eq_false rfl)) (fun _ => ?_); conv => whnf)
        | (refine SEx.mk _ (by first | exact cl | exact cR | exact c84 | exact a1 | exact a2 | exact a3 | exact n0) ?_; conv => whnf)
        | fail)
      refine ⟨_, ?_, hq⟩
      skip
      · refine SLe.of [] [] rfl rfl ?_
        conv => whnf
        repeat' (first
        | exact True.intro
        | (refine SAnd.mk (PLe.refl _) ?_; conv => whnf))
  · refine codeK_sound good (mu := []) ?_
    conv => whnf
    repeat' (first
      | (refine SBool.mk (fun _ => ?_) (fun h => absurd (of_decide_eq_true rfl) h); conv => whnf)
      | (refine SBool.mk (fun h => absurd h (of_decide_eq_false rfl)) (fun _ => ?_); conv => whnf)
      | (refine SEx.mk _ (by first | exact cl | exact cR | exact c84 | exact a1 | exact a2 | exact a3 | exact n0) ?_; conv => whnf)
      | fail)
    refine ⟨_, ?_, hq⟩
    skip
    · refine SLe.of [] [] rfl rfl ?_
      conv => whnf
      repeat' (first
      | exact True.intro
      | (refine SAnd.mk (PLe.refl _) ?_; conv => whnf))
end
set_option maxHeartbeats 4000000 in
theorem ins_points {m : Int} (l R : List Pt) (b : Bx) (n0 n1 n2 S : Int) (M : Bool) (V : Int → Int → Bool)
    (hbx : -45 ≤ b.lo.x ∧ b.lo.x ≤ b.hi.x ∧ b.hi.x ≤ 45) (hby : -45 ≤ b.lo.y ∧ b.lo.y ≤ b.hi.y ∧ b.hi.y ≤ 45)
    (hV : ∀ x y, b.lo.x ≤ x → x ≤ b.hi.x → b.lo.y ≤ y → y ≤ b.hi.y → V x y = true → M = true)
    (cl : APure (C m) 15 [.seq 2 (l.map pc)] (.seq 2 (l.map pc))) (cR : APure (C m) 15 [.seq 2 (R.map pc)] (.seq 2 (R.map pc)))
    (c14 : ∀ x y, b.lo.x ≤ x → x ≤ b.hi.x → b.lo.y ≤ y → y ≤ b.hi.y → APure (C m) 14 [.seq 2 (l.map pc), .agg [I x, I y]] (.tup [Bo (V x y), I 0]))
    (c14R : ∀ x y, b.lo.x ≤ x → x ≤ b.hi.x → b.lo.y ≤ y → y ≤ b.hi.y → APure (C m) 14 [.seq 2 (R.map pc), .agg [I x, I y]] (.tup [Bo (V x y), I 0]))
    (c17 : ∀ x y, b.lo.x ≤ x → x ≤ b.hi.x → b.lo.y ≤ y → y ≤ b.hi.y → APure (C m) 17 [.seq 2 (l.map pc), .agg [I x, I y, I x, I y]] (.tup [Bo (V x y), I 0]))
    (go : ∀ s : Bool, (s = true → M = true) → AWp (C m) Tryz.f10.ntmps (q10 14) (endV m [ResultVar.tmp 6] (Bo true)) (sI [(19, .p (Bo s))] l R b n0 n1 n2 S M)) :
    AWp (C m) Tryz.f10.ntmps (q10 12) (endV m [ResultVar.tmp 6] (Bo true)) (sI [] l R b n0 n1 n2 S M) := by
  refine codeN_sound good (mu := []) (n := 2) ?_
  conv => whnf
  repeat' (first
    | fail)
  refine ⟨AWp.loop (ι := { q : Int × Bool // (b.lo.x ≤ q.1 ∧ q.1 ≤ b.hi.x + 1) ∧ (q.2 = true → M = true) }) (fun q => sI [(20, .p (I q.1.1)), (19, .p (Bo q.1.2))] l R b n0 n1 n2 S M) (fun q => (b.hi.x + 1 - q.1.1).toNat) ⟨(b.lo.x, false), by simp only; omega, fun h => by cases h⟩ ?_ ?_⟩
  · skip
    · refine SLe.of [] [] rfl rfl ?_
      conv => whnf
      repeat' (first
      | exact True.intro
      | (refine SAnd.mk (PLe.refl _) ?_; conv => whnf))
  · rintro ⟨⟨x, s⟩, hx, hi⟩
    replace hx : b.lo.x ≤ x ∧ x ≤ b.hi.x + 1 := hx
    refine codeK_sound good (mu := []) ?_
    conv => whnf
    refine SBool.mk (fun hcx => ?_) (fun hcx => ?_)
    · replace hcx : x ≤ b.hi.x := hcx
      skip
      conv => whnf
      repeat' (first
        | fail)
      refine ⟨AWp.loop (ι := { q : Int × Bool // (b.lo.y ≤ q.1 ∧ q.1 ≤ b.hi.y + 1) ∧ (q.2 = true → M = true) }) (fun q => sI [(21, .p (I q.1.1)), (20, .p (I x)), (19, .p (Bo q.1.2))] l R b n0 n1 n2 S M) (fun q => (b.hi.y + 1 - q.1.1).toNat) ⟨(b.lo.y, s), by simp only; omega, hi⟩ ?_ ?_⟩
      · skip
        · refine SLe.of [] [] rfl rfl ?_
          conv => whnf
          repeat' (first
          | exact True.intro
          | (refine SAnd.mk (PLe.refl _) ?_; conv => whnf))
      · rintro ⟨⟨y, s⟩, hy, hi⟩
        replace hy : b.lo.y ≤ y ∧ y ≤ b.hi.y + 1 := hy
        refine codeN_sound good (mu := []) (n := 1) ?_
        conv => whnf
        refine SBool.mk (fun hcy => ?_) (fun hcy => ?_)
        · replace hcy : y ≤ b.hi.y := hcy
          have wy : wrapK IntKind.i64 (y + 1) = y + 1 := w64 (by omega)
          have a4 := hV x y hx.1 hcx hy.1 hcy
          refine ⟨AWp.seq (AWp.le ?_ (ins_round l R b n0 n1 n2 S x y M s (V x y) _ cl cR (spot_pure _ _) (c14 x y hx.1 hcx hy.1 hcy) (c14R x y hx.1 hcx hy.1 hcy) (c17 x y hx.1 hcx hy.1 hcy) ?_))⟩
          · skip
            · refine SLe.of [] [] rfl rfl ?_
              conv => whnf
              repeat' (first
              | exact True.intro
              | (refine SAnd.mk (PLe.refl _) ?_; conv => whnf))
          refine codeK_sound good (mu := []) ?_
          conv => whnf
          repeat' (first
            | (rw [wy]; conv => whnf)
            | fail)
          refine ⟨⟨(y + 1, s || V x y), by simp only; omega, fun h => by
            rcases Bool.or_eq_true_iff.1 h with h | h
            · exact hi h
            · exact a4 h⟩, (show (b.hi.y + 1 - (y + 1)).toNat < (b.hi.y + 1 - y).toNat by omega), ?_⟩
          skip
          · refine SLe.of [] [] rfl rfl ?_
            conv => whnf
            repeat' (first
            | exact True.intro
            | (refine SAnd.mk (PLe.refl _) ?_; conv => whnf))
        · replace hcy : ¬ y ≤ b.hi.y := hcy
          have wx : wrapK IntKind.i64 (x + 1) = x + 1 := w64 (by omega)
          skip
          conv => whnf
          repeat' (first
            | (rw [wx]; conv => whnf)
            | fail)
          refine ⟨⟨(x + 1, s), by simp only; omega, hi⟩, (show (b.hi.x + 1 - (x + 1)).toNat < (b.hi.x + 1 - x).toNat by omega), ?_⟩
          skip
          · refine SLe.of [] [] rfl rfl ?_
            conv => whnf
            repeat' (first
            | exact True.intro
            | (refine SAnd.mk (PLe.refl _) ?_; conv => whnf))
    · conv => whnf
      refine ⟨AWp.le ?_ (go s hi)⟩
      skip
      · refine SLe.of [] [] rfl rfl ?_
        conv => whnf
        repeat' (first
        | exact True.intro
        | (refine SAnd.mk (PLe.refl _) ?_; conv => whnf))
end Go.Proofs.Ab.Area
end
section
/- A law on insides: the polygon begun elsewhere. -/
set_option maxRecDepth 100000
set_option linter.unusedVariables false
set_option linter.unusedSimpArgs false
namespace Go.Proofs.Ab.Area
open Go Go.RowKit Go.Proofs.Ab
section
attribute [local irreducible] APure
set_option maxHeartbeats 4000000 in
theorem ins_checks {m : Int} (l R : List Pt) (b : Bx) (n0 n1 n2 S : Int) (M : Bool)
    (cR : APure (C m) 15 [.seq 2 (R.map pc)] (.seq 2 (R.map pc)))
    (c17 : APure (C m) 17 [.seq 2 (R.map pc), .agg (bc b)] (.tup [Bo M, I 0]))
    (c16 : APure (C m) 16 [.seq 2 (R.map pc)] (.tup [I S, I 0]))
    (go : AWp (C m) Tryz.f10.ntmps (q10 12) (endV m [ResultVar.tmp 6] (Bo true)) (sI [] l R b n0 n1 n2 S M)) :
    AWp (C m) Tryz.f10.ntmps (q10 9) (endV m [ResultVar.tmp 6] (Bo true)) (sI [] l R b n0 n1 n2 S M) := by
  have nq := neq_same (m := m) M
  refine AWp.mid (sI [(15, .p (Bo M)), (16, .p (I 0))] l R b n0 n1 n2 S M) (AWp.mid (sI [(15, .p (Bo M)), (16, .p (I 0)), (17, .p (I S)), (18, .p (I 0))] l R b n0 n1 n2 S M) (AWp.mid _ go ?_) ?_) ?_
  · refine codeK_sound good (mu := []) ?_
    conv => whnf
    repeat' (first
      | (refine SBool.mk (fun _ => ?_) (fun h => absurd (of_decide_eq_true rfl) h); conv => whnf)
      | (refine SBool.mk (fun h => absurd h (of_decide_eq_false rfl)) (fun _ => ?_); conv => whnf)
      | (refine SBool.mk (fun h => ?_) (fun h => ?_) <;> conv => whnf)
      | (refine SEx.mk _ (by first | exact nq) ?_; conv => whnf)
      | fail)
    all_goals first
      | exact absurd rfl (by assumption)
      | skip
    all_goals
      skip
      · refine SLe.of [] [] rfl rfl ?_
        conv => whnf
        repeat' (first
        | exact True.intro
        | (refine SAnd.mk (PLe.refl _) ?_; conv => whnf))
  · refine codeK_sound good (mu := []) ?_
    conv => whnf
    repeat' (first
      | (refine SEx.mk _ (by first | exact cR | exact c16) ?_; conv => whnf)
      | fail)
    all_goals
      skip
      · refine SLe.of [] [] rfl rfl ?_
        conv => whnf
        repeat' (first
        | exact True.intro
        | (refine SAnd.mk (PLe.refl _) ?_; conv => whnf))
  · refine codeK_sound good (mu := []) ?_
    conv => whnf
    repeat' (first
      | (refine SEx.mk _ (by first | exact cR | exact c17) ?_; conv => whnf)
      | (refine SAnd.mk (by first | exact rfl | kernel_rfl | omega | decide | exact cR | exact c17) ?_; conv => whnf)
      | fail)
    all_goals
      skip
      · refine SLe.of [] [] rfl rfl ?_
        conv => whnf
        repeat' (first
        | exact True.intro
        | (refine SAnd.mk (PLe.refl _) ?_; conv => whnf))
set_option maxHeartbeats 4000000 in
theorem ins_begun {m : Int} (l : List Pt) (b : Bx) (n0 n1 n2 S : Int) (M : Bool) (K : Nat) (hl : l.length ≤ 1000) (hK : K < l.length) (e0 : wrapK .i64 n0 = n0) (hK0 : max (n0.tmod l.length) 0 = K)
    (go : AWp (C m) Tryz.f10.ntmps (q10 9) (endV m [ResultVar.tmp 6] (Bo true)) (sI [] l (rot l K) b n0 n1 n2 S M)) :
    AWp (C m) Tryz.f10.ntmps (q10 6) (endV m [ResultVar.tmp 6] (Bo true)) ⟨[(0, .p (.seq 2 (l.map pc))), (4, .p (.ref (bc b))), (5, .p (.ref [.v (.int .i16 n0), .v (.int .i16 n1), .v (.int .i16 n2)])), (9, .p (Bo M)), (11, .p (I S)), (10, .p (I 0)), (12, .p (I 0))], [], [], 0, [], [], []⟩ := by
  have hlen : (((l.map pc).length : Nat) : Int) = l.length := by simp
  have hsl : (0 : Int) ≤ (K : Int) ∧ (K : Int) ≤ (((l.map pc).length : Nat) : Int) := ⟨by omega, by rw [hlen]; omega⟩
  have hdr : (l.map pc).drop ((K : Int)).toNat = (l.drop K).map pc := by rw [← List.map_drop]; rfl
  have htk : (l.map pc).take ((K : Int)).toNat = (l.take K).map pc := by rw [← List.map_take]; rfl
  have hown := (points_own (m := m) (l.drop K) (by rw [List.length_drop]; omega)).one
  have hmk : max (n0.tmod (((l.map pc).length : Nat) : Int)) 0 = K := by rw [hlen]; exact hK0
  have ha0 : (0 : Int) ≤ 0 ∧ (0 : Int) < ((3 : Nat) : Int) := by decide
  have hne : ¬ (((l.map pc).length : Nat) : Int) = 0 := by rw [hlen]; omega
  have hpl : ∀ c ∈ ((l.drop K).map pc).flatten, ∃ x, c = .v x := plain_pt _
  have hbds : (∀ c ∈ ((l.take K).map pc).flatten, c.one = true) ∧ (((l.drop K).map pc).length + ((l.take K).map pc).length) * 16 ≤ 140737488355328 ∧ ((l.drop K).map pc).length + ((l.take K).map pc).length ≤ 9223372036854775807 := by
    refine ⟨ones_pt _, ?_, ?_⟩ <;> simp only [List.length_map, List.length_drop, List.length_take] <;> omega
  refine codeN_sound good (mu := []) (n := 2) ?_
  conv => whnf
  repeat' (first
    | (rw [hmk]; conv => whnf)
    | (rw [e0]; conv => whnf)
    | (refine SAnd.mk (by first | exact ha0) ?_; conv => whnf)
    | (refine SAnd.mk (by first | exact rfl | kernel_rfl | omega | decide | exact ha0) ?_; conv => whnf)
    | fail)
  refine ⟨AWp.mid _ go ?_⟩
  refine codeK_sound good (mu := [1179]) ?_
  conv => whnf
  repeat' (first
    | (rw [htk]; conv => whnf)
    | (rw [hdr]; conv => whnf)
    | (refine SEx.mk _ (by first | exact hown | exact hpl | exact hbds | exact hsl) ?_; conv => whnf)
    | (refine SAnd.mk (by first | exact hown | exact hpl | exact hbds | exact hsl) ?_; conv => whnf)
    | (refine SAnd.mk (by first | exact rfl | kernel_rfl | omega | decide | exact hown | exact hpl | exact hbds | exact hsl) ?_; conv => whnf)
    | fail)
  refine SLe.shutB 7 ?_
  conv => whnf
  skip
  · refine SLe.of [] [] rfl rfl ?_
    conv => whnf
    repeat' (first
    | exact True.intro
    | (refine SAnd.mk (PLe.of_eq (by simp [rot])) ?_; conv => whnf))
end
end Go.Proofs.Ab.Area
end
section
/- A law on insides: its head. -/
set_option maxRecDepth 100000
set_option linter.unusedVariables false
set_option linter.unusedSimpArgs false
namespace Go.Proofs.Ab.Area
open Go Go.RowKit Go.Proofs.Ab
section
attribute [local irreducible] APure
set_option maxHeartbeats 4000000 in
theorem ins_meet {m : Int} (l : List Pt) (b : Bx) (n0 n1 n2 S : Int) (M : Bool) (hS : 1 ≤ S)
    (cl : APure (C m) 15 [.seq 2 (l.map pc)] (.seq 2 (l.map pc)))
    (c17 : APure (C m) 17 [.seq 2 (l.map pc), .agg (bc b)] (.tup [Bo M, I 0]))
    (c16 : APure (C m) 16 [.seq 2 (l.map pc)] (.tup [I S, I 0]))
    (go : AWp (C m) Tryz.f10.ntmps (q10 6) (endV m [ResultVar.tmp 6] (Bo true)) ⟨[(0, .p (.seq 2 (l.map pc))), (4, .p (.ref (bc b))), (5, .p (.ref [.v (.int .i16 n0), .v (.int .i16 n1), .v (.int .i16 n2)])), (9, .p (Bo M)), (11, .p (I S)), (10, .p (I 0)), (12, .p (I 0))], [], [], 0, [], [], []⟩) :
    AWp (C m) Tryz.f10.ntmps (q10 3) (endV m [ResultVar.tmp 6] (Bo true)) ⟨[(0, .p (.seq 2 (l.map pc))), (4, .p (.ref (bc b))), (5, .p (.ref [.v (.int .i16 n0), .v (.int .i16 n1), .v (.int .i16 n2)]))], [], [], 0, [], [], []⟩ := by
  have hS' : ¬ S < 1 := by omega
  refine AWp.mid ⟨[(0, .p (.seq 2 (l.map pc))), (4, .p (.ref (bc b))), (5, .p (.ref [.v (.int .i16 n0), .v (.int .i16 n1), .v (.int .i16 n2)])), (9, .p (Bo M)), (10, .p (I 0))], [], [], 0, [], [], []⟩ (AWp.mid ⟨[(0, .p (.seq 2 (l.map pc))), (4, .p (.ref (bc b))), (5, .p (.ref [.v (.int .i16 n0), .v (.int .i16 n1), .v (.int .i16 n2)])), (9, .p (Bo M)), (10, .p (I 0)), (11, .p (I S)), (12, .p (I 0))], [], [], 0, [], [], []⟩ (AWp.mid _ go ?_) ?_) ?_
  · refine codeK_sound good (mu := []) ?_
    conv => whnf
    repeat' (first
      | (refine SBool.mk (fun _ => ?_) (fun h => absurd (of_decide_eq_true rfl) h); conv => whnf)
      | (refine SBool.mk (fun h => ?_) (fun h => ?_) <;> conv => whnf)
      | fail)
    all_goals first
      | exact absurd (by assumption) hS'
      | skip
    all_goals
      skip
      · refine SLe.of [] [] rfl rfl ?_
        conv => whnf
        repeat' (first
        | exact True.intro
        | (refine SAnd.mk (PLe.refl _) ?_; conv => whnf))
  · refine codeK_sound good (mu := []) ?_
    conv => whnf
    repeat' (first
      | (refine SEx.mk _ (by first | exact cl | exact c16) ?_; conv => whnf)
      | fail)
    all_goals
      skip
      · refine SLe.of [] [] rfl rfl ?_
        conv => whnf
        repeat' (first
        | exact True.intro
        | (refine SAnd.mk (PLe.refl _) ?_; conv => whnf))
  · refine codeK_sound good (mu := []) ?_
    conv => whnf
    repeat' (first
      | (refine SEx.mk _ (by first | exact cl | exact c17) ?_; conv => whnf)
      | (refine SAnd.mk (by first | exact rfl | kernel_rfl | omega | decide | exact cl | exact c17) ?_; conv => whnf)
      | fail)
    all_goals
      skip
      · refine SLe.of [] [] rfl rfl ?_
        conv => whnf
        repeat' (first
        | exact True.intro
        | (refine SAnd.mk (PLe.refl _) ?_; conv => whnf))
def roomy (p : Pt) : Prop := (-40 ≤ p.x ∧ p.x ≤ 40) ∧ -40 ≤ p.y ∧ p.y ≤ 40
set_option maxHeartbeats 4000000 in
theorem ins_room {m : Int} (l : List Pt) (b : Bx) (n0 n1 n2 : Int) (hl : l.length ≤ 1000) (hw : APure (C m) 13 [] (Bo true))
    (go : (∀ p ∈ l, roomy p) → AWp (C m) Tryz.f10.ntmps (q10 3) (endV m [ResultVar.tmp 6] (Bo true)) ⟨[(0, .p (.seq 2 (l.map pc))), (4, .p (.ref (bc b))), (5, .p (.ref [.v (.int .i16 n0), .v (.int .i16 n1), .v (.int .i16 n2)]))], [], [], 0, [], [], []⟩) :
    AWp (C m) Tryz.f10.ntmps (q10 2) (endV m [ResultVar.tmp 6] (Bo true)) ⟨[(0, .p (.seq 2 (l.map pc))), (4, .p (.ref (bc b))), (5, .p (.ref [.v (.int .i16 n0), .v (.int .i16 n1), .v (.int .i16 n2)]))], [], [], 0, [], [], []⟩ := by
  have hlen : (((l.map pc).length : Nat) : Int) = l.length := by simp
  refine codeN_sound good (mu := []) (n := 1) ?_
  conv => whnf
  repeat' (first
    | fail)
  refine ⟨AWp.loop (ι := { k : Nat // k ≤ l.length ∧ ∀ j, j < k → ∀ h : j < l.length, roomy l[j] }) (fun k => ⟨[(121, .p (I k.1)), (120, .p (I l.length)), (119, .p (.seq 2 (l.map pc))), (0, .p (.seq 2 (l.map pc))), (4, .p (.ref (bc b))), (5, .p (.ref [.v (.int .i16 n0), .v (.int .i16 n1), .v (.int .i16 n2)]))], [], [], 0, [], [], []⟩) (fun k => l.length - k.1) ⟨0, by simp, fun j h => by omega⟩ ?_ ?_⟩
  · skip
    · refine SLe.of [] [] rfl rfl ?_
      conv => whnf
      repeat' (first
      | exact True.intro
      | (refine SAnd.mk (PLe.refl _) ?_; conv => whnf)
      | (refine SAnd.mk (PLe.of_eq (by simp)) ?_; conv => whnf))
  · rintro ⟨k, hk, hi⟩
    refine codeK_sound good (mu := []) ?_
    conv => whnf
    refine SBool.mk (fun hcn => ?_) (fun hcn => ?_)
    · have hkl : k < l.length := by simpa using hcn
      have hs := some_at hkl pc
      have wk : wrapK IntKind.i64 ((k : Int) + 1) = k + 1 := w64 (by omega)
      have mk := sub_lt hkl
      have nx : roomy l[k] → ∀ j, j < k + 1 → ∀ h : j < l.length, roomy l[j] := fun hp j hj h => by
        rcases Nat.lt_succ_iff_lt_or_eq.1 hj with hj | hj
        · exact hi j hj h
        · subst hj; exact hp
      generalize l[k] = p at hs nx
      clear hcn go
      have nx' : ¬ p.x < -40 → ¬ 40 < p.x → ¬ p.y < -40 → ¬ 40 < p.y → ∀ j, j < k + 1 → ∀ h : j < l.length, roomy l[j] := fun a1 a2 a3 a4 => nx ⟨by omega, by omega⟩
      skip
      conv => whnf
      repeat' (first
        | (rw [wk]; conv => whnf)
        | (refine SBool.mk (fun h => ?_) (fun h => ?_) <;> conv => whnf)
        | (refine SEx.mk _ (by first | exact hs | exact hw) ?_; conv => whnf)
        | fail)
      all_goals first
        | exact ⟨PLe.refl _⟩
        | refine ⟨⟨k + 1, hkl, nx' (by assumption) (by assumption) (by assumption) (by assumption)⟩, mk, ?_⟩
      skip
      · refine SLe.of [] [] rfl rfl ?_
        conv => whnf
        repeat' (first
        | exact True.intro
        | (refine SAnd.mk (PLe.refl _) ?_; conv => whnf))
    · have hkr : k = l.length := by simp at hcn; omega
      conv => whnf
      refine ⟨AWp.le ?_ (go fun p hp => by
        obtain ⟨j, hj, rfl⟩ := List.getElem_of_mem hp
        exact hi j (by omega) hj)⟩
      skip
      · refine SLe.of [] [] rfl rfl ?_
        conv => whnf
        repeat' (first
        | exact True.intro
        | (refine SAnd.mk (PLe.refl _) ?_; conv => whnf))
end
end Go.Proofs.Ab.Area
end
section
/- The law on insides. -/
set_option maxRecDepth 100000
set_option linter.unusedVariables false
set_option linter.unusedSimpArgs false
namespace Go.Proofs.Ab.Area
open Go Go.RowKit Go.Proofs.Ab
section
attribute [local irreducible] APure
set_option maxHeartbeats 8000000 in
theorem ins_guard {m : Int} (l : List Pt) (b : Bx) (n0 n1 n2 e2 : Int) (hw : APure (C m) 13 [] (Bo true)) (c18 : APure (C m) 18 [.seq 2 (l.map pc)] (I 0)) (c21 : APure (C m) 21 [.agg (bc b)] (I e2))
    (go : e2 = 0 → ¬ b.lo.x < -45 → ¬ b.lo.y < -45 → ¬ 45 < b.hi.x → ¬ 45 < b.hi.y → AWp (C m) Tryz.f10.ntmps (q10 2) (endV m [ResultVar.tmp 6] (Bo true)) ⟨[(0, .p (.seq 2 (l.map pc))), (4, .p (.ref (bc b))), (5, .p (.ref [.v (.int .i16 n0), .v (.int .i16 n1), .v (.int .i16 n2)]))], [], [], 0, [], [], []⟩) :
    APure (C m) 10 [.seq 2 (l.map pc), .agg (bc b), .agg [.v (.int .i16 n0), .v (.int .i16 n1), .v (.int .i16 n2)]] (Bo true) := by
  refine APure.of_wp good (fn := Tryz.f10) (by kernel_rfl) (by kernel_rfl) rfl rfl (by kernel_rfl) rfl (by kernel_rfl) ?_
  refine codeN_sound good (mu := []) (n := 2) ?_
  conv => whnf
  repeat' (first
    | (refine SBool.mk (fun _ => ?_) (fun h => absurd (of_decide_eq_true rfl) h); conv => whnf)
    | (refine SBool.mk (fun h => ?_) (fun h => ?_) <;> conv => whnf)
    | (refine SEx.mk _ (by first | exact hw | exact c18 | exact c21) ?_; conv => whnf)
    | fail)
  all_goals first
    | exact ⟨PLe.refl _⟩
    | skip
  all_goals
    refine ⟨AWp.le ?_ (go (by assumption) (by assumption) (by assumption) (by assumption) (by assumption))⟩
    skip
    · refine SLe.of [] [] rfl rfl ?_
      conv => whnf
      repeat' (first
      | exact True.intro
      | (refine SAnd.mk (PLe.refl _) ?_; conv => whnf))
set_option maxHeartbeats 4000000 in
theorem ins_bad {m : Int} (l : List Pt) (b : Bx) (n0 n1 n2 e1 : Int) (hw : APure (C m) 13 [] (Bo true)) (c18 : APure (C m) 18 [.seq 2 (l.map pc)] (I e1)) (he : ¬ e1 = 0) :
    APure (C m) 10 [.seq 2 (l.map pc), .agg (bc b), .agg [.v (.int .i16 n0), .v (.int .i16 n1), .v (.int .i16 n2)]] (Bo true) := by
  have hf : (!decide (e1 = 0)) = true := by rw [decide_eq_false he]; rfl
  refine APure.of_body good [] (fn := Tryz.f10) (by kernel_rfl) (by kernel_rfl) rfl rfl (by kernel_rfl) rfl (by kernel_rfl) ?_
  conv => whnf
  repeat' (first
    | (refine SBool.mk (fun h => ?_) (fun h => ?_) <;> conv => whnf)
    | (refine SEx.mk _ (by first | exact hw | exact c18) ?_; conv => whnf)
    | fail)
  all_goals first
    | exact ⟨PLe.refl _⟩
    | exact absurd (by assumption) he
end
end Go.Proofs.Ab.Area
end
section
/- The law on insides, joined. -/
set_option maxRecDepth 100000
set_option linter.unusedVariables false
set_option linter.unusedSimpArgs false
namespace Go.Proofs.Ab.Area
open Go Go.RowKit Go.Proofs.Ab
theorem ins_last {m : Int} {l R : List Pt} {S : Int} {M : Bool} (hR : Poly R) (hS : sizeI R R.length = S) :
    AWp (C m) Tryz.f10.ntmps (q10 22) (endV m [ResultVar.tmp 6] (Bo true)) (sCut l R S M) := by
  have n3 := hR.conv.n3
  have n8 := hR.n8
  have at_ : ∀ i, i < R.length → R[i]? = some (cor R i) := fun i hi => by rw [cor_lt hi, List.getElem?_eq_getElem hi]
  have cR := points_pure (m := m) (R.drop 1) (by rw [List.length_drop]; omega)
  by_cases h3 : R.length = 3
  · exact ins_cut l R 0 0 0 0 0 0 S 0 0 M (cor R (R.length - 1)) (cor R 0) (cor R 1) awake_pure (by omega) (fun _ => at_ _ (by omega)) (fun _ => at_ _ (by omega)) (fun _ => at_ _ (by omega)) (by omega) (fun h => absurd h3 h) cR (fun h => absurd h3 h) (w64 (by decide)) (fun h => absurd h3 h)
  · obtain ⟨p1, p2, p3⟩ := cut_poly hR (by omega)
    have c1 := size_ok (m := m) p1
    have c2 := size_ok (m := m) p2
    have hd : (R.drop 1).length = R.length - 1 := List.length_drop
    rw [hd] at c2
    have hfit := size_fit (l := R) (fun q hq => fit_of (hR.rng q hq)) (by omega) R.length
    refine ins_cut l R 0 0 0 0 0 0 S (sizeI [cor R (R.length - 1), cor R 0, cor R 1] 3) (sizeI (R.drop 1) (R.length - 1)) M (cor R (R.length - 1)) (cor R 0) (cor R 1) awake_pure (by omega) (fun _ => at_ _ (by omega)) (fun _ => at_ _ (by omega)) (fun _ => at_ _ (by omega)) (by omega) (fun _ => c1) cR (fun _ => c2) ?_ (fun _ => by rw [p3, hS])
    rw [p3]
    exact w64 (by omega)
theorem AreaInside_pure {m : Int} (l : List Pt) (b : Bx) (n0 n1 n2 : Int) (r0 : -32768 ≤ n0 ∧ n0 ≤ 32767) (r1 : -32768 ≤ n1 ∧ n1 ≤ 32767) (r2 : -32768 ≤ n2 ∧ n2 ≤ 32767) :
    APure (C m) 10 [.seq 2 (l.map pc), .agg (bc b), .agg [.v (.int .i16 n0), .v (.int .i16 n1), .v (.int .i16 n2)]] (Bo true) := by
  by_cases h8 : 8 < l.length
  · exact ins_bad l b n0 n1 n2 5 awake_pure (refPolygon_big l h8) (by decide)
  have c18 := refPolygon_pure (m := m) l (by omega)
  by_cases hp : polyE l = 0
  · rw [hp] at c18
    have hP : Poly l := polyE_zero.1 hp
    refine ins_guard l b n0 n1 n2 (boxE b) awake_pure c18 (refBox_pure b) (fun hb g1 g2 g3 g4 => ?_)
    have B := box_inv hb
    refine ins_room l b n0 n1 n2 (by omega) awake_pure (fun hr => ?_)
    have n3 := hP.conv.n3
    have cl := points_pure (m := m) l (by omega)
    refine ins_meet l b n0 n1 n2 (sizeI l l.length) (meetsB l b) ?_ cl (meets_ok hP hb) (size_ok hP) ?_
    · rw [sizeI_eq]
      have := hP.conv.area_pos
      omega
    have hlt : n0.tmod (l.length : Int) < (l.length : Int) := Int.tmod_lt_of_pos n0 (by omega)
    obtain ⟨K, hK0⟩ : ∃ K : Nat, max (n0.tmod (l.length : Int)) 0 = (K : Int) := ⟨(max (n0.tmod (l.length : Int)) 0).toNat, by omega⟩
    have hK : K < l.length := by omega
    refine ins_begun l b n0 n1 n2 (sizeI l l.length) (meetsB l b) K (by omega) hK (w64 (by omega)) hK0 ?_
    have hR := rot_poly hP hK
    have hRl := rot_len (k := K) (l := l) (by omega)
    have cR := points_pure (m := m) (rot l K) (by omega)
    have k1 : APure (C m) 17 [.seq 2 ((rot l K).map pc), .agg (bc b)] (.tup [Bo (meetsB l b), I 0]) := by
      have := meets_ok (m := m) hR hb
      rwa [rot_meets hK] at this
    have hSz : sizeI (rot l K) (rot l K).length = sizeI l l.length := by rw [hRl, rot_size hK]
    have k2 : APure (C m) 16 [.seq 2 ((rot l K).map pc)] (.tup [I (sizeI l l.length), I 0]) := by
      have := size_ok (m := m) hR
      rwa [hSz] at this
    refine ins_checks l (rot l K) b n0 n1 n2 (sizeI l l.length) (meetsB l b) cR k1 k2 ?_
    have sm : ∀ x y, b.lo.x ≤ x → x ≤ b.hi.x → b.lo.y ≤ y → y ≤ b.hi.y → ptE ⟨x, y⟩ = 0 := fun x y a1 a2 a3 a4 => pt_small (p := ⟨x, y⟩) ⟨by show _ ≤ x; omega, by show x ≤ _; omega⟩ ⟨by show _ ≤ y; omega, by show y ≤ _; omega⟩
    refine ins_points l (rot l K) b n0 n1 n2 (sizeI l l.length) (meetsB l b) (fun x y => inB l ⟨x, y⟩) ⟨by omega, by omega, by omega⟩ ⟨by omega, by omega, by omega⟩
      (fun x y a1 a2 a3 a4 h => meets_of hP (p := ⟨x, y⟩) ⟨a1, a2⟩ ⟨a3, a4⟩ h) cl cR (fun x y a1 a2 a3 a4 => in_ok (p := ⟨x, y⟩) hP (sm x y a1 a2 a3 a4))
      (fun x y a1 a2 a3 a4 => by
        have := in_ok (m := m) (p := ⟨x, y⟩) hR (sm x y a1 a2 a3 a4)
        rwa [rot_in hK] at this)
      (fun x y a1 a2 a3 a4 => by
        have := meets_ok (m := m) (b := ⟨⟨x, y⟩, ⟨x, y⟩⟩) hP (box_small (sm x y a1 a2 a3 a4) (sm x y a1 a2 a3 a4) ⟨Int.le_refl _, Int.le_refl _⟩)
        rwa [meets_point hP] at this) (fun s hs => ?_)
    refine ins_corners l (rot l K) b n0 n1 n2 (sizeI l l.length) (meetsB l b) s (by omega) hs (fun p hp a1 a2 a3 a4 => meets_of hP ⟨a1, a2⟩ ⟨a3, a4⟩ (corner_in hP hp)) (fun s hs => ?_)
    refine ins_38 l (rot l K) b n0 n1 n2 (sizeI l l.length) (meetsB l b) s hs ?_
    refine ins_by l (rot l K) b n0 n1 n2 (sizeI l l.length) (meetsB l b) (w64 (by omega)) (w64 (by omega)) ?_
    have d1 : (n1.tmod 1000).natAbs ≤ 999 := by rw [Int.natAbs_tmod]; exact Nat.le_of_lt_succ (Nat.mod_lt _ (by decide))
    have d2 : (n2.tmod 1000).natAbs ≤ 999 := by rw [Int.natAbs_tmod]; exact Nat.le_of_lt_succ (Nat.mod_lt _ (by decide))
    generalize n1.tmod 1000 = dx at *
    generalize n2.tmod 1000 = dy at *
    refine ins_mvd l (rot l K) b dx dy (sizeI l l.length) (meetsB l b) (by omega) (fun p hp => ?_) ?_
    · have hh := hr p hp
      unfold roomy at hh
      exact ⟨w64 (by omega), w64 (by omega)⟩
    have hM : Poly (l.map (mv dx dy)) := mv_poly hP fun p hp => by
      have hh := hr p hp
      unfold roomy at hh
      exact pt_small (p := mv dx dy p) ⟨by show _ ≤ p.x + dx; omega, by show p.x + dx ≤ _; omega⟩ ⟨by show _ ≤ p.y + dy; omega, by show p.y + dy ≤ _; omega⟩
    refine ins_moved l (rot l K) (l.map (mv dx dy)) b dx dy (sizeI l l.length) (meetsB l b) ?_ (w64 (by omega)) (w64 (by omega)) (w64 (by omega)) (w64 (by omega)) ?_
    · have hb' : boxE ⟨mv dx dy b.lo, mv dx dy b.hi⟩ = 0 := box_small
        (pt_small (p := mv dx dy b.lo) ⟨by show _ ≤ b.lo.x + dx; omega, by show b.lo.x + dx ≤ _; omega⟩ ⟨by show _ ≤ b.lo.y + dy; omega, by show b.lo.y + dy ≤ _; omega⟩)
        (pt_small (p := mv dx dy b.hi) ⟨by show _ ≤ b.hi.x + dx; omega, by show b.hi.x + dx ≤ _; omega⟩ ⟨by show _ ≤ b.hi.y + dy; omega, by show b.hi.y + dy ≤ _; omega⟩)
        ⟨by show b.lo.x + dx ≤ b.hi.x + dx; omega, by show b.lo.y + dy ≤ b.hi.y + dy; omega⟩
      have := meets_ok (m := m) hM hb'
      rwa [mv_meets (by omega)] at this
    refine ins_small l (rot l K) b (sizeI l l.length) (meetsB l b) (if b.lo.x < b.hi.x then meetsB l ⟨b.lo, ⟨b.hi.x - 1, b.hi.y⟩⟩ else false) cl (w64 (by omega)) (fun h => ?_) (fun h => ?_) (ins_last hR hSz)
    · rw [if_pos h]
      exact meets_ok (m := m) (b := ⟨b.lo, ⟨b.hi.x - 1, b.hi.y⟩⟩) hP (box_small (pt_small (p := b.lo) ⟨by omega, by omega⟩ ⟨by omega, by omega⟩) (pt_small (p := ⟨b.hi.x - 1, b.hi.y⟩) ⟨by show _ ≤ b.hi.x - 1; omega, by show b.hi.x - 1 ≤ _; omega⟩ ⟨by show _ ≤ b.hi.y; omega, by show b.hi.y ≤ _; omega⟩) ⟨by show b.lo.x ≤ b.hi.x - 1; omega, by show b.lo.y ≤ b.hi.y; omega⟩)
    · by_cases hx : b.lo.x < b.hi.x
      · rw [if_pos hx] at h
        exact meets_less (by omega) (c := ⟨b.lo, ⟨b.hi.x - 1, b.hi.y⟩⟩) ⟨Int.le_refl _, by show b.hi.x - 1 ≤ _; omega⟩ ⟨Int.le_refl _, Int.le_refl _⟩ ⟨by show b.lo.x ≤ b.hi.x - 1; omega, by show b.lo.y ≤ b.hi.y; omega⟩ h
      · rw [if_neg hx] at h
        exact absurd h (by decide)
  · exact ins_bad l b n0 n1 n2 (polyE l) awake_pure c18 hp
theorem fit_three {x : PV} (h : FitP (true, [.int .i16, .int .i16, .int .i16]) x) : ∃ n0 n1 n2 : Int, x = .agg [.v (.int .i16 n0), .v (.int .i16 n1), .v (.int .i16 n2)] ∧ (-32768 ≤ n0 ∧ n0 ≤ 32767) ∧ (-32768 ≤ n1 ∧ n1 ≤ 32767) ∧ -32768 ≤ n2 ∧ n2 ≤ 32767 := by
  obtain ⟨xs, rfl, h⟩ := h
  obtain ⟨c1, xs, rfl, h1, h⟩ := h.uncons
  obtain ⟨c2, xs, rfl, h2, h⟩ := h.uncons
  obtain ⟨c3, xs, rfl, h3, h⟩ := h.uncons
  obtain rfl := h.unnil
  obtain ⟨n1, rfl, w1⟩ := h1.int_inv
  obtain ⟨n2, rfl, w2⟩ := h2.int_inv
  obtain ⟨n3, rfl, w3⟩ := h3.int_inv
  have wf16 : ∀ n : Int, (Lit.int .i16 n).wf = true → -32768 ≤ n ∧ n ≤ 32767 := fun n h => by
    have h : (decide (IntKind.i16.min ≤ n) && decide (n ≤ IntKind.i16.max)) = true := h
    rw [Bool.and_eq_true, decide_eq_true_eq, decide_eq_true_eq] at h
    exact h
  exact ⟨n1, n2, n3, rfl, wf16 _ w1, wf16 _ w2, wf16 _ w3⟩
end Go.Proofs.Ab.Area
end
section
/- AreaInside: for every list of points, box and three numbers the program's In, Meets and Size stand to one another as the law says: the law returns true. (Wrong and far polygons and boxes are left out by the law itself; the listed variables are as the program's text lays them.) -/
set_option maxRecDepth 100000
set_option linter.unusedVariables false
set_option linter.unusedSimpArgs false
namespace Go.Proofs.YtlgkijilmpjdmaaGreatDoor
open Go Go.RowKit Go.Proofs.Ab Go.Proofs.Ab.Area
theorem areaInside_lifted (os : Os) (started : os.Started) (H : Type) (enc : TypeId × Value → H) :
    ReturnsInHanded {} Tryz.checked os 10 .any (fun w args => (Rows.areaInsideSpec.pre enc Tryz.prog Tryz.f10 [] false w args ∧ laidMetH Tryz.prog listed w) ∧ sizedMet enc Tryz.prog Tryz.f10 (OpenSpec.ofChange Rows.areaInsideSpec) false w args)
      (Rows.areaInsideSpec.post enc Tryz.prog Tryz.f10 false true false false) := by
  refine lifted_of started (by as_aux_lemma => kernel_rfl) Tryz.func10 (ss := [(false, [.sl ptSh]), (true, boxSh), (true, [.int .i16, .int .i16, .int .i16])])
    (witness #[.slice none 0 0, .agg #[.int .i64 0, .int .i64 0, .int .i64 0, .int .i64 0], .agg #[.int .i16 0, .int .i16 0, .int .i16 0]] (by as_aux_lemma => kernel_rfl) (by as_aux_lemma => kernel_rfl) (by as_aux_lemma => kernel_rfl) (World.shaped_of_ZipB (by as_aux_lemma => kernel_rfl) (by as_aux_lemma => kernel_rfl)) (laidMet_laidAll _ (by as_aux_lemma => kernel_rfl) (by as_aux_lemma => kernel_rfl)))
    ?_ (by as_aux_lemma => kernel_rfl) (by as_aux_lemma => kernel_rfl) rfl ?_ ?_
  · rw [Tryz.params10]
    intro t ht
    have hall : ([22, 26, 140].all fun u => Tryz.prog.readableRec u && decide (u < Tryz.prog.types.size)) = true := by as_aux_lemma => kernel_rfl
    have := List.all_eq_true.1 hall t (by simpa using ht)
    rw [Bool.and_eq_true, decide_eq_true_eq] at this
    exact this
  · rw [Tryz.params10]
    intro ds hd
    match ds, hd with
    | [d0, d1, d2], _ => exact ⟨rfl, rfl, rfl⟩
  · intro m xs h
    obtain ⟨x0, xs, rfl, h0, h⟩ := h.uncons
    obtain ⟨x1, xs, rfl, h1, h⟩ := h.uncons
    obtain ⟨x2, xs, rfl, h2, h⟩ := h.uncons
    obtain rfl := h.unnil
    obtain ⟨l, rfl⟩ := fit_pts h0
    obtain ⟨b, rfl⟩ := fit_box h1
    obtain ⟨n0, n1, n2, rfl, r0, r1, r2⟩ := fit_three h2
    exact AreaInside_pure l b n0 n1 n2 r0 r1 r2
set_option maxHeartbeats 40000000 in
theorem areaInside_facts : joinedFacts Tryz.pinned.checked.prog 10 Tryz.f10 Rows.areaInsideSpec Rows.areaInsideRow = true := by
  unfold joinedFacts
  simp only [Bool.and_eq_true]
  repeat' apply And.intro
  all_goals as_aux_lemma => kernel_rfl
theorem areaInside_row : Rows.AreaInsideSaid :=
  OpenClaim.holds_of_wide 10 Tryz.f10 rfl rfl rfl rfl rfl rfl rfl ⟨rfl, rfl, rfl, rfl, rfl⟩ rfl rfl rfl rfl rfl (by as_aux_lemma => kernel_rfl) Tryz.func10 areaInside_facts
    (of_decide_eq_true (by as_aux_lemma => kernel_rfl)) (by as_aux_lemma => unfold Func.isWrapper; first | (rw [if_pos (by decide +kernel)]; kernel_rfl) | (rw [if_neg (by decide +kernel)]; exact ⟨rfl, rfl⟩))
    (fun os started H enc _ => areaInside_lifted os started H enc)
theorem areaInside_named : Tryz.prog.funcNamed "glideslope/glideslopelaw05.AreaInside" = some 10 := by kernel_rfl
theorem areaInside_holds : Rows.AreaInsideCardSaid :=
  Claim7.holds_tied_plain_at .later [] [.data, .data, .data, .data, .pinned] true (true, "8d132721e60c3e414474b7b7d1fa76c26332388e2b61df2dc171e81fefcccd9a") false areaInside_row (fun _ h => by cases h) (by as_aux_lemma => kernel_rfl) (fun _ h => by cases h) areaInside_row_tie rfl ⟨rfl, rfl⟩ (by as_aux_lemma => kernel_rfl) rfl
    (fun f fn hf hfn => by
      obtain rfl : f = 10 := Option.some.inj (areaInside_named.symm.trans hf) |>.symm
      obtain rfl : fn = Tryz.f10 := (Option.some.inj (Tryz.func10.symm.trans hfn)).symm
      exact ⟨by as_aux_lemma => kernel_rfl, fun j t ht => by
        rw [Tryz.params10] at ht
        have hm : t ∈ [22, 26, 140] := by simpa using Array.mem_of_getElem? ht
        have hall : ([22, 26, 140].all fun u => !Tryz.prog.wantsStandIn u) = true := by as_aux_lemma => kernel_rfl
        exact (show Tryz.prog.wantsStandIn t = false by simpa using List.all_eq_true.1 hall t hm)⟩)
    (by as_aux_lemma => kernel_rfl)
#print axioms areaInside_holds
end Go.Proofs.YtlgkijilmpjdmaaGreatDoor
end
