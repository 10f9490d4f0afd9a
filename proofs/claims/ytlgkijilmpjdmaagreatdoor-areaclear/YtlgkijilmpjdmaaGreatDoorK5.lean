/- The machine, the contracts and the walks on which every Area law rests: a part of the proof. -/
import Derived.Test.YtlgkijilmpjdmaaGreatDoorK4
import Derived.ChangeKeysEq
import Derived.Shelf.Sort.Plain
import Derived.Shelf.Slices.In.SortNone
import Derived.Ground.NamesProg
import Derived.Test.YtlgkijilmpjdmaaGreatDoorProg
import Derived.Sort.OwnSortedInts
import Derived.Shelf.Slices.Clone
import Derived.Shelf.Slices.Delete
import Derived.Shelf.Small.Wraps
import Derived.Shelf.Small.Strs
import Derived.Shelf.SlGeneric
import Derived.Shelf.SlSortCmp.WholeK
import Derived.Ground.SlsfProg
import Derived.Ground.Names2Prog
import Derived.Shelf.SlSortCmp.NoneTotal
section
/- Calls that hand back a row of the caller's own. -/
set_option linter.unusedVariables false
set_option linter.unusedSimpArgs false
namespace Go.Proofs.Ab
open Go Go.RowKit

theorem AOwn.one {C : Cx} {f : FuncId} {xs : List PV} {e sz : Nat} {l : List (List PV)} (h : AOwn C f xs e sz fun ys => ys = l) : AOwnP C f xs (e, sz, l) := h
structure SP (p : Prop) : Prop where
  h : p
def endO1 (rs : List ResultVar) (s2 : AS) (e sz : Nat) (P : List (List PV) → Prop) : Prop := match rs with
    | [.tmp t] => lookK s2.fr t fun x => match x with
      | .own n => lookK s2.rw n fun r => SAnd (r.1 = e ∧ r.2.1 = sz) (SP (P r.2.2))
      | _ => False
    | _ => False
def endO (rs : List ResultVar) (s : AS) (e sz : Nat) (P : List (List PV) → Prop) : Prop :=
  leaveS s fun s2 => endO1 rs s2 e sz P
theorem endO1_inv {rs : List ResultVar} {s : AS} {e sz : Nat} {P : List (List PV) → Prop} (h : endO1 rs s e sz P) : ∃ t n ys, rs = [.tmp t] ∧ look s.fr t = some (.own n) ∧ look s.rw n = some (e, sz, ys) ∧ P ys := by
  unfold endO1 at h
  split at h
  case h_2 => exact h.elim
  rename_i t
  obtain ⟨x, hx, hq⟩ := lookK_sound h
  split at hq
  case h_2 => exact hq.elim
  rename_i n
  obtain ⟨⟨e', sz', ys⟩, hn, hq2⟩ := lookK_sound hq
  obtain ⟨⟨h1, h2⟩, hq3⟩ := hq2
  have h1' : e' = e := h1
  have h2' : sz' = sz := h2
  subst h1' h2'
  exact ⟨t, n, ys, rfl, hx, hn, hq3.h⟩
theorem RepL.anyV {w w' : World} {ok ok' : Nat → Prop} {cs : List PV} {us : List Value} (h : RepL w ok cs us) (hv : ∀ c ∈ cs, ∃ x, c = .v x) : RepL w' ok' cs us :=
  ⟨h.1, fun j c u hc hu => by
    obtain ⟨x, rfl⟩ := hv c (List.mem_of_getElem? hc)
    have := v_inv (h.2 j _ u hc hu)
    subst this
    exact .v _⟩
theorem AOwn.of_body {C : Cx} (hC : C.Good) {f : FuncId} {fn : Func} {c : Code} {rs : List ResultVar} {nt : Nat} (mu : List Nat) {xs : List PV} {e sz : Nat} {P : List (List PV) → Prop} (hV : ∀ ys, P ys → ∀ c ∈ ys.flatten, ∃ x, c = .v x) (hf : C.P.funcs[f]? = some fn) (hn : (fn.name == "runtime.NumGoroutine") = false) (hb : fn.body = some c)
    (hnt : fn.ntmps = nt) (hx : Nat.ble xs.length nt = true) (hrs : fn.results = rs.toArray) (hl : Nat.ble rs.length 4 = true)
    (h : codeK C nt mu c (initS xs) (fun o s => match o with | .exit _ => False | _ => endO rs s e sz P)) : AOwn C f xs e sz P := by
  refine ⟨⟨fn, c, hf, hn, hb⟩, fun w ok us hlt hg hr => ?_⟩
  refine (callsIn_wide (n := 0)).1 (callsIn_of_wp_marks hf hb trivial ?_)
  have hxl : us.length ≤ nt := by rw [hr.1]; exact Nat.le_of_ble_eq_true hx
  have hS : Sat C nt (initS xs) w.heap.size ⟨ok, fun _ => undef⟩ w { tmps := us.toArray ++ Array.replicate (fn.ntmps - us.toArray.size) undef, defers := [] } w ⟨ok, fun _ => none, fun _ => none⟩ := by
    refine ⟨rfl, by simp [hnt]; omega, fun t v ht => ?_, ⟨fun n T cs hn => (by cases hn), fun n e sz xs hn => (by cases hn), fun n o hn => (by cases hn)⟩, fun n m x y g hn => (by cases hn), fun n m x y g v hn => (by cases hn), fun n m x y g v v' hn => (by cases hn), fun n _ => ⟨rfl, rfl⟩, hlt, fun b hb => .inl hb, fun b hb => hb, rfl, Below.refl _ _, hg, fun t v ht => (by cases ht), ⟨fun n m x y hn => (nomatch hn), fun n m x y hn => (nomatch hn), fun n m x y v hn => (nomatch hn)⟩⟩
    obtain ⟨j, x, rfl, hj, rfl⟩ := initFr_look ht
    have hjl : j < us.length := by rw [hr.1]; exact (List.getElem?_eq_some_iff.1 hj).1
    rw [Nat.zero_add]
    refine ⟨by omega, ?_⟩
    have : (us.toArray ++ Array.replicate (fn.ntmps - us.toArray.size) undef).getD j undef = us[j] := by
      have h1 : j < us.length + (fn.ntmps - us.length) := by omega
      simp [Array.getD, h1, Array.getElem_append, hjl]
    simp only [this]
    exact hr.2 j x us[j] hj (List.getElem?_eq_getElem hjl)
  have hFW : FW C Fence.wide := ⟨fun _ => trivial, rfl, rfl, fun _ => rfl⟩
  refine (codeK_sound hC h).wp Fence.wide 0 hFW _ _ w _ w _ _ hS (fun o s a w' E hq hS' => ?_)
  have fin : endO rs s e sz P → LeavesInM Fence.wide 0 C.P fn a.tmps (fun r w' => ∃ u ys vs, r = .returned u ∧ P ys ∧ Below w.heap.size w w' ∧ w'.ownsRow w.heap.size e sz u ys.length vs ∧ (∀ y ∈ ys, y.length = sz) ∧ RepL w' (fun _ => False) ys.flatten vs) a.defers .returning w' := by
    intro hq
    rw [hS'.defs]
    refine leaveK_sound (C := C) (nt := nt) (s := s) (K := fun o' => endO1 rs { s with ob := o' } e sz P) hq hS' (fun ob' w' hq hS2 => ?_)
    obtain ⟨t, n, ys, rfl, hx, hn, hP⟩ := endO1_inv hq
    obtain ⟨v, us2, hv, ho, hsz, hrep, hok⟩ := hS2.mem.rw n e sz ys hn
    have hxr := (hS2.fr t _ hx).2
    have hxr' : E.ν n = some (a.tmps.getD t undef) := hxr
    rw [hv] at hxr'
    injection hxr' with hxr'
    refine ⟨_, results_run hrs (Nat.le_of_ble_eq_true hl) (vs := [a.tmps.getD t undef]) ⟨by simp [resOne], trivial⟩, _, ys, us2, rfl, hP, hS2.below, ?_, hsz, hrep.anyV (hV ys hP)⟩
    have e3 : (if h : ([a.tmps.getD t undef] : List Value).toArray.size = 1 then ([a.tmps.getD t undef] : List Value).toArray[0] else .tuple ([a.tmps.getD t undef] : List Value).toArray) = v := by simp [hxr']
    first
      | (rw [← hxr']; exact ho)
      | (simp [← hxr']; exact ho)
  cases o with
  | normal => exact fin hq
  | ret => exact fin hq
  | exit i => exact hq.elim
theorem AOwn.call {C : Cx} {nt : Nat} {s : AS} {f : FuncId} {xs : List PV} {e sz : Nat} {P : List (List PV) → Prop} {K : SV → AS → Prop} (h : AOwn C f xs e sz P) (hK : ∀ ys, P ys → addRw s s.rw (e, sz, ys) fun s' n => K (.own n) s') : ACall C nt s f (xs.map SV.p) K := by
  refine ⟨h.1, fun B ok0 w0 a w E us R hS hr hR => ?_⟩
  have hr' : RepL w E.ok xs us := ⟨by rw [hr.1, List.length_map], fun j c u hc hu => by
    have := hr.2 j (.p c) u (by rw [List.getElem?_map, hc]; rfl) hu
    exact this⟩
  refine (h.2 w E.ok us hS.ok_lt hS.glob hr').mono ?_
  rintro r w' ⟨u, ys, vs, rfl, hP, hb, hown, hsz, hrep⟩
  have hk := hK ys hP
  rw [addRw_eq] at hk
  have hown' : w'.ownsRow B e sz u ys.length vs := by
    refine ⟨hown.1, ?_⟩
    rcases hown.2 with h1 | ⟨g, cp, cur, h1, h2, h3⟩
    · exact .inl h1
    · exact .inr ⟨g, cp, cur, h1, Nat.le_trans hS.size_le h2, h3⟩
  obtain ⟨E', hle, hs, hh, hS'⟩ := hS.row (e := e) (sz := sz) (ys := ys) (vs := vs) (v := .slice none 0 0) (v' := u) (w' := w') (rw' := s.rw)
    (fun m x hm => ⟨hm, fun k hk => by cases hkb : k.ownBlock with
      | none => exact .inl rfl
      | some b => exact .inr (by simp [Value.ownBlock])⟩)
    (fun n x g _ _ => by simp [Value.ownBlock]) (fun g hg => by simp [Value.ownBlock] at hg) (fun g hg => by simp [Value.ownBlock] at hg) ⟨hb.os, hb.tape, hb.output, hb.size, fun k hk _ => hb.block k hk⟩ hown' hsz (hrep.ext (fun _ h => h.elim) (fun _ h => h.elim)) (by
      rcases hown.2 with ⟨rfl, _⟩ | ⟨g, cp, cur, rfl, h2, _⟩
      · exact .inl rfl
      · exact .inr ⟨g, rfl, h2⟩) (fun _ _ _ => by simp [Value.ownBlock])
  exact ⟨_, rfl, hR _ _ _ _ E' hk hS' hs⟩
end Go.Proofs.Ab
end
section
/- Parse: the taker's words and numbers. -/
set_option maxRecDepth 100000
set_option linter.unusedVariables false
set_option linter.unusedSimpArgs false
namespace Go.Proofs.Ab.Area
open Go Go.RowKit Go.Proofs.Ab
/-- A word as an integer; the taker's next word, the next number. -/
def intB (a : ByteArray) : Int × Bool := intV (Lib.trimPrefix a.data.toList [45]) (Lib.hasPrefix a.data.toList [45])
abbrev Tk := List ByteArray × Bool
abbrev noB : ByteArray := ⟨#[]⟩
def tkW (st : Tk) : ByteArray × Tk := match st.1 with
  | [] => (noB, ([], true))
  | a :: ws => if a = noB then (noB, ([], true)) else (a, (ws, st.2))
def tkV (st : Tk) : Int × Tk := ((intB (tkW st).1).1, ((tkW st).2.1, (tkW st).2.2 || !(intB (tkW st).1).2))
theorem hInt {m : Int} {a : ByteArray} {va : Int} {ba : Bool} (h : intB a = (va, ba)) : APure (CQ m) 206 [St a] (.tup [I va, Bo ba]) := by
  have := integer_pure (m := m) a
  have e : intV (Lib.trimPrefix a.data.toList [45]) (Lib.hasPrefix a.data.toList [45]) = (va, ba) := h
  rw [e] at this
  exact this
theorem hOne (a : ByteArray) (ws : List ByteArray) : (0 : Int) ≤ 1 ∧ (1 : Int) ≤ ((cellsS (a :: ws)).length : Int) := ⟨by omega, by simp; omega⟩
theorem hIn0 (a : ByteArray) (ws : List ByteArray) : 0 ≤ (0 : Int) ∧ (cellsS (a :: ws))[(0 : Int).toNat]? = some [St a] := ⟨by omega, rfl⟩
theorem hEmp (a : ByteArray) (h : a ≠ noB) {m : Int} : ∀ w, (binOp .eql 9 (.string a) (.string ⟨#[]⟩)).run (CQ m).P w = .ok (.bool false) w := fun w => by
  have := eql_string (m := m) 9 a ⟨#[]⟩ w
  rw [show decide (a = (⟨#[]⟩ : ByteArray)) = false from decide_eq_false h] at this
  exact this
theorem hEmp1 {m : Int} : ∀ w, (binOp .eql 9 (.string noB) (.string ⟨#[]⟩)).run (CQ m).P w = .ok (.bool true) w := fun w => eql_string (m := m) 9 noB ⟨#[]⟩ w
theorem hLen (a : ByteArray) (ws : List ByteArray) : ¬ (((cellsS (a :: ws)).length : Nat) : Int) = 0 := by simp only [List.length_map, List.length_cons]; omega
noncomputable def c78 : Code := Tryz.f78.body.getD .skip
noncomputable def y78 : Code := match pieceAt [1, 1, 1] c78 with | .seq (.seq _ (.block _ (.rangeFunc _ _ _ (.block _ b)))) _ => b | _ => .skip
noncomputable def p9 : Code := match pieceAt [1, 1, 1] y78 with | .seq a _ => a | _ => .skip
noncomputable def p10 : Code := match pieceAt [1, 1, 1, 1] y78 with | .seq a _ => a | _ => .skip
noncomputable def p11 : Code := match pieceAt [1, 1, 1, 1, 1] y78 with | .seq a _ => a | _ => .skip
noncomputable def p12 : Code := match pieceAt [1, 1, 1, 1, 1, 1] y78 with | .seq a _ => a | _ => .skip
noncomputable def p13 : Code := match pieceAt [1, 1, 1, 1, 1, 1, 1] y78 with | .seq a _ => a | _ => .skip

set_option maxHeartbeats 4000000 in
theorem word9 {m : Int} {gd gl g5 : Nat} {L : LpC} {T R : PV} {O : List (List PV)} {ended : Bool} (ws : List ByteArray) (wr : Bool) :
    AWp (CQ m) Tryz.f78.ntmps p9 (fun e s' => match e with | .normal => SLe (CQ m) Tryz.f78.ntmps s' ⟨[(12, .p (Bo (decide ((tkW (ws, wr)).1 = bArea)))), (11, .bnd 169 [.box 8 0]), (10, .bnd 168 [.box 8 0]), (9, .box 8 0), (8, .p (Bo ended)), (5, .box 3 0), (4, .box 2 0), (3, .box 1 0), (2, .box 0 0)], [(8, (252, [.seq 1 (cellsS (tkW (ws, wr)).2.1), Bo (tkW (ws, wr)).2.2])), (4, (9, [R])), (2, (28, [I 0])), (1, (3, [I 0])), (0, (52, [nilS]))], [(5, (181, 4, O))], 9, [(0, .p (.v (.func (.yield gl) #[] #[]))), (1, .box 4 0), (3, .p T), (Tryz.f202.ntmps + 20, .clo 202 [.box 4 0]), (Tryz.f202.ntmps + 5, .box 3 0), (Tryz.f202.ntmps + 4, .box 2 0), (Tryz.f202.ntmps + 3, .box 1 0), (Tryz.f202.ntmps + 2, .box 0 0)], [(7, .loop gl .busy Tryz.f78.ntmps [(20, .clo 202 [.box 4 0]), (5, .box 3 0), (4, .box 2 0), (3, .box 1 0), (2, .box 0 0)] L), (6, .dfr gd), (3, .hold g5 52 (.own 5))], []⟩ | _ => False) ⟨[(11, .bnd 169 [.box 8 0]), (10, .bnd 168 [.box 8 0]), (9, .box 8 0), (8, .p (Bo ended)), (5, .box 3 0), (4, .box 2 0), (3, .box 1 0), (2, .box 0 0)], [(8, (252, [.seq 1 (cellsS ws), Bo wr])), (4, (9, [R])), (2, (28, [I 0])), (1, (3, [I 0])), (0, (52, [nilS]))], [(5, (181, 4, O))], 9, [(0, .p (.v (.func (.yield gl) #[] #[]))), (1, .box 4 0), (3, .p T), (Tryz.f202.ntmps + 20, .clo 202 [.box 4 0]), (Tryz.f202.ntmps + 5, .box 3 0), (Tryz.f202.ntmps + 4, .box 2 0), (Tryz.f202.ntmps + 3, .box 1 0), (Tryz.f202.ntmps + 2, .box 0 0)], [(7, .loop gl .busy Tryz.f78.ntmps [(20, .clo 202 [.box 4 0]), (5, .box 3 0), (4, .box 2 0), (3, .box 1 0), (2, .box 0 0)] L), (6, .dfr gd), (3, .hold g5 52 (.own 5))], []⟩ := by
  rcases ws with _ | ⟨a, ws⟩
  · skip
    show AWp (CQ m) Tryz.f78.ntmps p9 (fun e s' => match e with | .normal => SLe (CQ m) Tryz.f78.ntmps s' ⟨[(12, .p (Bo (decide (noB = bArea)))), (11, .bnd 169 [.box 8 0]), (10, .bnd 168 [.box 8 0]), (9, .box 8 0), (8, .p (Bo ended)), (5, .box 3 0), (4, .box 2 0), (3, .box 1 0), (2, .box 0 0)], [(8, (252, [.seq 1 (cellsS []), Bo true])), (4, (9, [R])), (2, (28, [I 0])), (1, (3, [I 0])), (0, (52, [nilS]))], [(5, (181, 4, O))], 9, [(0, .p (.v (.func (.yield gl) #[] #[]))), (1, .box 4 0), (3, .p T), (Tryz.f202.ntmps + 20, .clo 202 [.box 4 0]), (Tryz.f202.ntmps + 5, .box 3 0), (Tryz.f202.ntmps + 4, .box 2 0), (Tryz.f202.ntmps + 3, .box 1 0), (Tryz.f202.ntmps + 2, .box 0 0)], [(7, .loop gl .busy Tryz.f78.ntmps [(20, .clo 202 [.box 4 0]), (5, .box 3 0), (4, .box 2 0), (3, .box 1 0), (2, .box 0 0)] L), (6, .dfr gd), (3, .hold g5 52 (.own 5))], []⟩ | _ => False) _
    have hq := fun w => eql_string (m := m) 9 noB bArea w
    generalize hd : decide (noB = bArea) = d at hq ⊢
    cases d
    all_goals
      refine codeK_sound goodQ (mu := []) ?_
      conv => whnf
      repeat' (first
        | fail)
      refine ACall.inline goodQ [] (fn := Tryz.f168) (by kernel_rfl) (by kernel_rfl) rfl rfl (by kernel_rfl) rfl (by kernel_rfl) ?_
      conv => whnf
      repeat' (first
        | (refine SBool.mk (fun _ => ?_) (fun h => absurd (of_decide_eq_true rfl) h); conv => whnf)
        | (refine SBool.mk (fun h => absurd h (of_decide_eq_false rfl)) (fun _ => ?_); conv => whnf)
        | (refine SEx.mk _ (by first | exact hq) ?_; conv => whnf)
        | fail)
      all_goals first
        | exact absurd (by assumption) (hLen _ _)
        | skip
      skip
      · refine SLe.ofO [(8, 8), (4, 4), (2, 2), (1, 1), (0, 0), (3, 3)] [(5, 5)] [(7, 7), (6, 6), (3, 3)] rfl rfl rfl ?_
        conv => whnf
        repeat' (first
        | exact True.intro
        | (refine SAnd.mk (PLeL.cons (PLe.nil 1) (PLeL.refl _)) ?_; conv => whnf)
        | (refine SAnd.mk (PLe.refl _) ?_; conv => whnf)
        | (refine SAnd.mk (PLeL.refl _) ?_; conv => whnf)
        | (refine SAnd.mk rfl ?_; conv => whnf)
        | (refine SAnd.mk ⟨rfl, rfl⟩ ?_; conv => whnf))
  · by_cases ha : a = noB
    · subst ha
      have e : tkW (noB :: ws, wr) = (noB, ([], true)) := by simp [tkW]
      rw [e]
      have hq := fun w => eql_string (m := m) 9 noB bArea w
      generalize hd : decide (noB = bArea) = d at hq ⊢
      cases d
      all_goals
        refine codeK_sound goodQ (mu := []) ?_
        conv => whnf
        repeat' (first
          | fail)
        refine ACall.inline goodQ [] (fn := Tryz.f168) (by kernel_rfl) (by kernel_rfl) rfl rfl (by kernel_rfl) rfl (by kernel_rfl) ?_
        conv => whnf
        repeat' (first
          | (refine SBool.mk (fun _ => ?_) (fun h => absurd (of_decide_eq_true rfl) h); conv => whnf)
          | (refine SBool.mk (fun h => absurd h (of_decide_eq_false rfl)) (fun _ => ?_); conv => whnf)
          | (refine SEx.mk _ (by first | exact hIn0 _ _ | exact hEmp1 | exact hq) ?_; conv => whnf)
          | fail)
        all_goals first
          | exact absurd (by assumption) (hLen _ _)
          | skip
        skip
        · refine SLe.ofO [(8, 8), (4, 4), (2, 2), (1, 1), (0, 0), (3, 3)] [(5, 5)] [(7, 7), (6, 6), (3, 3)] rfl rfl rfl ?_
          conv => whnf
          repeat' (first
          | exact True.intro
          | (refine SAnd.mk (PLeL.cons (PLe.nil 1) (PLeL.refl _)) ?_; conv => whnf)
          | (refine SAnd.mk (PLe.refl _) ?_; conv => whnf)
          | (refine SAnd.mk (PLeL.refl _) ?_; conv => whnf)
          | (refine SAnd.mk rfl ?_; conv => whnf)
          | (refine SAnd.mk ⟨rfl, rfl⟩ ?_; conv => whnf))
    · skip
      have e : tkW (a :: ws, wr) = (a, (ws, wr)) := by simp [tkW, ha]
      rw [e]
      have hq := fun w => eql_string (m := m) 9 a bArea w
      generalize hd : decide (a = bArea) = d at hq ⊢
      cases d
      all_goals
        refine codeK_sound goodQ (mu := []) ?_
        conv => whnf
        repeat' (first
          | fail)
        refine ACall.inline goodQ [] (fn := Tryz.f168) (by kernel_rfl) (by kernel_rfl) rfl rfl (by kernel_rfl) rfl (by kernel_rfl) ?_
        conv => whnf
        repeat' (first
          | (refine SBool.mk (fun _ => ?_) (fun h => absurd (of_decide_eq_true rfl) h); conv => whnf)
          | (refine SBool.mk (fun h => absurd h (of_decide_eq_false rfl)) (fun _ => ?_); conv => whnf)
          | (refine SEx.mk _ (by first | exact hIn0 _ _ | exact hOne _ _ | exact hEmp _ ha | exact hq) ?_; conv => whnf)
          | (refine SAnd.mk (by first | exact rfl | kernel_rfl | omega | decide | exact hIn0 _ _ | exact hOne _ _ | exact hEmp _ ha | exact hq) ?_; conv => whnf)
          | fail)
        all_goals first
          | exact absurd (by assumption) (hLen _ _)
          | skip
        skip
        · refine SLe.ofO [(8, 8), (4, 4), (2, 2), (1, 1), (0, 0), (3, 3)] [(5, 5)] [(7, 7), (6, 6), (3, 3)] rfl rfl rfl ?_
          conv => whnf
          repeat' (first
          | exact True.intro
          | (refine SAnd.mk (PLe.refl _) ?_; conv => whnf)
          | (refine SAnd.mk (PLeL.refl _) ?_; conv => whnf)
          | (refine SAnd.mk rfl ?_; conv => whnf)
          | (refine SAnd.mk ⟨rfl, rfl⟩ ?_; conv => whnf))

set_option maxHeartbeats 4000000 in
theorem word10 {m : Int} {gd gl g5 : Nat} {L : LpC} {T R : PV} {O : List (List PV)} {ended : Bool} (isA : Bool) (ws : List ByteArray) (wr : Bool) :
    AWp (CQ m) Tryz.f78.ntmps p10 (fun e s' => match e with | .normal => ∃ g13 : Nat, SLe (CQ m) Tryz.f78.ntmps s' ⟨[(13, .box 9 0), (12, .p (Bo isA)), (11, .bnd 169 [.box 8 0]), (10, .bnd 168 [.box 8 0]), (9, .box 8 0), (8, .p (Bo ended)), (5, .box 3 0), (4, .box 2 0), (3, .box 1 0), (2, .box 0 0)], [(8, (252, [.seq 1 (cellsS (tkW (ws, wr)).2.1), Bo (tkW (ws, wr)).2.2])), (4, (9, [R])), (2, (28, [I 0])), (1, (3, [I 0])), (0, (52, [nilS]))], [(10, (24, 2, [])), (5, (181, 4, O))], 11, [(0, .p (.v (.func (.yield gl) #[] #[]))), (1, .box 4 0), (3, .p T), (Tryz.f202.ntmps + 20, .clo 202 [.box 4 0]), (Tryz.f202.ntmps + 5, .box 3 0), (Tryz.f202.ntmps + 4, .box 2 0), (Tryz.f202.ntmps + 3, .box 1 0), (Tryz.f202.ntmps + 2, .box 0 0)], [(9, .hst g13 181 4 [(3, .own 10), (0, .p (St (tkW (ws, wr)).1)), (1, .p (I 0)), (2, .p (I 0))]), (7, .loop gl .busy Tryz.f78.ntmps [(20, .clo 202 [.box 4 0]), (5, .box 3 0), (4, .box 2 0), (3, .box 1 0), (2, .box 0 0)] L), (6, .dfr gd), (3, .hold g5 52 (.own 5))], []⟩ | _ => False) ⟨[(12, .p (Bo isA)), (11, .bnd 169 [.box 8 0]), (10, .bnd 168 [.box 8 0]), (9, .box 8 0), (8, .p (Bo ended)), (5, .box 3 0), (4, .box 2 0), (3, .box 1 0), (2, .box 0 0)], [(8, (252, [.seq 1 (cellsS ws), Bo wr])), (4, (9, [R])), (2, (28, [I 0])), (1, (3, [I 0])), (0, (52, [nilS]))], [(5, (181, 4, O))], 9, [(0, .p (.v (.func (.yield gl) #[] #[]))), (1, .box 4 0), (3, .p T), (Tryz.f202.ntmps + 20, .clo 202 [.box 4 0]), (Tryz.f202.ntmps + 5, .box 3 0), (Tryz.f202.ntmps + 4, .box 2 0), (Tryz.f202.ntmps + 3, .box 1 0), (Tryz.f202.ntmps + 2, .box 0 0)], [(7, .loop gl .busy Tryz.f78.ntmps [(20, .clo 202 [.box 4 0]), (5, .box 3 0), (4, .box 2 0), (3, .box 1 0), (2, .box 0 0)] L), (6, .dfr gd), (3, .hold g5 52 (.own 5))], []⟩ := by
  rcases ws with _ | ⟨a, ws⟩
  · skip
    show AWp (CQ m) Tryz.f78.ntmps p10 (fun e s' => match e with | .normal => ∃ g13 : Nat, SLe (CQ m) Tryz.f78.ntmps s' ⟨[(13, .box 9 0), (12, .p (Bo isA)), (11, .bnd 169 [.box 8 0]), (10, .bnd 168 [.box 8 0]), (9, .box 8 0), (8, .p (Bo ended)), (5, .box 3 0), (4, .box 2 0), (3, .box 1 0), (2, .box 0 0)], [(8, (252, [.seq 1 (cellsS []), Bo true])), (4, (9, [R])), (2, (28, [I 0])), (1, (3, [I 0])), (0, (52, [nilS]))], [(10, (24, 2, [])), (5, (181, 4, O))], 11, [(0, .p (.v (.func (.yield gl) #[] #[]))), (1, .box 4 0), (3, .p T), (Tryz.f202.ntmps + 20, .clo 202 [.box 4 0]), (Tryz.f202.ntmps + 5, .box 3 0), (Tryz.f202.ntmps + 4, .box 2 0), (Tryz.f202.ntmps + 3, .box 1 0), (Tryz.f202.ntmps + 2, .box 0 0)], [(9, .hst g13 181 4 [(3, .own 10), (0, .p (St noB)), (1, .p (I 0)), (2, .p (I 0))]), (7, .loop gl .busy Tryz.f78.ntmps [(20, .clo 202 [.box 4 0]), (5, .box 3 0), (4, .box 2 0), (3, .box 1 0), (2, .box 0 0)] L), (6, .dfr gd), (3, .hold g5 52 (.own 5))], []⟩ | _ => False) _
    refine codeK_sound goodQ (mu := [1013]) ?_
    conv => whnf
    repeat' (first
      | fail)
    refine ACall.inline goodQ [] (fn := Tryz.f168) (by kernel_rfl) (by kernel_rfl) rfl rfl (by kernel_rfl) rfl (by kernel_rfl) ?_
    conv => whnf
    repeat' (first
      | (refine SBool.mk (fun _ => ?_) (fun h => absurd (of_decide_eq_true rfl) h); conv => whnf)
      | (refine SAll.mk (fun _ => ?_); conv => whnf)
      | fail)
    all_goals first
      | exact absurd (by assumption) (hLen _ _)
      | skip
    refine ⟨(by assumption : Nat), SLe.rowHs 9 3 24 2 ?_⟩
    conv => whnf
    skip
    · refine SLe.ofO [(9, 9), (8, 8), (4, 4), (2, 2), (1, 1), (0, 0), (3, 3)] [(10, 10), (5, 5)] [(9, 9), (7, 7), (6, 6), (3, 3)] rfl rfl rfl ?_
      conv => whnf
      repeat' (first
      | exact True.intro
      | (refine SAnd.mk (PLeL.cons (PLe.nil 1) (PLeL.refl _)) ?_; conv => whnf)
      | (refine SAnd.mk (PLe.refl _) ?_; conv => whnf)
      | (refine SAnd.mk (PLeL.refl _) ?_; conv => whnf)
      | (refine SAnd.mk rfl ?_; conv => whnf)
      | (refine SAnd.mk ⟨rfl, rfl⟩ ?_; conv => whnf))
  · by_cases ha : a = noB
    · subst ha
      have e : tkW (noB :: ws, wr) = (noB, ([], true)) := by simp [tkW]
      rw [e]
      refine codeK_sound goodQ (mu := [1013]) ?_
      conv => whnf
      repeat' (first
        | fail)
      refine ACall.inline goodQ [] (fn := Tryz.f168) (by kernel_rfl) (by kernel_rfl) rfl rfl (by kernel_rfl) rfl (by kernel_rfl) ?_
      conv => whnf
      repeat' (first
        | (refine SBool.mk (fun _ => ?_) (fun h => absurd (of_decide_eq_true rfl) h); conv => whnf)
        | (refine SBool.mk (fun h => absurd h (of_decide_eq_false rfl)) (fun _ => ?_); conv => whnf)
        | (refine SEx.mk _ (by first | exact hIn0 _ _ | exact hEmp1) ?_; conv => whnf)
        | (refine SAll.mk (fun _ => ?_); conv => whnf)
        | fail)
      all_goals first
        | exact absurd (by assumption) (hLen _ _)
        | skip
      refine ⟨(by assumption : Nat), SLe.rowHs 9 3 24 2 ?_⟩
      conv => whnf
      skip
      · refine SLe.ofO [(9, 9), (8, 8), (4, 4), (2, 2), (1, 1), (0, 0), (3, 3)] [(10, 10), (5, 5)] [(9, 9), (7, 7), (6, 6), (3, 3)] rfl rfl rfl ?_
        conv => whnf
        repeat' (first
        | exact True.intro
        | (refine SAnd.mk (PLeL.cons (PLe.nil 1) (PLeL.refl _)) ?_; conv => whnf)
        | (refine SAnd.mk (PLe.refl _) ?_; conv => whnf)
        | (refine SAnd.mk (PLeL.refl _) ?_; conv => whnf)
        | (refine SAnd.mk rfl ?_; conv => whnf)
        | (refine SAnd.mk ⟨rfl, rfl⟩ ?_; conv => whnf))
    · skip
      have e : tkW (a :: ws, wr) = (a, (ws, wr)) := by simp [tkW, ha]
      rw [e]
      refine codeK_sound goodQ (mu := [1013]) ?_
      conv => whnf
      repeat' (first
        | fail)
      refine ACall.inline goodQ [] (fn := Tryz.f168) (by kernel_rfl) (by kernel_rfl) rfl rfl (by kernel_rfl) rfl (by kernel_rfl) ?_
      conv => whnf
      repeat' (first
        | (refine SBool.mk (fun h => absurd h (of_decide_eq_false rfl)) (fun _ => ?_); conv => whnf)
        | (refine SEx.mk _ (by first | exact hIn0 _ _ | exact hOne _ _ | exact hEmp _ ha) ?_; conv => whnf)
        | (refine SAll.mk (fun _ => ?_); conv => whnf)
        | (refine SAnd.mk (by first | exact rfl | kernel_rfl | omega | decide | exact hIn0 _ _ | exact hOne _ _ | exact hEmp _ ha) ?_; conv => whnf)
        | fail)
      all_goals first
        | exact absurd (by assumption) (hLen _ _)
        | skip
      refine ⟨(by assumption : Nat), SLe.rowHs 9 3 24 2 ?_⟩
      conv => whnf
      skip
      · refine SLe.ofO [(9, 9), (8, 8), (4, 4), (2, 2), (1, 1), (0, 0), (3, 3)] [(10, 10), (5, 5)] [(9, 9), (7, 7), (6, 6), (3, 3)] rfl rfl rfl ?_
        conv => whnf
        repeat' (first
        | exact True.intro
        | (refine SAnd.mk (PLe.refl _) ?_; conv => whnf)
        | (refine SAnd.mk (PLeL.refl _) ?_; conv => whnf)
        | (refine SAnd.mk rfl ?_; conv => whnf)
        | (refine SAnd.mk ⟨rfl, rfl⟩ ?_; conv => whnf))

set_option maxHeartbeats 4000000 in
theorem num11 {m : Int} {gd gl g5 : Nat} {L : LpC} {T R : PV} {O : List (List PV)} {ended : Bool} {g13 : Nat} {isA : Bool} {nm : ByteArray} (ws : List ByteArray) (wr : Bool) :
    AWp (CQ m) Tryz.f78.ntmps p11 (fun e s' => match e with | .normal => SLe (CQ m) Tryz.f78.ntmps s' ⟨[(13, .box 9 0), (12, .p (Bo isA)), (11, .bnd 169 [.box 8 0]), (10, .bnd 168 [.box 8 0]), (9, .box 8 0), (8, .p (Bo ended)), (5, .box 3 0), (4, .box 2 0), (3, .box 1 0), (2, .box 0 0)], [(8, (252, [.seq 1 (cellsS (tkV (ws, wr)).2.1), Bo (tkV (ws, wr)).2.2])), (4, (9, [R])), (2, (28, [I 0])), (1, (3, [I 0])), (0, (52, [nilS]))], [(10, (24, 2, [])), (5, (181, 4, O))], 11, [(0, .p (.v (.func (.yield gl) #[] #[]))), (1, .box 4 0), (3, .p T), (Tryz.f202.ntmps + 20, .clo 202 [.box 4 0]), (Tryz.f202.ntmps + 5, .box 3 0), (Tryz.f202.ntmps + 4, .box 2 0), (Tryz.f202.ntmps + 3, .box 1 0), (Tryz.f202.ntmps + 2, .box 0 0)], [(9, .hst g13 181 4 [(3, .own 10), (0, .p (St nm)), (1, .p (I (tkV (ws, wr)).1)), (2, .p (I 0))]), (7, .loop gl .busy Tryz.f78.ntmps [(20, .clo 202 [.box 4 0]), (5, .box 3 0), (4, .box 2 0), (3, .box 1 0), (2, .box 0 0)] L), (6, .dfr gd), (3, .hold g5 52 (.own 5))], []⟩ | _ => False) ⟨[(13, .box 9 0), (12, .p (Bo isA)), (11, .bnd 169 [.box 8 0]), (10, .bnd 168 [.box 8 0]), (9, .box 8 0), (8, .p (Bo ended)), (5, .box 3 0), (4, .box 2 0), (3, .box 1 0), (2, .box 0 0)], [(8, (252, [.seq 1 (cellsS ws), Bo wr])), (4, (9, [R])), (2, (28, [I 0])), (1, (3, [I 0])), (0, (52, [nilS]))], [(10, (24, 2, [])), (5, (181, 4, O))], 11, [(0, .p (.v (.func (.yield gl) #[] #[]))), (1, .box 4 0), (3, .p T), (Tryz.f202.ntmps + 20, .clo 202 [.box 4 0]), (Tryz.f202.ntmps + 5, .box 3 0), (Tryz.f202.ntmps + 4, .box 2 0), (Tryz.f202.ntmps + 3, .box 1 0), (Tryz.f202.ntmps + 2, .box 0 0)], [(9, .hst g13 181 4 [(3, .own 10), (0, .p (St nm)), (1, .p (I 0)), (2, .p (I 0))]), (7, .loop gl .busy Tryz.f78.ntmps [(20, .clo 202 [.box 4 0]), (5, .box 3 0), (4, .box 2 0), (3, .box 1 0), (2, .box 0 0)] L), (6, .dfr gd), (3, .hold g5 52 (.own 5))], []⟩ := by
  rcases ws with _ | ⟨a, ws⟩
  · skip
    obtain ⟨va, ba, hv⟩ : ∃ va ba, intB noB = (va, ba) := ⟨_, _, rfl⟩
    have e : tkV ([], wr) = (va, ([], true || !ba)) := by simp [tkV, tkW, hv]
    rw [e]
    cases ba <;> cases wr
    all_goals
      refine codeK_sound goodQ (mu := []) ?_
      conv => whnf
      repeat' (first
        | fail)
      refine ACall.inline goodQ [7] (fn := Tryz.f169) (by kernel_rfl) (by kernel_rfl) rfl rfl (by kernel_rfl) rfl (by kernel_rfl) ?_
      conv => whnf
      repeat' (first
        | fail)
      refine ACall.inline goodQ [] (fn := Tryz.f168) (by kernel_rfl) (by kernel_rfl) rfl rfl (by kernel_rfl) rfl (by kernel_rfl) ?_
      conv => whnf
      repeat' (first
        | (refine SBool.mk (fun _ => ?_) (fun h => absurd (of_decide_eq_true rfl) h); conv => whnf)
        | (refine SEx.mk _ (by first | exact hInt hv) ?_; conv => whnf)
        | fail)
      all_goals first
        | exact absurd (by assumption) (hLen _ _)
        | skip
      skip
      · refine SLe.ofO [(9, 9), (8, 8), (4, 4), (2, 2), (1, 1), (0, 0), (3, 3)] [(10, 10), (5, 5)] [(9, 9), (7, 7), (6, 6), (3, 3)] rfl rfl rfl ?_
        conv => whnf
        repeat' (first
        | exact True.intro
        | (refine SAnd.mk (PLeL.cons (PLe.nil 1) (PLeL.refl _)) ?_; conv => whnf)
        | (refine SAnd.mk (show PLeL _ _ from PLeL.refl _) ?_; conv => whnf)
        | (refine SAnd.mk (PLe.refl _) ?_; conv => whnf)
        | (refine SAnd.mk rfl ?_; conv => whnf)
        | (refine SAnd.mk ⟨rfl, rfl⟩ ?_; conv => whnf))
  · by_cases ha : a = noB
    · subst ha
      obtain ⟨va, ba, hv⟩ : ∃ va ba, intB noB = (va, ba) := ⟨_, _, rfl⟩
      have e : tkV ((noB :: ws), wr) = (va, ([], true || !ba)) := by simp [tkV, tkW, hv]
      rw [e]
      cases ba <;> cases wr
      all_goals
        refine codeK_sound goodQ (mu := []) ?_
        conv => whnf
        repeat' (first
          | fail)
        refine ACall.inline goodQ [7] (fn := Tryz.f169) (by kernel_rfl) (by kernel_rfl) rfl rfl (by kernel_rfl) rfl (by kernel_rfl) ?_
        conv => whnf
        repeat' (first
          | fail)
        refine ACall.inline goodQ [] (fn := Tryz.f168) (by kernel_rfl) (by kernel_rfl) rfl rfl (by kernel_rfl) rfl (by kernel_rfl) ?_
        conv => whnf
        repeat' (first
          | (refine SBool.mk (fun _ => ?_) (fun h => absurd (of_decide_eq_true rfl) h); conv => whnf)
          | (refine SBool.mk (fun h => absurd h (of_decide_eq_false rfl)) (fun _ => ?_); conv => whnf)
          | (refine SEx.mk _ (by first | exact hIn0 _ _ | exact hEmp1 | exact hInt hv) ?_; conv => whnf)
          | fail)
        all_goals first
          | exact absurd (by assumption) (hLen _ _)
          | skip
        skip
        · refine SLe.ofO [(9, 9), (8, 8), (4, 4), (2, 2), (1, 1), (0, 0), (3, 3)] [(10, 10), (5, 5)] [(9, 9), (7, 7), (6, 6), (3, 3)] rfl rfl rfl ?_
          conv => whnf
          repeat' (first
          | exact True.intro
          | (refine SAnd.mk (PLeL.cons (PLe.nil 1) (PLeL.refl _)) ?_; conv => whnf)
          | (refine SAnd.mk (show PLeL _ _ from PLeL.refl _) ?_; conv => whnf)
          | (refine SAnd.mk (PLe.refl _) ?_; conv => whnf)
          | (refine SAnd.mk rfl ?_; conv => whnf)
          | (refine SAnd.mk ⟨rfl, rfl⟩ ?_; conv => whnf))
    · skip
      obtain ⟨va, ba, hv⟩ : ∃ va ba, intB a = (va, ba) := ⟨_, _, rfl⟩
      have e : tkV ((a :: ws), wr) = (va, (ws, wr || !ba)) := by simp [tkV, tkW, ha, hv]
      rw [e]
      cases ba <;> cases wr
      all_goals
        refine codeK_sound goodQ (mu := []) ?_
        conv => whnf
        repeat' (first
          | fail)
        refine ACall.inline goodQ [7] (fn := Tryz.f169) (by kernel_rfl) (by kernel_rfl) rfl rfl (by kernel_rfl) rfl (by kernel_rfl) ?_
        conv => whnf
        repeat' (first
          | fail)
        refine ACall.inline goodQ [] (fn := Tryz.f168) (by kernel_rfl) (by kernel_rfl) rfl rfl (by kernel_rfl) rfl (by kernel_rfl) ?_
        conv => whnf
        repeat' (first
          | (refine SBool.mk (fun h => absurd h (of_decide_eq_false rfl)) (fun _ => ?_); conv => whnf)
          | (refine SEx.mk _ (by first | exact hIn0 _ _ | exact hOne _ _ | exact hEmp _ ha | exact hInt hv) ?_; conv => whnf)
          | (refine SAnd.mk (by first | exact rfl | kernel_rfl | omega | decide | exact hIn0 _ _ | exact hOne _ _ | exact hEmp _ ha | exact hInt hv) ?_; conv => whnf)
          | fail)
        all_goals first
          | exact absurd (by assumption) (hLen _ _)
          | skip
        skip
        · refine SLe.ofO [(9, 9), (8, 8), (4, 4), (2, 2), (1, 1), (0, 0), (3, 3)] [(10, 10), (5, 5)] [(9, 9), (7, 7), (6, 6), (3, 3)] rfl rfl rfl ?_
          conv => whnf
          repeat' (first
          | exact True.intro
          | (refine SAnd.mk (show PLeL _ _ from PLeL.refl _) ?_; conv => whnf)
          | (refine SAnd.mk (PLe.refl _) ?_; conv => whnf)
          | (refine SAnd.mk rfl ?_; conv => whnf)
          | (refine SAnd.mk ⟨rfl, rfl⟩ ?_; conv => whnf))

set_option maxHeartbeats 4000000 in
theorem num12 {m : Int} {gd gl g5 : Nat} {L : LpC} {T R : PV} {O : List (List PV)} {ended : Bool} {g13 : Nat} {isA : Bool} {nm : ByteArray} {x1 : Int} (ws : List ByteArray) (wr : Bool) :
    AWp (CQ m) Tryz.f78.ntmps p12 (fun e s' => match e with | .normal => SLe (CQ m) Tryz.f78.ntmps s' ⟨[(13, .box 9 0), (12, .p (Bo isA)), (11, .bnd 169 [.box 8 0]), (10, .bnd 168 [.box 8 0]), (9, .box 8 0), (8, .p (Bo ended)), (5, .box 3 0), (4, .box 2 0), (3, .box 1 0), (2, .box 0 0)], [(8, (252, [.seq 1 (cellsS (tkV (ws, wr)).2.1), Bo (tkV (ws, wr)).2.2])), (4, (9, [R])), (2, (28, [I 0])), (1, (3, [I 0])), (0, (52, [nilS]))], [(10, (24, 2, [])), (5, (181, 4, O))], 11, [(0, .p (.v (.func (.yield gl) #[] #[]))), (1, .box 4 0), (3, .p T), (Tryz.f202.ntmps + 20, .clo 202 [.box 4 0]), (Tryz.f202.ntmps + 5, .box 3 0), (Tryz.f202.ntmps + 4, .box 2 0), (Tryz.f202.ntmps + 3, .box 1 0), (Tryz.f202.ntmps + 2, .box 0 0)], [(9, .hst g13 181 4 [(3, .own 10), (0, .p (St nm)), (1, .p (I x1)), (2, .p (I (tkV (ws, wr)).1))]), (7, .loop gl .busy Tryz.f78.ntmps [(20, .clo 202 [.box 4 0]), (5, .box 3 0), (4, .box 2 0), (3, .box 1 0), (2, .box 0 0)] L), (6, .dfr gd), (3, .hold g5 52 (.own 5))], []⟩ | _ => False) ⟨[(13, .box 9 0), (12, .p (Bo isA)), (11, .bnd 169 [.box 8 0]), (10, .bnd 168 [.box 8 0]), (9, .box 8 0), (8, .p (Bo ended)), (5, .box 3 0), (4, .box 2 0), (3, .box 1 0), (2, .box 0 0)], [(8, (252, [.seq 1 (cellsS ws), Bo wr])), (4, (9, [R])), (2, (28, [I 0])), (1, (3, [I 0])), (0, (52, [nilS]))], [(10, (24, 2, [])), (5, (181, 4, O))], 11, [(0, .p (.v (.func (.yield gl) #[] #[]))), (1, .box 4 0), (3, .p T), (Tryz.f202.ntmps + 20, .clo 202 [.box 4 0]), (Tryz.f202.ntmps + 5, .box 3 0), (Tryz.f202.ntmps + 4, .box 2 0), (Tryz.f202.ntmps + 3, .box 1 0), (Tryz.f202.ntmps + 2, .box 0 0)], [(9, .hst g13 181 4 [(3, .own 10), (0, .p (St nm)), (1, .p (I x1)), (2, .p (I 0))]), (7, .loop gl .busy Tryz.f78.ntmps [(20, .clo 202 [.box 4 0]), (5, .box 3 0), (4, .box 2 0), (3, .box 1 0), (2, .box 0 0)] L), (6, .dfr gd), (3, .hold g5 52 (.own 5))], []⟩ := by
  rcases ws with _ | ⟨a, ws⟩
  · skip
    obtain ⟨va, ba, hv⟩ : ∃ va ba, intB noB = (va, ba) := ⟨_, _, rfl⟩
    have e : tkV ([], wr) = (va, ([], true || !ba)) := by simp [tkV, tkW, hv]
    rw [e]
    cases ba <;> cases wr
    all_goals
      refine codeK_sound goodQ (mu := []) ?_
      conv => whnf
      repeat' (first
        | fail)
      refine ACall.inline goodQ [7] (fn := Tryz.f169) (by kernel_rfl) (by kernel_rfl) rfl rfl (by kernel_rfl) rfl (by kernel_rfl) ?_
      conv => whnf
      repeat' (first
        | fail)
      refine ACall.inline goodQ [] (fn := Tryz.f168) (by kernel_rfl) (by kernel_rfl) rfl rfl (by kernel_rfl) rfl (by kernel_rfl) ?_
      conv => whnf
      repeat' (first
        | (refine SBool.mk (fun _ => ?_) (fun h => absurd (of_decide_eq_true rfl) h); conv => whnf)
        | (refine SEx.mk _ (by first | exact hInt hv) ?_; conv => whnf)
        | fail)
      all_goals first
        | exact absurd (by assumption) (hLen _ _)
        | skip
      skip
      · refine SLe.ofO [(9, 9), (8, 8), (4, 4), (2, 2), (1, 1), (0, 0), (3, 3)] [(10, 10), (5, 5)] [(9, 9), (7, 7), (6, 6), (3, 3)] rfl rfl rfl ?_
        conv => whnf
        repeat' (first
        | exact True.intro
        | (refine SAnd.mk (PLeL.cons (PLe.nil 1) (PLeL.refl _)) ?_; conv => whnf)
        | (refine SAnd.mk (show PLeL _ _ from PLeL.refl _) ?_; conv => whnf)
        | (refine SAnd.mk (PLe.refl _) ?_; conv => whnf)
        | (refine SAnd.mk rfl ?_; conv => whnf)
        | (refine SAnd.mk ⟨rfl, rfl⟩ ?_; conv => whnf))
  · by_cases ha : a = noB
    · subst ha
      obtain ⟨va, ba, hv⟩ : ∃ va ba, intB noB = (va, ba) := ⟨_, _, rfl⟩
      have e : tkV ((noB :: ws), wr) = (va, ([], true || !ba)) := by simp [tkV, tkW, hv]
      rw [e]
      cases ba <;> cases wr
      all_goals
        refine codeK_sound goodQ (mu := []) ?_
        conv => whnf
        repeat' (first
          | fail)
        refine ACall.inline goodQ [7] (fn := Tryz.f169) (by kernel_rfl) (by kernel_rfl) rfl rfl (by kernel_rfl) rfl (by kernel_rfl) ?_
        conv => whnf
        repeat' (first
          | fail)
        refine ACall.inline goodQ [] (fn := Tryz.f168) (by kernel_rfl) (by kernel_rfl) rfl rfl (by kernel_rfl) rfl (by kernel_rfl) ?_
        conv => whnf
        repeat' (first
          | (refine SBool.mk (fun _ => ?_) (fun h => absurd (of_decide_eq_true rfl) h); conv => whnf)
          | (refine SBool.mk (fun h => absurd h (of_decide_eq_false rfl)) (fun _ => ?_); conv => whnf)
          | (refine SEx.mk _ (by first | exact hIn0 _ _ | exact hEmp1 | exact hInt hv) ?_; conv => whnf)
          | fail)
        all_goals first
          | exact absurd (by assumption) (hLen _ _)
          | skip
        skip
        · refine SLe.ofO [(9, 9), (8, 8), (4, 4), (2, 2), (1, 1), (0, 0), (3, 3)] [(10, 10), (5, 5)] [(9, 9), (7, 7), (6, 6), (3, 3)] rfl rfl rfl ?_
          conv => whnf
          repeat' (first
          | exact True.intro
          | (refine SAnd.mk (PLeL.cons (PLe.nil 1) (PLeL.refl _)) ?_; conv => whnf)
          | (refine SAnd.mk (show PLeL _ _ from PLeL.refl _) ?_; conv => whnf)
          | (refine SAnd.mk (PLe.refl _) ?_; conv => whnf)
          | (refine SAnd.mk rfl ?_; conv => whnf)
          | (refine SAnd.mk ⟨rfl, rfl⟩ ?_; conv => whnf))
    · skip
      obtain ⟨va, ba, hv⟩ : ∃ va ba, intB a = (va, ba) := ⟨_, _, rfl⟩
      have e : tkV ((a :: ws), wr) = (va, (ws, wr || !ba)) := by simp [tkV, tkW, ha, hv]
      rw [e]
      cases ba <;> cases wr
      all_goals
        refine codeK_sound goodQ (mu := []) ?_
        conv => whnf
        repeat' (first
          | fail)
        refine ACall.inline goodQ [7] (fn := Tryz.f169) (by kernel_rfl) (by kernel_rfl) rfl rfl (by kernel_rfl) rfl (by kernel_rfl) ?_
        conv => whnf
        repeat' (first
          | fail)
        refine ACall.inline goodQ [] (fn := Tryz.f168) (by kernel_rfl) (by kernel_rfl) rfl rfl (by kernel_rfl) rfl (by kernel_rfl) ?_
        conv => whnf
        repeat' (first
          | (refine SBool.mk (fun h => absurd h (of_decide_eq_false rfl)) (fun _ => ?_); conv => whnf)
          | (refine SEx.mk _ (by first | exact hIn0 _ _ | exact hOne _ _ | exact hEmp _ ha | exact hInt hv) ?_; conv => whnf)
          | (refine SAnd.mk (by first | exact rfl | kernel_rfl | omega | decide | exact hIn0 _ _ | exact hOne _ _ | exact hEmp _ ha | exact hInt hv) ?_; conv => whnf)
          | fail)
        all_goals first
          | exact absurd (by assumption) (hLen _ _)
          | skip
        skip
        · refine SLe.ofO [(9, 9), (8, 8), (4, 4), (2, 2), (1, 1), (0, 0), (3, 3)] [(10, 10), (5, 5)] [(9, 9), (7, 7), (6, 6), (3, 3)] rfl rfl rfl ?_
          conv => whnf
          repeat' (first
          | exact True.intro
          | (refine SAnd.mk (show PLeL _ _ from PLeL.refl _) ?_; conv => whnf)
          | (refine SAnd.mk (PLe.refl _) ?_; conv => whnf)
          | (refine SAnd.mk rfl ?_; conv => whnf)
          | (refine SAnd.mk ⟨rfl, rfl⟩ ?_; conv => whnf))
end Go.Proofs.Ab.Area
end
section
/- Parse: a line's points. -/
set_option maxRecDepth 100000
set_option linter.unusedVariables false
set_option linter.unusedSimpArgs false
namespace Go.Proofs.Ab.Area
open Go Go.RowKit Go.Proofs.Ab
def tkP : Nat → Tk → List Pt → List Pt × Tk
  | 0, st, ps => (ps, st)
  | n + 1, st, ps => if st.1 = [] then (ps, st) else tkP n (tkV (tkV st).2).2 (ps ++ [⟨(tkV st).1, (tkV (tkV st).2).1⟩])
theorem tkW_len (st : Tk) : (tkW st).2.1.length ≤ st.1.length - 1 := by
  obtain ⟨ws, wr⟩ := st
  cases ws with
  | nil => simp [tkW]
  | cons a ws =>
    by_cases h : a = noB <;> simp [tkW, h]
theorem tkV_len (st : Tk) : (tkV st).2.1.length ≤ st.1.length - 1 := tkW_len st
noncomputable def b13 : Code := match p13 with | .block _ (.loop (.seq _ (.block _ b))) => b | _ => .skip
noncomputable def p15 : Code := match b13 with | .seq _ (.seq a _) => a | _ => .skip
noncomputable def p16 : Code := match b13 with | .seq _ (.seq _ (.seq a _)) => a | _ => .skip
noncomputable def p17 : Code := match b13 with | .seq _ (.seq _ (.seq _ a)) => a | _ => .skip

set_option maxHeartbeats 4000000 in
theorem num15 {m : Int} {gd gl g5 : Nat} {L : LpC} {T R : PV} {O : List (List PV)} {ended : Bool} {g13 : Nat} {isA : Bool} {nm : ByteArray} {sz ct : Int} {P : List (List PV)} {x y : Int} (ws : List ByteArray) (wr : Bool) :
    AWp (CQ m) Tryz.f78.ntmps p15 (fun e s' => match e with | .normal => SLe (CQ m) Tryz.f78.ntmps s' ⟨[(14, .box 11 0), (13, .box 9 0), (12, .p (Bo isA)), (11, .bnd 169 [.box 8 0]), (10, .bnd 168 [.box 8 0]), (9, .box 8 0), (8, .p (Bo ended)), (5, .box 3 0), (4, .box 2 0), (3, .box 1 0), (2, .box 0 0)], [(11, (24, [I (tkV (ws, wr)).1, I y])), (8, (252, [.seq 1 (cellsS (tkV (ws, wr)).2.1), Bo (tkV (ws, wr)).2.2])), (4, (9, [R])), (2, (28, [I 0])), (1, (3, [I 0])), (0, (52, [nilS]))], [(10, (24, 2, P)), (5, (181, 4, O))], 12, [(0, .p (.v (.func (.yield gl) #[] #[]))), (1, .box 4 0), (3, .p T), (Tryz.f202.ntmps + 20, .clo 202 [.box 4 0]), (Tryz.f202.ntmps + 5, .box 3 0), (Tryz.f202.ntmps + 4, .box 2 0), (Tryz.f202.ntmps + 3, .box 1 0), (Tryz.f202.ntmps + 2, .box 0 0)], [(9, .hst g13 181 4 [(3, .own 10), (0, .p (St nm)), (1, .p (I sz)), (2, .p (I ct))]), (7, .loop gl .busy Tryz.f78.ntmps [(20, .clo 202 [.box 4 0]), (5, .box 3 0), (4, .box 2 0), (3, .box 1 0), (2, .box 0 0)] L), (6, .dfr gd), (3, .hold g5 52 (.own 5))], []⟩ | _ => False) ⟨[(14, .box 11 0), (13, .box 9 0), (12, .p (Bo isA)), (11, .bnd 169 [.box 8 0]), (10, .bnd 168 [.box 8 0]), (9, .box 8 0), (8, .p (Bo ended)), (5, .box 3 0), (4, .box 2 0), (3, .box 1 0), (2, .box 0 0)], [(11, (24, [I x, I y])), (8, (252, [.seq 1 (cellsS ws), Bo wr])), (4, (9, [R])), (2, (28, [I 0])), (1, (3, [I 0])), (0, (52, [nilS]))], [(10, (24, 2, P)), (5, (181, 4, O))], 12, [(0, .p (.v (.func (.yield gl) #[] #[]))), (1, .box 4 0), (3, .p T), (Tryz.f202.ntmps + 20, .clo 202 [.box 4 0]), (Tryz.f202.ntmps + 5, .box 3 0), (Tryz.f202.ntmps + 4, .box 2 0), (Tryz.f202.ntmps + 3, .box 1 0), (Tryz.f202.ntmps + 2, .box 0 0)], [(9, .hst g13 181 4 [(3, .own 10), (0, .p (St nm)), (1, .p (I sz)), (2, .p (I ct))]), (7, .loop gl .busy Tryz.f78.ntmps [(20, .clo 202 [.box 4 0]), (5, .box 3 0), (4, .box 2 0), (3, .box 1 0), (2, .box 0 0)] L), (6, .dfr gd), (3, .hold g5 52 (.own 5))], []⟩ := by
  rcases ws with _ | ⟨a, ws⟩
  · skip
    obtain ⟨va, ba, hv⟩ : ∃ va ba, intB noB = (va, ba) := ⟨_, _, rfl⟩
    have e : tkV ([], wr) = (va, ([], true || !ba)) := by simp [tkV, tkW, hv]
    rw [e]
    cases ba <;> cases wr
    all_goals
      refine codeK_sound goodQ (mu := []) ?_
      conv => whnf
      repeat' (first
        | fail)
      refine ACall.inline goodQ [7] (fn := Tryz.f169) (by kernel_rfl) (by kernel_rfl) rfl rfl (by kernel_rfl) rfl (by kernel_rfl) ?_
      conv => whnf
      repeat' (first
        | fail)
      refine ACall.inline goodQ [] (fn := Tryz.f168) (by kernel_rfl) (by kernel_rfl) rfl rfl (by kernel_rfl) rfl (by kernel_rfl) ?_
      conv => whnf
      repeat' (first
        | (refine SBool.mk (fun _ => ?_) (fun h => absurd (of_decide_eq_true rfl) h); conv => whnf)
        | (refine SEx.mk _ (by first | exact hInt hv) ?_; conv => whnf)
        | fail)
      all_goals first
        | exact absurd (by assumption) (hLen _ _)
        | skip
      skip
      · refine SLe.ofO [(11, 11), (9, 9), (8, 8), (4, 4), (2, 2), (1, 1), (0, 0), (3, 3)] [(10, 10), (5, 5)] [(9, 9), (7, 7), (6, 6), (3, 3)] rfl rfl rfl ?_
        conv => whnf
        repeat' (first
        | exact True.intro
        | (refine SAnd.mk (PLeL.cons (PLe.nil 1) (PLeL.refl _)) ?_; conv => whnf)
        | (refine SAnd.mk (show PLeL _ _ from PLeL.refl _) ?_; conv => whnf)
        | (refine SAnd.mk (PLe.refl _) ?_; conv => whnf)
        | (refine SAnd.mk rfl ?_; conv => whnf)
        | (refine SAnd.mk ⟨rfl, rfl⟩ ?_; conv => whnf))
  · by_cases ha : a = noB
    · subst ha
      obtain ⟨va, ba, hv⟩ : ∃ va ba, intB noB = (va, ba) := ⟨_, _, rfl⟩
      have e : tkV ((noB :: ws), wr) = (va, ([], true || !ba)) := by simp [tkV, tkW, hv]
      rw [e]
      cases ba <;> cases wr
      all_goals
        refine codeK_sound goodQ (mu := []) ?_
        conv => whnf
        repeat' (first
          | fail)
        refine ACall.inline goodQ [7] (fn := Tryz.f169) (by kernel_rfl) (by kernel_rfl) rfl rfl (by kernel_rfl) rfl (by kernel_rfl) ?_
        conv => whnf
        repeat' (first
          | fail)
        refine ACall.inline goodQ [] (fn := Tryz.f168) (by kernel_rfl) (by kernel_rfl) rfl rfl (by kernel_rfl) rfl (by kernel_rfl) ?_
        conv => whnf
        repeat' (first
          | (refine SBool.mk (fun _ => ?_) (fun h => absurd (of_decide_eq_true rfl) h); conv => whnf)
          | (refine SBool.mk (fun h => absurd h (of_decide_eq_false rfl)) (fun _ => ?_); conv => whnf)
          | (refine SEx.mk _ (by first | exact hIn0 _ _ | exact hEmp1 | exact hInt hv) ?_; conv => whnf)
          | fail)
        all_goals first
          | exact absurd (by assumption) (hLen _ _)
          | skip
        skip
        · refine SLe.ofO [(11, 11), (9, 9), (8, 8), (4, 4), (2, 2), (1, 1), (0, 0), (3, 3)] [(10, 10), (5, 5)] [(9, 9), (7, 7), (6, 6), (3, 3)] rfl rfl rfl ?_
          conv => whnf
          repeat' (first
          | exact True.intro
          | (refine SAnd.mk (PLeL.cons (PLe.nil 1) (PLeL.refl _)) ?_; conv => whnf)
          | (refine SAnd.mk (show PLeL _ _ from PLeL.refl _) ?_; conv => whnf)
          | (refine SAnd.mk (PLe.refl _) ?_; conv => whnf)
          | (refine SAnd.mk rfl ?_; conv => whnf)
          | (refine SAnd.mk ⟨rfl, rfl⟩ ?_; conv => whnf))
    · skip
      obtain ⟨va, ba, hv⟩ : ∃ va ba, intB a = (va, ba) := ⟨_, _, rfl⟩
      have e : tkV ((a :: ws), wr) = (va, (ws, wr || !ba)) := by simp [tkV, tkW, ha, hv]
      rw [e]
      cases ba <;> cases wr
      all_goals
        refine codeK_sound goodQ (mu := []) ?_
        conv => whnf
        repeat' (first
          | fail)
        refine ACall.inline goodQ [7] (fn := Tryz.f169) (by kernel_rfl) (by kernel_rfl) rfl rfl (by kernel_rfl) rfl (by kernel_rfl) ?_
        conv => whnf
        repeat' (first
          | fail)
        refine ACall.inline goodQ [] (fn := Tryz.f168) (by kernel_rfl) (by kernel_rfl) rfl rfl (by kernel_rfl) rfl (by kernel_rfl) ?_
        conv => whnf
        repeat' (first
          | (refine SBool.mk (fun h => absurd h (of_decide_eq_false rfl)) (fun _ => ?_); conv => whnf)
          | (refine SEx.mk _ (by first | exact hIn0 _ _ | exact hOne _ _ | exact hEmp _ ha | exact hInt hv) ?_; conv => whnf)
          | (refine SAnd.mk (by first | exact rfl | kernel_rfl | omega | decide | exact hIn0 _ _ | exact hOne _ _ | exact hEmp _ ha | exact hInt hv) ?_; conv => whnf)
          | fail)
        all_goals first
          | exact absurd (by assumption) (hLen _ _)
          | skip
        skip
        · refine SLe.ofO [(11, 11), (9, 9), (8, 8), (4, 4), (2, 2), (1, 1), (0, 0), (3, 3)] [(10, 10), (5, 5)] [(9, 9), (7, 7), (6, 6), (3, 3)] rfl rfl rfl ?_
          conv => whnf
          repeat' (first
          | exact True.intro
          | (refine SAnd.mk (show PLeL _ _ from PLeL.refl _) ?_; conv => whnf)
          | (refine SAnd.mk (PLe.refl _) ?_; conv => whnf)
          | (refine SAnd.mk rfl ?_; conv => whnf)
          | (refine SAnd.mk ⟨rfl, rfl⟩ ?_; conv => whnf))

set_option maxHeartbeats 4000000 in
theorem num16 {m : Int} {gd gl g5 : Nat} {L : LpC} {T R : PV} {O : List (List PV)} {ended : Bool} {g13 : Nat} {isA : Bool} {nm : ByteArray} {sz ct : Int} {P : List (List PV)} {x y : Int} (ws : List ByteArray) (wr : Bool) :
    AWp (CQ m) Tryz.f78.ntmps p16 (fun e s' => match e with | .normal => SLe (CQ m) Tryz.f78.ntmps s' ⟨[(14, .box 11 0), (13, .box 9 0), (12, .p (Bo isA)), (11, .bnd 169 [.box 8 0]), (10, .bnd 168 [.box 8 0]), (9, .box 8 0), (8, .p (Bo ended)), (5, .box 3 0), (4, .box 2 0), (3, .box 1 0), (2, .box 0 0)], [(11, (24, [I x, I (tkV (ws, wr)).1])), (8, (252, [.seq 1 (cellsS (tkV (ws, wr)).2.1), Bo (tkV (ws, wr)).2.2])), (4, (9, [R])), (2, (28, [I 0])), (1, (3, [I 0])), (0, (52, [nilS]))], [(10, (24, 2, P)), (5, (181, 4, O))], 12, [(0, .p (.v (.func (.yield gl) #[] #[]))), (1, .box 4 0), (3, .p T), (Tryz.f202.ntmps + 20, .clo 202 [.box 4 0]), (Tryz.f202.ntmps + 5, .box 3 0), (Tryz.f202.ntmps + 4, .box 2 0), (Tryz.f202.ntmps + 3, .box 1 0), (Tryz.f202.ntmps + 2, .box 0 0)], [(9, .hst g13 181 4 [(3, .own 10), (0, .p (St nm)), (1, .p (I sz)), (2, .p (I ct))]), (7, .loop gl .busy Tryz.f78.ntmps [(20, .clo 202 [.box 4 0]), (5, .box 3 0), (4, .box 2 0), (3, .box 1 0), (2, .box 0 0)] L), (6, .dfr gd), (3, .hold g5 52 (.own 5))], []⟩ | _ => False) ⟨[(14, .box 11 0), (13, .box 9 0), (12, .p (Bo isA)), (11, .bnd 169 [.box 8 0]), (10, .bnd 168 [.box 8 0]), (9, .box 8 0), (8, .p (Bo ended)), (5, .box 3 0), (4, .box 2 0), (3, .box 1 0), (2, .box 0 0)], [(11, (24, [I x, I y])), (8, (252, [.seq 1 (cellsS ws), Bo wr])), (4, (9, [R])), (2, (28, [I 0])), (1, (3, [I 0])), (0, (52, [nilS]))], [(10, (24, 2, P)), (5, (181, 4, O))], 12, [(0, .p (.v (.func (.yield gl) #[] #[]))), (1, .box 4 0), (3, .p T), (Tryz.f202.ntmps + 20, .clo 202 [.box 4 0]), (Tryz.f202.ntmps + 5, .box 3 0), (Tryz.f202.ntmps + 4, .box 2 0), (Tryz.f202.ntmps + 3, .box 1 0), (Tryz.f202.ntmps + 2, .box 0 0)], [(9, .hst g13 181 4 [(3, .own 10), (0, .p (St nm)), (1, .p (I sz)), (2, .p (I ct))]), (7, .loop gl .busy Tryz.f78.ntmps [(20, .clo 202 [.box 4 0]), (5, .box 3 0), (4, .box 2 0), (3, .box 1 0), (2, .box 0 0)] L), (6, .dfr gd), (3, .hold g5 52 (.own 5))], []⟩ := by
  rcases ws with _ | ⟨a, ws⟩
  · skip
    obtain ⟨va, ba, hv⟩ : ∃ va ba, intB noB = (va, ba) := ⟨_, _, rfl⟩
    have e : tkV ([], wr) = (va, ([], true || !ba)) := by simp [tkV, tkW, hv]
    rw [e]
    cases ba <;> cases wr
    all_goals
      refine codeK_sound goodQ (mu := []) ?_
      conv => whnf
      repeat' (first
        | fail)
      refine ACall.inline goodQ [7] (fn := Tryz.f169) (by kernel_rfl) (by kernel_rfl) rfl rfl (by kernel_rfl) rfl (by kernel_rfl) ?_
      conv => whnf
      repeat' (first
        | fail)
      refine ACall.inline goodQ [] (fn := Tryz.f168) (by kernel_rfl) (by kernel_rfl) rfl rfl (by kernel_rfl) rfl (by kernel_rfl) ?_
      conv => whnf
      repeat' (first
        | (refine SBool.mk (fun _ => ?_) (fun h => absurd (of_decide_eq_true rfl) h); conv => whnf)
        | (refine SEx.mk _ (by first | exact hInt hv) ?_; conv => whnf)
        | fail)
      all_goals first
        | exact absurd (by assumption) (hLen _ _)
        | skip
      skip
      · refine SLe.ofO [(11, 11), (9, 9), (8, 8), (4, 4), (2, 2), (1, 1), (0, 0), (3, 3)] [(10, 10), (5, 5)] [(9, 9), (7, 7), (6, 6), (3, 3)] rfl rfl rfl ?_
        conv => whnf
        repeat' (first
        | exact True.intro
        | (refine SAnd.mk (PLeL.cons (PLe.nil 1) (PLeL.refl _)) ?_; conv => whnf)
        | (refine SAnd.mk (show PLeL _ _ from PLeL.refl _) ?_; conv => whnf)
        | (refine SAnd.mk (PLe.refl _) ?_; conv => whnf)
        | (refine SAnd.mk rfl ?_; conv => whnf)
        | (refine SAnd.mk ⟨rfl, rfl⟩ ?_; conv => whnf))
  · by_cases ha : a = noB
    · subst ha
      obtain ⟨va, ba, hv⟩ : ∃ va ba, intB noB = (va, ba) := ⟨_, _, rfl⟩
      have e : tkV ((noB :: ws), wr) = (va, ([], true || !ba)) := by simp [tkV, tkW, hv]
      rw [e]
      cases ba <;> cases wr
      all_goals
        refine codeK_sound goodQ (mu := []) ?_
        conv => whnf
        repeat' (first
          | fail)
        refine ACall.inline goodQ [7] (fn := Tryz.f169) (by kernel_rfl) (by kernel_rfl) rfl rfl (by kernel_rfl) rfl (by kernel_rfl) ?_
        conv => whnf
        repeat' (first
          | fail)
        refine ACall.inline goodQ [] (fn := Tryz.f168) (by kernel_rfl) (by kernel_rfl) rfl rfl (by kernel_rfl) rfl (by kernel_rfl) ?_
        conv => whnf
        repeat' (first
          | (refine SBool.mk (fun _ => ?_) (fun h => absurd (of_decide_eq_true rfl) h); conv => whnf)
          | (refine SBool.mk (fun h => absurd h (of_decide_eq_false rfl)) (fun _ => ?_); conv => whnf)
          | (refine SEx.mk _ (by first | exact hIn0 _ _ | exact hEmp1 | exact hInt hv) ?_; conv => whnf)
          | fail)
        all_goals first
          | exact absurd (by assumption) (hLen _ _)
          | skip
        skip
        · refine SLe.ofO [(11, 11), (9, 9), (8, 8), (4, 4), (2, 2), (1, 1), (0, 0), (3, 3)] [(10, 10), (5, 5)] [(9, 9), (7, 7), (6, 6), (3, 3)] rfl rfl rfl ?_
          conv => whnf
          repeat' (first
          | exact True.intro
          | (refine SAnd.mk (PLeL.cons (PLe.nil 1) (PLeL.refl _)) ?_; conv => whnf)
          | (refine SAnd.mk (show PLeL _ _ from PLeL.refl _) ?_; conv => whnf)
          | (refine SAnd.mk (PLe.refl _) ?_; conv => whnf)
          | (refine SAnd.mk rfl ?_; conv => whnf)
          | (refine SAnd.mk ⟨rfl, rfl⟩ ?_; conv => whnf))
    · skip
      obtain ⟨va, ba, hv⟩ : ∃ va ba, intB a = (va, ba) := ⟨_, _, rfl⟩
      have e : tkV ((a :: ws), wr) = (va, (ws, wr || !ba)) := by simp [tkV, tkW, ha, hv]
      rw [e]
      cases ba <;> cases wr
      all_goals
        refine codeK_sound goodQ (mu := []) ?_
        conv => whnf
        repeat' (first
          | fail)
        refine ACall.inline goodQ [7] (fn := Tryz.f169) (by kernel_rfl) (by kernel_rfl) rfl rfl (by kernel_rfl) rfl (by kernel_rfl) ?_
        conv => whnf
        repeat' (first
          | fail)
        refine ACall.inline goodQ [] (fn := Tryz.f168) (by kernel_rfl) (by kernel_rfl) rfl rfl (by kernel_rfl) rfl (by kernel_rfl) ?_
        conv => whnf
        repeat' (first
          | (refine SBool.mk (fun h => absurd h (of_decide_eq_false rfl)) (fun _ => ?_); conv => whnf)
          | (refine SEx.mk _ (by first | exact hIn0 _ _ | exact hOne _ _ | exact hEmp _ ha | exact hInt hv) ?_; conv => whnf)
          | (refine SAnd.mk (by first | exact rfl | kernel_rfl | omega | decide | exact hIn0 _ _ | exact hOne _ _ | exact hEmp _ ha | exact hInt hv) ?_; conv => whnf)
          | fail)
        all_goals first
          | exact absurd (by assumption) (hLen _ _)
          | skip
        skip
        · refine SLe.ofO [(11, 11), (9, 9), (8, 8), (4, 4), (2, 2), (1, 1), (0, 0), (3, 3)] [(10, 10), (5, 5)] [(9, 9), (7, 7), (6, 6), (3, 3)] rfl rfl rfl ?_
          conv => whnf
          repeat' (first
          | exact True.intro
          | (refine SAnd.mk (show PLeL _ _ from PLeL.refl _) ?_; conv => whnf)
          | (refine SAnd.mk (PLe.refl _) ?_; conv => whnf)
          | (refine SAnd.mk rfl ?_; conv => whnf)
          | (refine SAnd.mk ⟨rfl, rfl⟩ ?_; conv => whnf))

theorem pt_one (q : Pt) : ∀ c ∈ [pc q].flatten, c.one = true := by
  intro c hc
  simp only [List.flatten_cons, List.flatten_nil, List.append_nil, List.mem_cons, List.not_mem_nil, or_false] at hc
  rcases hc with rfl | rfl <;> rfl
set_option maxHeartbeats 4000000 in
theorem app17 {m : Int} {gd gl g5 : Nat} {L : LpC} {T R : PV} {O : List (List PV)} {ended : Bool} {g13 : Nat} {isA : Bool} {nm : ByteArray} {sz ct : Int} (ws : List ByteArray) (wr : Bool) (pts : List Pt) (q : Pt) (hp : pts.length ≤ 100000) :
    AWp (CQ m) Tryz.f78.ntmps p17 (fun e s' => match e with | .normal => SLe (CQ m) Tryz.f78.ntmps s' ⟨[(13, .box 9 0), (12, .p (Bo isA)), (11, .bnd 169 [.box 8 0]), (10, .bnd 168 [.box 8 0]), (9, .box 8 0), (8, .p (Bo ended)), (5, .box 3 0), (4, .box 2 0), (3, .box 1 0), (2, .box 0 0)], [(8, (252, [.seq 1 (cellsS ws), Bo wr])), (4, (9, [R])), (2, (28, [I 0])), (1, (3, [I 0])), (0, (52, [nilS]))], [(10, (24, 2, (pts ++ [q]).map pc)), (5, (181, 4, O))], 11, [(0, .p (.v (.func (.yield gl) #[] #[]))), (1, .box 4 0), (3, .p T), (Tryz.f202.ntmps + 20, .clo 202 [.box 4 0]), (Tryz.f202.ntmps + 5, .box 3 0), (Tryz.f202.ntmps + 4, .box 2 0), (Tryz.f202.ntmps + 3, .box 1 0), (Tryz.f202.ntmps + 2, .box 0 0)], [(9, .hst g13 181 4 [(3, .own 10), (0, .p (St nm)), (1, .p (I sz)), (2, .p (I ct))]), (7, .loop gl .busy Tryz.f78.ntmps [(20, .clo 202 [.box 4 0]), (5, .box 3 0), (4, .box 2 0), (3, .box 1 0), (2, .box 0 0)] L), (6, .dfr gd), (3, .hold g5 52 (.own 5))], []⟩ | _ => False) ⟨[(14, .box 11 0), (13, .box 9 0), (12, .p (Bo isA)), (11, .bnd 169 [.box 8 0]), (10, .bnd 168 [.box 8 0]), (9, .box 8 0), (8, .p (Bo ended)), (5, .box 3 0), (4, .box 2 0), (3, .box 1 0), (2, .box 0 0)], [(11, (24, [I q.x, I q.y])), (8, (252, [.seq 1 (cellsS ws), Bo wr])), (4, (9, [R])), (2, (28, [I 0])), (1, (3, [I 0])), (0, (52, [nilS]))], [(10, (24, 2, pts.map pc)), (5, (181, 4, O))], 12, [(0, .p (.v (.func (.yield gl) #[] #[]))), (1, .box 4 0), (3, .p T), (Tryz.f202.ntmps + 20, .clo 202 [.box 4 0]), (Tryz.f202.ntmps + 5, .box 3 0), (Tryz.f202.ntmps + 4, .box 2 0), (Tryz.f202.ntmps + 3, .box 1 0), (Tryz.f202.ntmps + 2, .box 0 0)], [(9, .hst g13 181 4 [(3, .own 10), (0, .p (St nm)), (1, .p (I sz)), (2, .p (I ct))]), (7, .loop gl .busy Tryz.f78.ntmps [(20, .clo 202 [.box 4 0]), (5, .box 3 0), (4, .box 2 0), (3, .box 1 0), (2, .box 0 0)] L), (6, .dfr gd), (3, .hold g5 52 (.own 5))], []⟩ := by
  have hap : (∀ c ∈ [pc q].flatten, c.one = true) ∧ ((pts.map pc).length + 1) * 16 ≤ 140737488355328 ∧ (pts.map pc).length + 1 ≤ 9223372036854775807 := ⟨pt_one q, by rw [List.length_map]; omega, by rw [List.length_map]; omega⟩
  refine codeK_sound goodQ (mu := []) ?_
  conv => whnf
  repeat' (first
    | (refine SAnd.mk (by first | exact hap) ?_; conv => whnf)
    | fail)
  skip
  · refine SLe.ofO [(9, 9), (8, 8), (4, 4), (2, 2), (1, 1), (0, 0), (3, 3)] [(10, 12), (5, 5)] [(9, 9), (7, 7), (6, 6), (3, 3)] rfl rfl rfl ?_
    conv => whnf
    repeat' (first
    | exact True.intro
    | (refine SAnd.mk (show _ = (_ : List (List PV)) from by simp) ?_; conv => whnf)
    | (refine SAnd.mk (PLe.refl _) ?_; conv => whnf)
    | (refine SAnd.mk (PLeL.refl _) ?_; conv => whnf)
    | (refine SAnd.mk rfl ?_; conv => whnf)
    | (refine SAnd.mk ⟨rfl, rfl⟩ ?_; conv => whnf))

theorem hPos (a : ByteArray) (ws : List ByteArray) : (0 : Int) < (((cellsS (a :: ws)).length : Nat) : Int) := by simp only [List.length_map, List.length_cons]; omega
set_option maxHeartbeats 8000000 in
theorem loop13 {m : Int} {gd gl g5 : Nat} {L : LpC} {T R : PV} {O : List (List PV)} {ended : Bool} {g13 : Nat} {isA : Bool} {nm : ByteArray} {sz ct : Int} (n0 : Nat) (st : Tk) (hn : st.1.length < n0) (hb : st.1.length ≤ 5000) :
    AWp (CQ m) Tryz.f78.ntmps p13 (fun e s' => match e with | .normal => SLe (CQ m) Tryz.f78.ntmps s' ⟨[(13, .box 9 0), (12, .p (Bo isA)), (11, .bnd 169 [.box 8 0]), (10, .bnd 168 [.box 8 0]), (9, .box 8 0), (8, .p (Bo ended)), (5, .box 3 0), (4, .box 2 0), (3, .box 1 0), (2, .box 0 0)], [(8, (252, [.seq 1 (cellsS (tkP n0 st []).2.1), Bo (tkP n0 st []).2.2])), (4, (9, [R])), (2, (28, [I 0])), (1, (3, [I 0])), (0, (52, [nilS]))], [(10, (24, 2, (tkP n0 st []).1.map pc)), (5, (181, 4, O))], 11, [(0, .p (.v (.func (.yield gl) #[] #[]))), (1, .box 4 0), (3, .p T), (Tryz.f202.ntmps + 20, .clo 202 [.box 4 0]), (Tryz.f202.ntmps + 5, .box 3 0), (Tryz.f202.ntmps + 4, .box 2 0), (Tryz.f202.ntmps + 3, .box 1 0), (Tryz.f202.ntmps + 2, .box 0 0)], [(9, .hst g13 181 4 [(3, .own 10), (0, .p (St nm)), (1, .p (I sz)), (2, .p (I ct))]), (7, .loop gl .busy Tryz.f78.ntmps [(20, .clo 202 [.box 4 0]), (5, .box 3 0), (4, .box 2 0), (3, .box 1 0), (2, .box 0 0)] L), (6, .dfr gd), (3, .hold g5 52 (.own 5))], []⟩ | _ => False) ⟨[(13, .box 9 0), (12, .p (Bo isA)), (11, .bnd 169 [.box 8 0]), (10, .bnd 168 [.box 8 0]), (9, .box 8 0), (8, .p (Bo ended)), (5, .box 3 0), (4, .box 2 0), (3, .box 1 0), (2, .box 0 0)], [(8, (252, [.seq 1 (cellsS st.1), Bo st.2])), (4, (9, [R])), (2, (28, [I 0])), (1, (3, [I 0])), (0, (52, [nilS]))], [(10, (24, 2, [])), (5, (181, 4, O))], 11, [(0, .p (.v (.func (.yield gl) #[] #[]))), (1, .box 4 0), (3, .p T), (Tryz.f202.ntmps + 20, .clo 202 [.box 4 0]), (Tryz.f202.ntmps + 5, .box 3 0), (Tryz.f202.ntmps + 4, .box 2 0), (Tryz.f202.ntmps + 3, .box 1 0), (Tryz.f202.ntmps + 2, .box 0 0)], [(9, .hst g13 181 4 [(3, .own 10), (0, .p (St nm)), (1, .p (I sz)), (2, .p (I ct))]), (7, .loop gl .busy Tryz.f78.ntmps [(20, .clo 202 [.box 4 0]), (5, .box 3 0), (4, .box 2 0), (3, .box 1 0), (2, .box 0 0)] L), (6, .dfr gd), (3, .hold g5 52 (.own 5))], []⟩ := by
  obtain ⟨Z, hZ⟩ : ∃ Z, Z = tkP n0 st [] := ⟨_, rfl⟩
  rw [← hZ]
  refine AWp.block ?_
  refine AWp.loop (ι := { p : Nat × Tk × List Pt // p.2.1.1.length < p.1 ∧ p.2.2.length + p.2.1.1.length ≤ 5000 ∧ tkP p.1 p.2.1 p.2.2 = Z }) (fun p => ⟨[(13, .box 9 0), (12, .p (Bo isA)), (11, .bnd 169 [.box 8 0]), (10, .bnd 168 [.box 8 0]), (9, .box 8 0), (8, .p (Bo ended)), (5, .box 3 0), (4, .box 2 0), (3, .box 1 0), (2, .box 0 0)], [(8, (252, [.seq 1 (cellsS p.1.2.1.1), Bo p.1.2.1.2])), (4, (9, [R])), (2, (28, [I 0])), (1, (3, [I 0])), (0, (52, [nilS]))], [(10, (24, 2, p.1.2.2.map pc)), (5, (181, 4, O))], 11, [(0, .p (.v (.func (.yield gl) #[] #[]))), (1, .box 4 0), (3, .p T), (Tryz.f202.ntmps + 20, .clo 202 [.box 4 0]), (Tryz.f202.ntmps + 5, .box 3 0), (Tryz.f202.ntmps + 4, .box 2 0), (Tryz.f202.ntmps + 3, .box 1 0), (Tryz.f202.ntmps + 2, .box 0 0)], [(9, .hst g13 181 4 [(3, .own 10), (0, .p (St nm)), (1, .p (I sz)), (2, .p (I ct))]), (7, .loop gl .busy Tryz.f78.ntmps [(20, .clo 202 [.box 4 0]), (5, .box 3 0), (4, .box 2 0), (3, .box 1 0), (2, .box 0 0)] L), (6, .dfr gd), (3, .hold g5 52 (.own 5))], []⟩) (fun p => p.1.1) ⟨(n0, st, []), hn, by simpa using hb, hZ.symm⟩ ?_ ?_
  · skip
    · refine SLe.ofO [(9, 9), (8, 8), (4, 4), (2, 2), (1, 1), (0, 0), (3, 3)] [(10, 10), (5, 5)] [(9, 9), (7, 7), (6, 6), (3, 3)] rfl rfl rfl ?_
      conv => whnf
      repeat' (first
      | exact True.intro
      | (refine SAnd.mk (PLe.refl _) ?_; conv => whnf)
      | (refine SAnd.mk (PLeL.refl _) ?_; conv => whnf)
      | (refine SAnd.mk rfl ?_; conv => whnf)
      | (refine SAnd.mk ⟨rfl, rfl⟩ ?_; conv => whnf))
  · rintro ⟨⟨n, ⟨ws, wr⟩, pts⟩, h1, h2, h3⟩
    simp only at h1 h2 h3
    obtain ⟨n, rfl⟩ : ∃ k, n = k + 1 := ⟨n - 1, by omega⟩
    rcases ws with _ | ⟨a, ws⟩
    · have e : Z = (pts, ([], wr)) := by rw [← h3]; simp [tkP]
      subst e
      refine .seq (codeK_sound goodQ (mu := []) ?_)
      skip
      conv => whnf
      repeat' (first
        | (refine SBool.mk (fun h => absurd h (of_decide_eq_false rfl)) (fun _ => ?_); conv => whnf)
        | fail)
      skip
      · refine SLe.ofO [(9, 9), (8, 8), (4, 4), (2, 2), (1, 1), (0, 0), (3, 3)] [(10, 10), (5, 5)] [(9, 9), (7, 7), (6, 6), (3, 3)] rfl rfl rfl ?_
        conv => whnf
        repeat' (first
        | exact True.intro
        | (refine SAnd.mk (PLe.refl _) ?_; conv => whnf)
        | (refine SAnd.mk (PLeL.refl _) ?_; conv => whnf)
        | (refine SAnd.mk rfl ?_; conv => whnf)
        | (refine SAnd.mk ⟨rfl, rfl⟩ ?_; conv => whnf))
    · have e : Z = tkP n (tkV (tkV (a :: ws, wr)).2).2 (pts ++ [⟨(tkV (a :: ws, wr)).1, (tkV (tkV (a :: ws, wr)).2).1⟩]) := by rw [← h3]; simp [tkP]
      have hl1 := tkV_len (a :: ws, wr)
      have hl2 := tkV_len (tkV (a :: ws, wr)).2
      obtain ⟨⟨x, st1⟩, hx⟩ : ∃ z, tkV (a :: ws, wr) = z := ⟨_, rfl⟩
      obtain ⟨⟨y, st2⟩, hy⟩ : ∃ z, tkV st1 = z := ⟨_, rfl⟩
      rw [hx] at e hl1 hl2
      simp only at e hl1 hl2
      rw [hy] at e hl2
      simp only [List.length_cons, Nat.add_sub_cancel] at e hl1 hl2 h1 h2
      have hpos := hPos a ws
      refine .seq (codeK_sound goodQ (mu := []) ?_)
      conv => whnf
      refine SBool.mk (fun _ => ?_) (fun h => absurd hpos h)
      conv => whnf
      refine .block (.seq (codeK_sound goodQ (mu := []) ?_))
      conv => whnf
      refine AWp.le (t := ⟨[(14, .box 11 0), (13, .box 9 0), (12, .p (Bo isA)), (11, .bnd 169 [.box 8 0]), (10, .bnd 168 [.box 8 0]), (9, .box 8 0), (8, .p (Bo ended)), (5, .box 3 0), (4, .box 2 0), (3, .box 1 0), (2, .box 0 0)], [(11, (24, [I 0, I 0])), (8, (252, [.seq 1 (cellsS (a :: ws)), Bo wr])), (4, (9, [R])), (2, (28, [I 0])), (1, (3, [I 0])), (0, (52, [nilS]))], [(10, (24, 2, pts.map pc)), (5, (181, 4, O))], 12, [(0, .p (.v (.func (.yield gl) #[] #[]))), (1, .box 4 0), (3, .p T), (Tryz.f202.ntmps + 20, .clo 202 [.box 4 0]), (Tryz.f202.ntmps + 5, .box 3 0), (Tryz.f202.ntmps + 4, .box 2 0), (Tryz.f202.ntmps + 3, .box 1 0), (Tryz.f202.ntmps + 2, .box 0 0)], [(9, .hst g13 181 4 [(3, .own 10), (0, .p (St nm)), (1, .p (I sz)), (2, .p (I ct))]), (7, .loop gl .busy Tryz.f78.ntmps [(20, .clo 202 [.box 4 0]), (5, .box 3 0), (4, .box 2 0), (3, .box 1 0), (2, .box 0 0)] L), (6, .dfr gd), (3, .hold g5 52 (.own 5))], []⟩) ?_ ?_
      · skip
        · refine SLe.ofO [(11, 11), (9, 9), (8, 8), (4, 4), (2, 2), (1, 1), (0, 0), (3, 3)] [(10, 10), (5, 5)] [(9, 9), (7, 7), (6, 6), (3, 3)] rfl rfl rfl ?_
          conv => whnf
          repeat' (first
          | exact True.intro
          | (refine SAnd.mk (PLe.refl _) ?_; conv => whnf)
          | (refine SAnd.mk (PLeL.refl _) ?_; conv => whnf)
          | (refine SAnd.mk rfl ?_; conv => whnf)
          | (refine SAnd.mk ⟨rfl, rfl⟩ ?_; conv => whnf))
      refine AWp.mid ⟨[(14, .box 11 0), (13, .box 9 0), (12, .p (Bo isA)), (11, .bnd 169 [.box 8 0]), (10, .bnd 168 [.box 8 0]), (9, .box 8 0), (8, .p (Bo ended)), (5, .box 3 0), (4, .box 2 0), (3, .box 1 0), (2, .box 0 0)], [(11, (24, [I x, I 0])), (8, (252, [.seq 1 (cellsS st1.1), Bo st1.2])), (4, (9, [R])), (2, (28, [I 0])), (1, (3, [I 0])), (0, (52, [nilS]))], [(10, (24, 2, pts.map pc)), (5, (181, 4, O))], 12, [(0, .p (.v (.func (.yield gl) #[] #[]))), (1, .box 4 0), (3, .p T), (Tryz.f202.ntmps + 20, .clo 202 [.box 4 0]), (Tryz.f202.ntmps + 5, .box 3 0), (Tryz.f202.ntmps + 4, .box 2 0), (Tryz.f202.ntmps + 3, .box 1 0), (Tryz.f202.ntmps + 2, .box 0 0)], [(9, .hst g13 181 4 [(3, .own 10), (0, .p (St nm)), (1, .p (I sz)), (2, .p (I ct))]), (7, .loop gl .busy Tryz.f78.ntmps [(20, .clo 202 [.box 4 0]), (5, .box 3 0), (4, .box 2 0), (3, .box 1 0), (2, .box 0 0)] L), (6, .dfr gd), (3, .hold g5 52 (.own 5))], []⟩ ?_ ?_
      · refine AWp.mid ⟨[(14, .box 11 0), (13, .box 9 0), (12, .p (Bo isA)), (11, .bnd 169 [.box 8 0]), (10, .bnd 168 [.box 8 0]), (9, .box 8 0), (8, .p (Bo ended)), (5, .box 3 0), (4, .box 2 0), (3, .box 1 0), (2, .box 0 0)], [(11, (24, [I x, I y])), (8, (252, [.seq 1 (cellsS st2.1), Bo st2.2])), (4, (9, [R])), (2, (28, [I 0])), (1, (3, [I 0])), (0, (52, [nilS]))], [(10, (24, 2, pts.map pc)), (5, (181, 4, O))], 12, [(0, .p (.v (.func (.yield gl) #[] #[]))), (1, .box 4 0), (3, .p T), (Tryz.f202.ntmps + 20, .clo 202 [.box 4 0]), (Tryz.f202.ntmps + 5, .box 3 0), (Tryz.f202.ntmps + 4, .box 2 0), (Tryz.f202.ntmps + 3, .box 1 0), (Tryz.f202.ntmps + 2, .box 0 0)], [(9, .hst g13 181 4 [(3, .own 10), (0, .p (St nm)), (1, .p (I sz)), (2, .p (I ct))]), (7, .loop gl .busy Tryz.f78.ntmps [(20, .clo 202 [.box 4 0]), (5, .box 3 0), (4, .box 2 0), (3, .box 1 0), (2, .box 0 0)] L), (6, .dfr gd), (3, .hold g5 52 (.own 5))], []⟩ ?_ ?_
        · refine (app17 (m := m) st2.1 st2.2 pts ⟨x, y⟩ (by omega)).mono (fun e1 s1 hs1 => ?_)
          cases e1 with
          | normal => exact ⟨⟨(n, st2, pts ++ [⟨x, y⟩]), by simp only; omega, by simp only [List.length_append, List.length_cons, List.length_nil]; omega, e.symm⟩, by simp only; omega, hs1⟩
          | ret => exact hs1.elim
          | exit _ => exact hs1.elim
        · have hq := num16 (m := m) (gd := gd) (gl := gl) (g5 := g5) (L := L) (T := T) (R := R) (O := O) (ended := ended) (g13 := g13) (isA := isA) (nm := nm) (sz := sz) (ct := ct) (P := pts.map pc) (x := x) (y := 0) st1.1 st1.2
          rw [show tkV (st1.1, st1.2) = (y, st2) from hy] at hq
          refine hq.mono (fun e1 s1 hs1 => ?_)
          cases e1 with
          | normal => exact hs1
          | ret => exact hs1.elim
          | exit _ => exact hs1.elim
      · have hq := num15 (m := m) (gd := gd) (gl := gl) (g5 := g5) (L := L) (T := T) (R := R) (O := O) (ended := ended) (g13 := g13) (isA := isA) (nm := nm) (sz := sz) (ct := ct) (P := pts.map pc) (x := 0) (y := 0) (a :: ws) wr
        rw [hx] at hq
        refine hq.mono (fun e1 s1 hs1 => ?_)
        cases e1 with
        | normal => exact hs1
        | ret => exact hs1.elim
        | exit _ => exact hs1.elim
end Go.Proofs.Ab.Area
end
section
/- Parse: a line. -/
set_option maxRecDepth 100000
set_option linter.unusedVariables false
set_option linter.unusedSimpArgs false
namespace Go.Proofs.Ab.Area
open Go Go.RowKit Go.Proofs.Ab
noncomputable def p14 : Code := match pieceAt [1, 1, 1, 1, 1, 1, 1] y78 with | .seq _ a => a | _ => .skip
abbrev aV (nm : ByteArray) (sz ct : Int) (pts : List Pt) : Ar := ⟨nm, sz, ct, pts⟩
theorem ar_one (a : Ar) : ∀ c ∈ [ac a].flatten, c.one = true := by
  intro c hc
  simp only [List.flatten_cons, List.flatten_nil, List.append_nil, List.mem_cons, List.not_mem_nil, or_false] at hc
  rcases hc with rfl | rfl | rfl | rfl <;> rfl

set_option maxHeartbeats 8000000 in
theorem tail14 {m : Int} {gd gl g5 : Nat} {L : LpC} {T R : PV} {O : List (List PV)} {ended : Bool} {g13 : Nat} {isA : Bool} {nm : ByteArray} {sz ct : Int} (ws : List ByteArray) (wr : Bool) (pts : List Pt) (hO : O.length ≤ 100000) :
    AWp (CQ m) Tryz.f78.ntmps p14 (fun e s' => match e with | .normal => (ended && isA && !wr) = true ∧ SLe (CQ m) Tryz.f78.ntmps s' ⟨[(5, .box 3 0), (4, .box 2 0), (3, .box 1 0), (2, .box 0 0)], [(4, (9, [R])), (2, (28, [I 0])), (1, (3, [I 0])), (0, (52, [nilS]))], [(5, (181, 4, O ++ [ac (aV nm sz ct pts)]))], 8, [(0, .p (.v (.func (.yield gl) #[] #[]))), (1, .box 4 0), (3, .p T), (Tryz.f202.ntmps + 20, .clo 202 [.box 4 0]), (Tryz.f202.ntmps + 5, .box 3 0), (Tryz.f202.ntmps + 4, .box 2 0), (Tryz.f202.ntmps + 3, .box 1 0), (Tryz.f202.ntmps + 2, .box 0 0)], [(7, .loop gl .busy Tryz.f78.ntmps [(20, .clo 202 [.box 4 0]), (5, .box 3 0), (4, .box 2 0), (3, .box 1 0), (2, .box 0 0)] L), (6, .dfr gd), (3, .hold g5 52 (.own 5))], []⟩ | .ret => (ended && isA && !wr) = false ∧ SLe (CQ m) Tryz.f78.ntmps s' ⟨[(4, .box 2 0), (3, .box 1 0), (2, .box 0 0)], [(4, (9, [R])), (2, (28, [I 25])), (1, (3, [I O.length])), (0, (52, [nilS]))], [(5, (181, 4, O))], 8, [(0, .p (.v (.func (.yield gl) #[] #[]))), (1, .box 4 0), (3, .p T), (Tryz.f202.ntmps + 20, .clo 202 [.box 4 0]), (Tryz.f202.ntmps + 5, .box 3 0), (Tryz.f202.ntmps + 4, .box 2 0), (Tryz.f202.ntmps + 3, .box 1 0), (Tryz.f202.ntmps + 2, .box 0 0)], [(7, .loop gl .busy Tryz.f78.ntmps [(20, .clo 202 [.box 4 0]), (5, .box 3 0), (4, .box 2 0), (3, .box 1 0), (2, .box 0 0)] L), (6, .dfr gd), (3, .hold g5 52 (.own 5))], []⟩ | _ => False) ⟨[(13, .box 9 0), (12, .p (Bo isA)), (9, .box 8 0), (8, .p (Bo ended)), (5, .box 3 0), (4, .box 2 0), (3, .box 1 0), (2, .box 0 0)], [(8, (252, [.seq 1 (cellsS ws), Bo wr])), (4, (9, [R])), (2, (28, [I 0])), (1, (3, [I 0])), (0, (52, [nilS]))], [(5, (181, 4, O))], 10, [(0, .p (.v (.func (.yield gl) #[] #[]))), (1, .box 4 0), (3, .p T), (Tryz.f202.ntmps + 20, .clo 202 [.box 4 0]), (Tryz.f202.ntmps + 5, .box 3 0), (Tryz.f202.ntmps + 4, .box 2 0), (Tryz.f202.ntmps + 3, .box 1 0), (Tryz.f202.ntmps + 2, .box 0 0)], [(9, .hst g13 181 4 [(3, .p (.seq 2 (pts.map pc))), (0, .p (St nm)), (1, .p (I sz)), (2, .p (I ct))]), (7, .loop gl .busy Tryz.f78.ntmps [(20, .clo 202 [.box 4 0]), (5, .box 3 0), (4, .box 2 0), (3, .box 1 0), (2, .box 0 0)] L), (6, .dfr gd), (3, .hold g5 52 (.own 5))], []⟩ := by
  have hap : (∀ c ∈ [ac (aV nm sz ct pts)].flatten, c.one = true) ∧ (O.length + 1) * 56 ≤ 140737488355328 ∧ O.length + 1 ≤ 9223372036854775807 := ⟨ar_one _, by omega, by omega⟩
  cases ended <;> cases isA <;> cases wr
  all_goals
    refine codeK_sound goodQ (mu := []) ?_
    conv => whnf
    repeat' (first
      | (refine SAnd.mk (by first | exact hap) ?_; conv => whnf)
      | (refine SAnd.mk (by first | exact rfl | kernel_rfl | omega | decide | exact hap) ?_; conv => whnf)
      | fail)
    all_goals first
      | refine ⟨rfl, ?_⟩
      | skip
  · skip
    · refine SLe.ofO [(4, 4), (2, 2), (1, 1), (0, 0), (3, 3)] [(5, 5)] [(7, 7), (6, 6), (3, 3)] rfl rfl rfl ?_
      conv => whnf
      repeat' (first
      | exact True.intro
      | (refine SAnd.mk (PLe.refl _) ?_; conv => whnf)
      | (refine SAnd.mk (PLeL.refl _) ?_; conv => whnf)
      | (refine SAnd.mk rfl ?_; conv => whnf)
      | (refine SAnd.mk ⟨rfl, rfl⟩ ?_; conv => whnf))
  · skip
    · refine SLe.ofO [(4, 4), (2, 2), (1, 1), (0, 0), (3, 3)] [(5, 5)] [(7, 7), (6, 6), (3, 3)] rfl rfl rfl ?_
      conv => whnf
      repeat' (first
      | exact True.intro
      | (refine SAnd.mk (PLe.refl _) ?_; conv => whnf)
      | (refine SAnd.mk (PLeL.refl _) ?_; conv => whnf)
      | (refine SAnd.mk rfl ?_; conv => whnf)
      | (refine SAnd.mk ⟨rfl, rfl⟩ ?_; conv => whnf))
  · skip
    · refine SLe.ofO [(4, 4), (2, 2), (1, 1), (0, 0), (3, 3)] [(5, 5)] [(7, 7), (6, 6), (3, 3)] rfl rfl rfl ?_
      conv => whnf
      repeat' (first
      | exact True.intro
      | (refine SAnd.mk (PLe.refl _) ?_; conv => whnf)
      | (refine SAnd.mk (PLeL.refl _) ?_; conv => whnf)
      | (refine SAnd.mk rfl ?_; conv => whnf)
      | (refine SAnd.mk ⟨rfl, rfl⟩ ?_; conv => whnf))
  · skip
    · refine SLe.ofO [(4, 4), (2, 2), (1, 1), (0, 0), (3, 3)] [(5, 5)] [(7, 7), (6, 6), (3, 3)] rfl rfl rfl ?_
      conv => whnf
      repeat' (first
      | exact True.intro
      | (refine SAnd.mk (PLe.refl _) ?_; conv => whnf)
      | (refine SAnd.mk (PLeL.refl _) ?_; conv => whnf)
      | (refine SAnd.mk rfl ?_; conv => whnf)
      | (refine SAnd.mk ⟨rfl, rfl⟩ ?_; conv => whnf))
  · skip
    · refine SLe.ofO [(4, 4), (2, 2), (1, 1), (0, 0), (3, 3)] [(5, 5)] [(7, 7), (6, 6), (3, 3)] rfl rfl rfl ?_
      conv => whnf
      repeat' (first
      | exact True.intro
      | (refine SAnd.mk (PLe.refl _) ?_; conv => whnf)
      | (refine SAnd.mk (PLeL.refl _) ?_; conv => whnf)
      | (refine SAnd.mk rfl ?_; conv => whnf)
      | (refine SAnd.mk ⟨rfl, rfl⟩ ?_; conv => whnf))
  · skip
    · refine SLe.ofO [(4, 4), (2, 2), (1, 1), (0, 0), (3, 3)] [(5, 5)] [(7, 7), (6, 6), (3, 3)] rfl rfl rfl ?_
      conv => whnf
      repeat' (first
      | exact True.intro
      | (refine SAnd.mk (PLe.refl _) ?_; conv => whnf)
      | (refine SAnd.mk (PLeL.refl _) ?_; conv => whnf)
      | (refine SAnd.mk rfl ?_; conv => whnf)
      | (refine SAnd.mk ⟨rfl, rfl⟩ ?_; conv => whnf))
  · skip
    · refine SLe.ofO [(4, 4), (2, 2), (1, 1), (0, 0), (3, 3)] [(5, 10)] [(7, 7), (6, 6), (3, 3)] rfl rfl rfl ?_
      conv => whnf
      repeat' (first
      | exact True.intro
      | (refine SAnd.mk (show _ = (_ : List (List PV)) from rfl) ?_; conv => whnf)
      | (refine SAnd.mk (PLe.refl _) ?_; conv => whnf)
      | (refine SAnd.mk (PLeL.refl _) ?_; conv => whnf)
      | (refine SAnd.mk rfl ?_; conv => whnf)
      | (refine SAnd.mk ⟨rfl, rfl⟩ ?_; conv => whnf))
  · skip
    · refine SLe.ofO [(4, 4), (2, 2), (1, 1), (0, 0), (3, 3)] [(5, 5)] [(7, 7), (6, 6), (3, 3)] rfl rfl rfl ?_
      conv => whnf
      repeat' (first
      | exact True.intro
      | (refine SAnd.mk (PLe.refl _) ?_; conv => whnf)
      | (refine SAnd.mk (PLeL.refl _) ?_; conv => whnf)
      | (refine SAnd.mk rfl ?_; conv => whnf)
      | (refine SAnd.mk ⟨rfl, rfl⟩ ?_; conv => whnf))

abbrev w1 (ws : List ByteArray) : ByteArray × Tk := tkW (ws, false)
abbrev w2 (ws : List ByteArray) : ByteArray × Tk := tkW (w1 ws).2
abbrev v3 (ws : List ByteArray) : Int × Tk := tkV (w2 ws).2
abbrev v4 (ws : List ByteArray) : Int × Tk := tkV (v3 ws).2
abbrev z5 (ws : List ByteArray) : List Pt × Tk := tkP ((v4 ws).2.1.length + 1) (v4 ws).2 []
def lnOk (ended : Bool) (ws : List ByteArray) : Bool := ended && decide ((w1 ws).1 = bArea) && !(z5 ws).2.2
def lnAr (ws : List ByteArray) : Ar := aV (w2 ws).1 (v3 ws).1 (v4 ws).1 (z5 ws).1
set_option maxHeartbeats 8000000 in
theorem line78 {m : Int} {gd gl g5 : Nat} {L : LpC} {T R : PV} {O : List (List PV)} {ended : Bool} (ws : List ByteArray) (hw : ws.length ≤ 5000) (hO : O.length ≤ 100000) :
    AWp (CQ m) Tryz.f78.ntmps (pieceAt [1, 1, 1] y78) (fun e s' => match e with | .normal => (lnOk ended ws) = true ∧ SLe (CQ m) Tryz.f78.ntmps s' ⟨[(5, .box 3 0), (4, .box 2 0), (3, .box 1 0), (2, .box 0 0)], [(4, (9, [R])), (2, (28, [I 0])), (1, (3, [I 0])), (0, (52, [nilS]))], [(5, (181, 4, O ++ [ac (lnAr ws)]))], 8, [(0, .p (.v (.func (.yield gl) #[] #[]))), (1, .box 4 0), (3, .p T), (Tryz.f202.ntmps + 20, .clo 202 [.box 4 0]), (Tryz.f202.ntmps + 5, .box 3 0), (Tryz.f202.ntmps + 4, .box 2 0), (Tryz.f202.ntmps + 3, .box 1 0), (Tryz.f202.ntmps + 2, .box 0 0)], [(7, .loop gl .busy Tryz.f78.ntmps [(20, .clo 202 [.box 4 0]), (5, .box 3 0), (4, .box 2 0), (3, .box 1 0), (2, .box 0 0)] L), (6, .dfr gd), (3, .hold g5 52 (.own 5))], []⟩ | .ret => (lnOk ended ws) = false ∧ SLe (CQ m) Tryz.f78.ntmps s' ⟨[(4, .box 2 0), (3, .box 1 0), (2, .box 0 0)], [(4, (9, [R])), (2, (28, [I 25])), (1, (3, [I O.length])), (0, (52, [nilS]))], [(5, (181, 4, O))], 8, [(0, .p (.v (.func (.yield gl) #[] #[]))), (1, .box 4 0), (3, .p T), (Tryz.f202.ntmps + 20, .clo 202 [.box 4 0]), (Tryz.f202.ntmps + 5, .box 3 0), (Tryz.f202.ntmps + 4, .box 2 0), (Tryz.f202.ntmps + 3, .box 1 0), (Tryz.f202.ntmps + 2, .box 0 0)], [(7, .loop gl .busy Tryz.f78.ntmps [(20, .clo 202 [.box 4 0]), (5, .box 3 0), (4, .box 2 0), (3, .box 1 0), (2, .box 0 0)] L), (6, .dfr gd), (3, .hold g5 52 (.own 5))], []⟩ | _ => False) ⟨[(11, .bnd 169 [.box 8 0]), (10, .bnd 168 [.box 8 0]), (9, .box 8 0), (8, .p (Bo ended)), (5, .box 3 0), (4, .box 2 0), (3, .box 1 0), (2, .box 0 0)], [(8, (252, [.seq 1 (cellsS ws), Bo false])), (4, (9, [R])), (2, (28, [I 0])), (1, (3, [I 0])), (0, (52, [nilS]))], [(5, (181, 4, O))], 9, [(0, .p (.v (.func (.yield gl) #[] #[]))), (1, .box 4 0), (3, .p T), (Tryz.f202.ntmps + 20, .clo 202 [.box 4 0]), (Tryz.f202.ntmps + 5, .box 3 0), (Tryz.f202.ntmps + 4, .box 2 0), (Tryz.f202.ntmps + 3, .box 1 0), (Tryz.f202.ntmps + 2, .box 0 0)], [(7, .loop gl .busy Tryz.f78.ntmps [(20, .clo 202 [.box 4 0]), (5, .box 3 0), (4, .box 2 0), (3, .box 1 0), (2, .box 0 0)] L), (6, .dfr gd), (3, .hold g5 52 (.own 5))], []⟩ := by
  have l1 := tkW_len (ws, false)
  have l2 := tkW_len (w1 ws).2
  have l3 := tkV_len (w2 ws).2
  have l4 := tkV_len (v3 ws).2
  have h5 : (v4 ws).2.1.length ≤ 5000 := Nat.le_trans (Nat.le_trans l4 (Nat.sub_le _ _)) (Nat.le_trans (Nat.le_trans l3 (Nat.sub_le _ _)) (Nat.le_trans (Nat.le_trans l2 (Nat.sub_le _ _)) (Nat.le_trans (Nat.le_trans l1 (Nat.sub_le _ _)) hw)))
  refine .seq ((word9 (m := m) (gd := gd) (gl := gl) (g5 := g5) (L := L) (T := T) (R := R) (O := O) (ended := ended) ws false).mono (fun e s h => ?_))
  cases e with
  | ret => exact h.elim
  | exit _ => exact h.elim
  | normal =>
  skip
  refine AWp.le h ?_
  refine .seq ((word10 (m := m) (gd := gd) (gl := gl) (g5 := g5) (L := L) (T := T) (R := R) (O := O) (ended := ended) (isA := decide ((w1 ws).1 = bArea)) (w1 ws).2.1 (w1 ws).2.2).mono (fun e s h => ?_))
  cases e with
  | ret => exact h.elim
  | exit _ => exact h.elim
  | normal =>
  skip
  obtain ⟨g13, h⟩ := h
  refine AWp.le h ?_
  refine .seq ((num11 (m := m) (gd := gd) (gl := gl) (g5 := g5) (L := L) (T := T) (R := R) (O := O) (ended := ended) (g13 := g13) (isA := decide ((w1 ws).1 = bArea)) (nm := (w2 ws).1) (w2 ws).2.1 (w2 ws).2.2).mono (fun e s h => ?_))
  cases e with
  | ret => exact h.elim
  | exit _ => exact h.elim
  | normal =>
  skip
  refine AWp.le h ?_
  refine .seq ((num12 (m := m) (gd := gd) (gl := gl) (g5 := g5) (L := L) (T := T) (R := R) (O := O) (ended := ended) (g13 := g13) (isA := decide ((w1 ws).1 = bArea)) (nm := (w2 ws).1) (x1 := (v3 ws).1) (v3 ws).2.1 (v3 ws).2.2).mono (fun e s h => ?_))
  cases e with
  | ret => exact h.elim
  | exit _ => exact h.elim
  | normal =>
  skip
  refine AWp.le h ?_
  refine .seq ((loop13 (m := m) (gd := gd) (gl := gl) (g5 := g5) (L := L) (T := T) (R := R) (O := O) (ended := ended) (g13 := g13) (isA := decide ((w1 ws).1 = bArea)) (nm := (w2 ws).1) (sz := (v3 ws).1) (ct := (v4 ws).1) ((v4 ws).2.1.length + 1) (v4 ws).2 (Nat.lt_succ_self _) h5).mono (fun e s h => ?_))
  cases e with
  | ret => exact h.elim
  | exit _ => exact h.elim
  | normal =>
  skip
  refine AWp.le h ?_
  refine AWp.le (t := ⟨[(13, .box 9 0), (12, .p (Bo (decide ((w1 ws).1 = bArea)))), (9, .box 8 0), (8, .p (Bo ended)), (5, .box 3 0), (4, .box 2 0), (3, .box 1 0), (2, .box 0 0)], [(8, (252, [.seq 1 (cellsS (z5 ws).2.1), Bo (z5 ws).2.2])), (4, (9, [R])), (2, (28, [I 0])), (1, (3, [I 0])), (0, (52, [nilS]))], [(5, (181, 4, O))], 10, [(0, .p (.v (.func (.yield gl) #[] #[]))), (1, .box 4 0), (3, .p T), (Tryz.f202.ntmps + 20, .clo 202 [.box 4 0]), (Tryz.f202.ntmps + 5, .box 3 0), (Tryz.f202.ntmps + 4, .box 2 0), (Tryz.f202.ntmps + 3, .box 1 0), (Tryz.f202.ntmps + 2, .box 0 0)], [(9, .hst g13 181 4 [(3, .p (.seq 2 ((z5 ws).1.map pc))), (0, .p (St (w2 ws).1)), (1, .p (I (v3 ws).1)), (2, .p (I (v4 ws).1))]), (7, .loop gl .busy Tryz.f78.ntmps [(20, .clo 202 [.box 4 0]), (5, .box 3 0), (4, .box 2 0), (3, .box 1 0), (2, .box 0 0)] L), (6, .dfr gd), (3, .hold g5 52 (.own 5))], []⟩) ?_ ?_
  · refine SLe.shutB 10 ?_
    conv => whnf
    skip
    · refine SLe.ofO [(9, 9), (8, 8), (4, 4), (2, 2), (1, 1), (0, 0), (3, 3)] [(5, 5)] [(9, 9), (7, 7), (6, 6), (3, 3)] rfl rfl rfl ?_
      conv => whnf
      repeat' (first
      | exact True.intro
      | (refine SAnd.mk (PLe.refl _) ?_; conv => whnf)
      | (refine SAnd.mk (PLeL.refl _) ?_; conv => whnf)
      | (refine SAnd.mk rfl ?_; conv => whnf)
      | (refine SAnd.mk ⟨rfl, rfl⟩ ?_; conv => whnf))
  · exact tail14 (m := m) (gd := gd) (gl := gl) (g5 := g5) (L := L) (T := T) (R := R) (O := O) (ended := ended) (g13 := g13) (isA := decide ((w1 ws).1 = bArea)) (nm := (w2 ws).1) (sz := (v3 ws).1) (ct := (v4 ws).1) (z5 ws).2.1 (z5 ws).2.2 (z5 ws).1 hO
end Go.Proofs.Ab.Area
end
section
/- Parse: the function. -/
set_option maxRecDepth 100000
set_option linter.unusedVariables false
set_option linter.unusedSimpArgs false
namespace Go.Proofs.Ab.Area
open Go Go.RowKit Go.Proofs.Ab
theorem CheckPolygon_big {m : Int} (l : List Pt) (hl : l.length ≤ 1000000) : APure (C m) 25 [.seq 2 (l.map pc)] (I (polyE l)) := by
  have hlen : (((l.map pc).length : Nat) : Int) = l.length := by simp
  have hmp := mapped105 (m := m) ptE 94 [] l (by omega) (fun x _ => checkPoint_pure x)
  have hF := firstM_pure (m := m) ptE l (by omega)
  have pe : ∀ a b : Int, a = (if l.length < 3 then 16 else 0) → b = (if 8 < l.length then 5 else 0) → firstOf [a, b, firstOf (l.map ptE)] = polyF l := fun a b ha hb => by rw [ha, hb]; rfl
  have ret : ∀ a b : Int, a = (if l.length < 3 then 16 else 0) → b = (if 8 < l.length then 5 else 0) → ¬ firstOf [a, b, firstOf (l.map ptE)] = 0 → firstOf [a, b, firstOf (l.map ptE)] = polyE l := fun a b ha hb h => by
    rw [pe a b ha hb] at h ⊢
    unfold polyE
    rw [if_neg h]
  have go : ∀ a b : Int, a = (if l.length < 3 then 16 else 0) → b = (if 8 < l.length then 5 else 0) → firstOf [a, b, firstOf (l.map ptE)] = 0 →
      AWp (C m) Tryz.f25.ntmps (pieceAt [1, 1] c25) (endV m [ResultVar.tmp 2] (I (polyE l))) ⟨[(0, .p (.seq 2 (l.map pc)))], [], [], 0, [], [], []⟩ := fun a b ha hb h => by
    rw [pe a b ha hb] at h
    have hz := polyF_zero.1 h
    have e : polyE l = if (List.range l.length).any (badB l) then 1 else 0 := by unfold polyE; rw [if_pos h]
    rw [e]
    exact poly_loop l hz.1.1 (by omega) (fun q hq => fit_of (hz.2 q hq))
  generalize firstOf (l.map ptE) = F at *
  refine APure.of_wp good (fn := Tryz.f25) (by kernel_rfl) (by kernel_rfl) rfl rfl (by kernel_rfl) rfl (by kernel_rfl) ?_
  refine codeN_sound good (mu := []) (n := 2) ?_
  conv => whnf
  repeat' (first
    | (rw [hlen]; conv => whnf)
    | (refine SBool.mk (fun h => absurd h (of_decide_eq_false rfl)) (fun _ => ?_); conv => whnf)
    | (refine SBool.mk (fun h => ?_) (fun h => ?_) <;> conv => whnf)
    | (refine SEx.mk _ (by first | exact hmp | exact hF | exact when_pure _ _ | exact first3_pure _ _ _) ?_; conv => whnf)
    | fail)
  all_goals first
    | exact ⟨PLe.of_eq (congrArg I (ret _ _ (by first | exact (if_pos (by omega)).symm | exact (if_neg (by omega)).symm) (by first | exact (if_pos (by omega)).symm | exact (if_neg (by omega)).symm) (by assumption)))⟩
    | refine ⟨AWp.le ?_ (go _ _ (by first | exact (if_pos (by omega)).symm | exact (if_neg (by omega)).symm) (by first | exact (if_pos (by omega)).symm | exact (if_neg (by omega)).symm) (by assumption))⟩
  all_goals
    skip
    · refine SLe.of [] [] rfl rfl ?_
      conv => whnf
      repeat' (first
      | exact True.intro
      | (refine SAnd.mk (PLe.refl _) ?_; conv => whnf))
theorem areaCheck_big {m : Int} (a : Ar) (ha : a.poly.length ≤ 1000000) : APure (C m) 124 [.agg (ac a)] (I (areaE a)) := by
  refine APure.of_body good [] (fn := Tryz.f124) (by kernel_rfl) (by kernel_rfl) rfl rfl (by kernel_rfl) rfl (by kernel_rfl) ?_
  conv => whnf
  repeat' (first
    | (refine SEx.mk _ (by first | exact checkSize_pure _ | exact checkCat_pure _ | exact CheckPolygon_big a.poly ha | exact first3_pure _ _ _) ?_; conv => whnf)
    | (refine SAnd.mk (by first | exact rfl | kernel_rfl | omega | decide | exact checkSize_pure _ | exact checkCat_pure _ | exact CheckPolygon_big a.poly ha | exact first3_pure _ _ _) ?_; conv => whnf)
    | fail)
  exact ⟨PLe.refl _⟩
theorem CheckAreas_big {m : Int} (l : List Ar) (hl : l.length ≤ 1000000) (hp : ∀ a ∈ l, a.poly.length ≤ 1000000) : APure (C m) 38 [.seq 4 (l.map ac)] (I (areasE l)) := by
  have h := named122 (m := m) (·.name) areaE 123 124 l 16 hl (fun x _ => label123 x) (fun h x hx => areaCheck_big x (hp x hx))
  refine APure.of_body good [] (fn := Tryz.f38) (by kernel_rfl) (by kernel_rfl) rfl rfl (by kernel_rfl) rfl (by kernel_rfl) ?_
  conv => whnf
  repeat' (first
    | (refine SEx.mk _ (by first | exact h) ?_; conv => whnf)
    | fail)
  exact ⟨PLe.refl _⟩
theorem tkP_len : ∀ (n : Nat) (st : Tk) (ps : List Pt), (tkP n st ps).1.length ≤ ps.length + n
  | 0, st, ps => by simp [tkP]
  | n + 1, st, ps => by
    unfold tkP
    split
    · simp only; omega
    · have := tkP_len n (tkV (tkV st).2).2 (ps ++ [⟨(tkV st).1, (tkV (tkV st).2).1⟩])
      rw [List.length_append] at this
      simp only [List.length_cons, List.length_nil] at this
      omega
theorem lnAr_len (ws : List ByteArray) (hw : ws.length ≤ 5000) : (lnAr ws).poly.length ≤ 5001 := by
  have l1 : (w1 ws).2.1.length ≤ ws.length := Nat.le_trans (tkW_len (ws, false)) (Nat.sub_le _ _)
  have l2 : (w2 ws).2.1.length ≤ (w1 ws).2.1.length := Nat.le_trans (tkW_len (w1 ws).2) (Nat.sub_le _ _)
  have l3 : (v3 ws).2.1.length ≤ (w2 ws).2.1.length := Nat.le_trans (tkV_len (w2 ws).2) (Nat.sub_le _ _)
  have l4 : (v4 ws).2.1.length ≤ (v3 ws).2.1.length := Nat.le_trans (tkV_len (v3 ws).2) (Nat.sub_le _ _)
  have h := tkP_len ((v4 ws).2.1.length + 1) (v4 ws).2 []
  show (z5 ws).1.length ≤ 5001
  rw [List.length_nil] at h
  exact Nat.le_trans h (by omega)
def wordsV (body : List UInt8) : List ByteArray := Lib.splitB ⟨#[32]⟩ 0 (Lib.countB ⟨body.toArray⟩ ⟨#[32]⟩) ⟨body.toArray⟩
def lineOk (t : List UInt8) : Bool := lnOk (Lib.hasSuffix t [10]) (wordsV (Lib.trimSuffix t [10]))
def lineA (t : List UInt8) : Ar := lnAr (wordsV (Lib.trimSuffix t [10]))
def cutLine (r : List UInt8) : Nat := if Lib.indexByte r 10 < 0 then r.length else (Lib.indexByte r 10).toNat + 1
/-- What Parse comes to. -/
def parseF : Nat → List UInt8 → List Ar → List Ar × Int × Int
  | 0, _, out => ([], 0, 0)
  | n + 1, [], out => if areasE out = 0 then (out, 0, 0) else ([], out.length, areasE out)
  | n + 1, r, out => if lineOk (r.take (cutLine r)) then parseF n (r.drop (cutLine r)) (out ++ [lineA (r.take (cutLine r))]) else ([], out.length, 25)
def parseV (s : ByteArray) : List Ar × Int × Int := if 4096 < s.size then ([], 0, 26) else parseF (s.size + 1) s.data.toList []
theorem ext_take (r : List UInt8) (k : Nat) : (⟨r.toArray⟩ : ByteArray).extract 0 k = ⟨(r.take k).toArray⟩ := by
  apply ByteArray.ext
  simp
theorem ext_drop (r : List UInt8) (k : Nat) : (⟨r.toArray⟩ : ByteArray).extract k (⟨r.toArray⟩ : ByteArray).size = ⟨(r.drop k).toArray⟩ := by
  apply ByteArray.ext
  simp [ByteArray.size, List.take_of_length_le]
theorem indexByte_lt {l : List UInt8} {c : UInt8} (h : 0 ≤ Lib.indexByte l c) : (Lib.indexByte l c).toNat < l.length := by
  induction l with
  | nil => simp [Lib.indexByte] at h
  | cons b l ih =>
    unfold Lib.indexByte at h ⊢
    split
    · simp
    · rename_i hb
      rw [if_neg hb] at h
      split
      · rename_i h1
        rw [if_pos h1] at h
        simp at h
      · rename_i h1
        rw [if_neg h1] at h
        have hge := Lib.indexByte_ge l c
        have h1' : Lib.indexByte l c ≠ -1 := fun e => h1 (by rw [e]; rfl)
        have := ih (by omega)
        simp only [List.length_cons]
        omega
/-- What is left to parse. -/
structure PI where
  n : Nat
  r : List UInt8
  out : List Ar
abbrev cellsA (out : List Ar) : List (List PV) := out.map ac
theorem upQ {m : Int} {f : FuncId} {xs : List PV} {v : PV} (h : APure (C m) f xs v) : APure (CQ m) f xs v := h
theorem wordsV_len (body : List UInt8) (hb : body.length ≤ 4096) : (wordsV body).length ≤ 5000 := by
  have h1 : (1 : Nat) ≤ (⟨#[32]⟩ : ByteArray).size := by decide
  have hl := Lib.splitB_all ⟨#[32]⟩ h1 0 _ ⟨body.toArray⟩ rfl
  have hc := Lib.countB_le ⟨#[32]⟩ h1 _ ⟨body.toArray⟩ (Nat.le_refl _)
  have hz : (⟨body.toArray⟩ : ByteArray).size = body.length := by simp [ByteArray.size]
  unfold wordsV
  rw [hl]
  omega
set_option maxHeartbeats 8000000 in
theorem Parse_pure {m : Int} (s : ByteArray) : APure (C m) 78 [St s] (.tup [if (parseV s).2.2 = 0 then .seq 4 ((parseV s).1.map ac) else nilS, I (parseV s).2.1, I (parseV s).2.2]) := by
  refine APure.of_body good [1005, 20] (fn := Tryz.f78) (by kernel_rfl) (by kernel_rfl) rfl rfl (by kernel_rfl) rfl (by kernel_rfl) ?_
  conv => whnf
  repeat' (first
    | (refine SBool.mk (fun h => ?_) (fun h => ?_) <;> conv => whnf)
    | (refine SAll.mk (fun _ => ?_); conv => whnf)
    | fail)
  · have h' : 4096 < s.size := by omega
    exact ⟨PLe.of_eq (by simp [parseV, h'])⟩
  · rename_i g5
    have hs : s.size ≤ 4096 := by omega
    have hsl : s.data.toList.length = s.size := by rw [Array.length_toList]; rfl
    refine ACall.inline good [1, 3] (fn := Tryz.f165) (by kernel_rfl) (by kernel_rfl) rfl rfl (by kernel_rfl) rfl (by kernel_rfl) ?_
    conv => whnf
    repeat' (first
      | fail)
    refine ⟨AWp.le (t := ⟨[(20, .clo 202 [.box 4 0]), (5, .box 3 0), (4, .box 2 0), (3, .box 1 0), (2, .box 0 0)], [(4, (9, [St s])), (2, (28, [I 0])), (1, (3, [I 0])), (0, (52, [nilS]))], [(5, (181, 4, []))], 6, [], [(3, .hold g5 52 (.own 5))], []⟩) ?_ ?_⟩
    · refine SLe.rowH 3 181 4 ?_
      conv => whnf
      skip
      · refine SLe.ofO [(4, 4), (2, 2), (1, 1), (0, 0), (3, 3)] [(5, 5)] [(3, 3)] rfl rfl rfl ?_
        conv => whnf
        repeat' (first
        | exact True.intro
        | (refine SAnd.mk (PLeL.refl _) ?_; conv => whnf)
        | (refine SAnd.mk rfl ?_; conv => whnf))
    · refine AWp.post (AWp.rangeF rfl ?_)
      conv => whnf
      intro gd gl L hLp hLa hLb
      refine ACall.inline good [] (fn := Tryz.f202) (by kernel_rfl) (by kernel_rfl) rfl rfl (by kernel_rfl) rfl (by kernel_rfl) ?_
      conv => whnf
      refine ⟨AWp.loop (ι := { p : PI // p.r.length + 1 ≤ p.n ∧ p.out.length + p.r.length ≤ 4096 ∧ (∀ a ∈ p.out, a.poly.length ≤ 5001) ∧ parseF p.n p.r p.out = parseF (s.size + 1) s.data.toList [] }) (fun p => ⟨[(0, .p (.v (.func (.yield gl) #[] #[]))), (1, .box 4 0)], [(4, (9, [St ⟨p.1.r.toArray⟩])), (2, (28, [I 0])), (1, (3, [I 0])), (0, (52, [nilS]))], [(5, (181, 4, cellsA p.1.out))], 8, [(20, .clo 202 [.box 4 0]), (5, .box 3 0), (4, .box 2 0), (3, .box 1 0), (2, .box 0 0)], [(7, .loop gl .ready Tryz.f78.ntmps [(20, .clo 202 [.box 4 0]), (5, .box 3 0), (4, .box 2 0), (3, .box 1 0), (2, .box 0 0)] L), (6, .dfr gd), (3, .hold g5 52 (.own 5))], []⟩) (fun p => p.1.n) ⟨⟨s.size + 1, s.data.toList, []⟩, Nat.le_of_eq (congrArg (· + 1) hsl), by show 0 + s.data.toList.length ≤ 4096; rw [hsl]; omega, (fun a ha => by cases ha), rfl⟩ ?_ ?_⟩
      · skip
        · refine SLe.ofO [(4, 4), (2, 2), (1, 1), (0, 0), (3, 3)] [(5, 5)] [(7, 7), (6, 6), (3, 3)] rfl rfl rfl ?_
          conv => whnf
          repeat' (first
          | exact True.intro
          | (refine SAnd.mk (PLe.refl _) ?_; conv => whnf)
          | (refine SAnd.mk (PLeL.refl _) ?_; conv => whnf)
          | (refine SAnd.mk rfl ?_; conv => whnf)
          | (refine SAnd.mk ⟨rfl, rfl⟩ ?_; conv => whnf))
      · rintro ⟨⟨n, r, out⟩, hn, hlen, hpol, hpf⟩
        simp only at hn hlen hpol hpf
        have hix := indexByte_pure (m := m) ⟨r.toArray⟩ 10
        have e10 : (10 : Int).toNat.toUInt8 = 10 := rfl
        have ert : (⟨r.toArray⟩ : ByteArray).data.toList = r := by simp
        have hrs : (⟨r.toArray⟩ : ByteArray).size = r.length := by simp [ByteArray.size]
        rw [e10, ert] at hix
        refine .seq (codeK_sound good (mu := []) ?_)
        conv => whnf
        refine SBool.mk (fun h => ?_) (fun h => ?_)
        · have hr0 : 0 < r.length := by
            have h' : (0 : Int) < ((⟨r.toArray⟩ : ByteArray).size : Int) := h
            rw [hrs] at h'
            omega
          conv => whnf
          refine .block (.seq (codeK_sound good (mu := []) ?_))
          conv => whnf
          refine AWp.mid ⟨[(0, .p (.v (.func (.yield gl) #[] #[]))), (1, .box 4 0), (3, .p (St ⟨(r.take (cutLine r)).toArray⟩))], [(4, (9, [St ⟨(r.drop (cutLine r)).toArray⟩])), (2, (28, [I 0])), (1, (3, [I 0])), (0, (52, [nilS]))], [(5, (181, 4, cellsA out))], 8, [(20, .clo 202 [.box 4 0]), (5, .box 3 0), (4, .box 2 0), (3, .box 1 0), (2, .box 0 0)], [(7, .loop gl .ready Tryz.f78.ntmps [(20, .clo 202 [.box 4 0]), (5, .box 3 0), (4, .box 2 0), (3, .box 1 0), (2, .box 0 0)] L), (6, .dfr gd), (3, .hold g5 52 (.own 5))], []⟩ ?_ ?_
          · refine codeK_sound good (mu := []) ?_
            conv => whnf
            repeat' (first
              | (refine SAnd.mk (by first | exact rfl | kernel_rfl | omega | decide) ?_; conv => whnf)
              | fail)
            refine SRound.of good [] (n := 7) (ps := [21]) rfl hLp hLa hLb ?_
            clear hLp hLa hLb
            conv => whnf
            refine SAnd.mk rfl ?_
            conv => whnf
            obtain ⟨t, ht⟩ : ∃ t, t = r.take (cutLine r) := ⟨_, rfl⟩
            rw [← ht]
            have htl : t.length ≤ 4096 := by rw [ht, List.length_take]; omega
            have hcs := cutSuffix_pure (m := m) ⟨t.toArray⟩ ⟨#[10]⟩ (by simp [ByteArray.size]; omega)
            have ett : (⟨t.toArray⟩ : ByteArray).data.toList = t := by simp
            have e10' : (⟨#[10]⟩ : ByteArray).data.toList = [10] := rfl
            rw [ett, e10'] at hcs
            have hlo : lineOk t = lnOk (Lib.hasSuffix t [10]) (wordsV (Lib.trimSuffix t [10])) := rfl
            have hla : lineA t = lnAr (wordsV (Lib.trimSuffix t [10])) := rfl
            obtain ⟨body, hbody⟩ : ∃ body, body = Lib.trimSuffix t [10] := ⟨_, rfl⟩
            obtain ⟨ended, hend⟩ : ∃ ended, ended = Lib.hasSuffix t [10] := ⟨_, rfl⟩
            rw [← hbody, ← hend] at hcs
            rw [← hbody] at hla
            rw [← hbody, ← hend] at hlo
            have hbl : body.length ≤ 4096 := by
              rw [hbody]
              unfold Lib.trimSuffix
              split
              · rw [List.length_take]; omega
              · exact htl
            have hsp := split_pure (m := m) ⟨body.toArray⟩ ⟨#[32]⟩ (by simp [ByteArray.size]; omega) (by decide)
            have hwv : Lib.splitB ⟨#[32]⟩ 0 (Lib.countB ⟨body.toArray⟩ ⟨#[32]⟩) ⟨body.toArray⟩ = wordsV body := rfl
            rw [hwv] at hsp
            have hwl := wordsV_len body hbl
            have hpl := lnAr_len (wordsV body) hwl
            have hline := line78 (m := m) (gd := gd) (gl := gl) (g5 := g5) (L := L) (T := St ⟨t.toArray⟩) (R := St ⟨(r.drop (cutLine r)).toArray⟩) (O := cellsA out) (ended := ended) (wordsV body) hwl (by rw [List.length_map]; omega)
            rw [← hlo, ← hla] at hline
            rw [← hla] at hpl
            refine AWp.block (codeN_sound goodQ (mu := [30, 32, 34]) (n := 3) ?_)
            conv => whnf
            repeat' (first
              | (refine SEx.mk _ (by first | exact upQ hcs | exact upQ hsp) ?_; conv => whnf)
              | fail)
            refine ⟨AWp.le (t := ⟨[(11, .bnd 169 [.box 8 0]), (10, .bnd 168 [.box 8 0]), (9, .box 8 0), (8, .p (Bo ended)), (5, .box 3 0), (4, .box 2 0), (3, .box 1 0), (2, .box 0 0)], [(8, (252, [.seq 1 (cellsS (wordsV body)), Bo false])), (4, (9, [St ⟨(r.drop (cutLine r)).toArray⟩])), (2, (28, [I 0])), (1, (3, [I 0])), (0, (52, [nilS]))], [(5, (181, 4, cellsA out))], 9, [(0, .p (.v (.func (.yield gl) #[] #[]))), (1, .box 4 0), (3, .p (St ⟨t.toArray⟩)), (Tryz.f202.ntmps + 20, .clo 202 [.box 4 0]), (Tryz.f202.ntmps + 5, .box 3 0), (Tryz.f202.ntmps + 4, .box 2 0), (Tryz.f202.ntmps + 3, .box 1 0), (Tryz.f202.ntmps + 2, .box 0 0)], [(7, .loop gl .busy Tryz.f78.ntmps [(20, .clo 202 [.box 4 0]), (5, .box 3 0), (4, .box 2 0), (3, .box 1 0), (2, .box 0 0)] L), (6, .dfr gd), (3, .hold g5 52 (.own 5))], []⟩) ?_ (AWp.post (hline.mono ?_))⟩
            · skip
              · refine SLe.ofO [(8, 8), (4, 4), (2, 2), (1, 1), (0, 0), (3, 3)] [(5, 5)] [(7, 7), (6, 6), (3, 3)] rfl rfl rfl ?_
                conv => whnf
                repeat' (first
                | exact True.intro
                | (refine SAnd.mk (PLe.refl _) ?_; conv => whnf)
                | (refine SAnd.mk (PLeL.refl _) ?_; conv => whnf)
                | (refine SAnd.mk rfl ?_; conv => whnf)
                | (refine SAnd.mk ⟨rfl, rfl⟩ ?_; conv => whnf))
            · rintro e s' h
              clear hline hcs hsp hix
              cases e with
              | exit i => exact h.elim
              | normal =>
                obtain ⟨hok, hle⟩ := h
                refine ⟨_, hle, ?_⟩
                have hcut1 : 1 ≤ cutLine r := by unfold cutLine; split <;> omega
                have hdl : (r.drop (cutLine r)).length + 1 ≤ r.length := by rw [List.length_drop]; omega
                have hgo : parseF (n - 1) (r.drop (cutLine r)) (out ++ [lineA t]) = parseF (s.size + 1) s.data.toList [] := by
                  rw [← hpf]
                  obtain ⟨n, rfl⟩ : ∃ k, n = k + 1 := ⟨n - 1, by omega⟩
                  cases r with
                  | nil => simp at hr0
                  | cons c r =>
                    conv => rhs; unfold parseF
                    rw [← ht, hok]
                    rfl
                skip
                conv => whnf
                repeat' (first
                  | (refine SAnd.mk (by first | exact rfl | kernel_rfl | omega | decide) ?_; conv => whnf)
                  | fail)
                refine ⟨⟨⟨n - 1, r.drop (cutLine r), out ++ [lineA t]⟩, by simp only; omega, by simp only [List.length_append, List.length_cons, List.length_nil]; omega, (fun a ha => by
                  rcases List.mem_append.1 ha with ha | ha
                  · exact hpol a ha
                  · rw [List.mem_singleton] at ha
                    rw [ha]
                    exact hpl), hgo⟩, by simp only; omega, ?_⟩
                skip
                · refine SLe.ofO [(4, 4), (2, 2), (1, 1), (0, 0), (3, 3)] [(5, 5)] [(7, 7), (6, 6), (3, 3)] rfl rfl rfl ?_
                  conv => whnf
                  repeat' (first
                  | exact True.intro
                  | (refine SAnd.mk (show _ = (_ : List (List PV)) from by simp [cellsA]) ?_; conv => whnf)
                  | (refine SAnd.mk (PLe.refl _) ?_; conv => whnf)
                  | (refine SAnd.mk (PLeL.refl _) ?_; conv => whnf)
                  | (refine SAnd.mk rfl ?_; conv => whnf)
                  | (refine SAnd.mk ⟨rfl, rfl⟩ ?_; conv => whnf))
              | ret =>
                obtain ⟨hok, hle⟩ := h
                refine ⟨_, hle, ?_⟩
                have hpv : parseV s = ([], (out.length : Int), 25) := by
                  unfold parseV
                  rw [if_neg (by omega), ← hpf]
                  obtain ⟨n, rfl⟩ : ∃ k, n = k + 1 := ⟨n - 1, by omega⟩
                  cases r with
                  | nil => simp at hr0
                  | cons c r =>
                    unfold parseF
                    rw [← ht, hok]
                    rfl
                skip
                conv => whnf
                repeat' (first
                  | (refine SAnd.mk (by first | exact rfl | kernel_rfl | omega | decide) ?_; conv => whnf)
                  | fail)
                refine ⟨⟨[(4, .box 2 0), (3, .box 1 0), (2, .box 0 0)], [(2, (28, [I 25])), (1, (3, [I (((cellsA out).length : Nat) : Int)])), (0, (52, [nilS]))], [], 8, [], [(6, .dfr gd)], [gd]⟩, ?_, ?_⟩
                · skip
                  · refine SLe.ofO [(2, 2), (1, 1), (0, 0)] [] [(6, 6)] rfl rfl rfl ?_
                    conv => whnf
                    repeat' (first
                    | exact True.intro
                    | (refine SAnd.mk (PLeL.refl _) ?_; conv => whnf)
                    | (refine SAnd.mk rfl ?_; conv => whnf))
                · skip
                  conv => whnf
                  repeat' (first
                    | (refine SAnd.mk (by first | exact rfl | kernel_rfl | omega | decide) ?_; conv => whnf)
                    | fail)
                  exact ⟨PLe.of_eq (by rw [hpv]; simp [cellsA])⟩
          · clear hLp hLa hLb
            refine codeK_sound good (mu := []) ?_
            have hge := Lib.indexByte_ge r 10
            by_cases hi : 0 ≤ Lib.indexByte r 10
            · have hil := indexByte_lt hi
              have hcut : cutLine r = (Lib.indexByte r 10).toNat + 1 := by unfold cutLine; rw [if_neg (by omega)]
              have hw : wrapK IntKind.i64 (Lib.indexByte r 10 + 1) = ((cutLine r : Nat) : Int) := by
                rw [hcut, show ((((Lib.indexByte r 10).toNat + 1 : Nat)) : Int) = Lib.indexByte r 10 + 1 by omega]
                exact w64 (by omega)
              have hb1 : (0 : Int) ≤ ((cutLine r : Nat) : Int) ∧ ((cutLine r : Nat) : Int) ≤ ((⟨r.toArray⟩ : ByteArray).size : Int) := ⟨by omega, by rw [hrs]; omega⟩
              skip
              conv => whnf
              repeat' (first
                | (rw [hw]; conv => whnf)
                | (refine SBool.mk (fun h => ?_) (fun h => ?_) <;> conv => whnf)
                | (refine SEx.mk _ (by first | exact hix | exact hb1) ?_; conv => whnf)
                | (refine SAnd.mk (by first | exact hix | exact hb1) ?_; conv => whnf)
                | (refine SAnd.mk (by first | exact rfl | kernel_rfl | omega | decide | exact hix | exact hb1) ?_; conv => whnf)
                | fail)
              · skip
                · refine SLe.ofO [(4, 4), (2, 2), (1, 1), (0, 0), (3, 3)] [(5, 5)] [(7, 7), (6, 6), (3, 3)] rfl rfl rfl ?_
                  conv => whnf
                  repeat' (first
                  | exact True.intro
                  | (refine SAnd.mk (by rw [← ext_take r (cutLine r)]; exact PLe.refl _) ?_; conv => whnf)
                  | (refine SAnd.mk (by rw [← ext_drop r (cutLine r)]; exact PLeL.refl _) ?_; conv => whnf)
                  | (refine SAnd.mk (PLe.refl _) ?_; conv => whnf)
                  | (refine SAnd.mk (PLeL.refl _) ?_; conv => whnf)
                  | (refine SAnd.mk rfl ?_; conv => whnf)
                  | (refine SAnd.mk ⟨rfl, rfl⟩ ?_; conv => whnf))
              · exact absurd hi h
            · have hcut : cutLine r = r.length := by unfold cutLine; rw [if_pos (by omega)]
              skip
              conv => whnf
              repeat' (first
                | (refine SBool.mk (fun h => ?_) (fun h => ?_) <;> conv => whnf)
                | (refine SEx.mk _ (by first | exact hix) ?_; conv => whnf)
                | (refine SAnd.mk (by first | exact rfl | kernel_rfl | omega | decide | exact hix) ?_; conv => whnf)
                | fail)
              · exact absurd h hi
              · skip
                · refine SLe.ofO [(4, 4), (2, 2), (1, 1), (0, 0), (3, 3)] [(5, 5)] [(7, 7), (6, 6), (3, 3)] rfl rfl rfl ?_
                  conv => whnf
                  repeat' (first
                  | exact True.intro
                  | (refine SAnd.mk (by rw [hcut, List.take_length]; exact PLe.refl _) ?_; conv => whnf)
                  | (refine SAnd.mk (by rw [hcut, List.drop_length]; exact PLeL.refl _) ?_; conv => whnf)
                  | (refine SAnd.mk (PLe.refl _) ?_; conv => whnf)
                  | (refine SAnd.mk (PLeL.refl _) ?_; conv => whnf)
                  | (refine SAnd.mk rfl ?_; conv => whnf)
                  | (refine SAnd.mk ⟨rfl, rfl⟩ ?_; conv => whnf))
        · have hr0 : r = [] := by
            have h' : ¬ (0 : Int) < ((⟨r.toArray⟩ : ByteArray).size : Int) := h
            rw [hrs] at h'
            exact List.eq_nil_of_length_eq_zero (by omega)
          subst hr0
          have hpv : parseV s = if areasE out = 0 then (out, 0, 0) else ([], (out.length : Int), areasE out) := by
            unfold parseV
            rw [if_neg (by omega), ← hpf]
            obtain ⟨n, rfl⟩ : ∃ k, n = k + 1 := ⟨n - 1, by simp at hn; omega⟩
            rfl
          clear hLp hLa hLb
          conv => whnf
          refine SAnd.mk rfl ?_
          conv => whnf
          refine ⟨⟨[(5, .box 3 0), (4, .box 2 0), (3, .box 1 0), (2, .box 0 0)], [(2, (28, [I 0])), (1, (3, [I 0])), (0, (52, [nilS]))], [(5, (181, 4, cellsA out))], 8, [], [(6, .dfr gd), (3, .hold g5 52 (.own 5))], [gd]⟩, ?_, ?_⟩
          · skip
            · refine SLe.ofO [(2, 2), (1, 1), (0, 0), (3, 3)] [(5, 5)] [(6, 6), (3, 3)] rfl rfl rfl ?_
              conv => whnf
              repeat' (first
              | exact True.intro
              | (refine SAnd.mk (PLeL.refl _) ?_; conv => whnf)
              | (refine SAnd.mk rfl ?_; conv => whnf))
          · have hol : out.length ≤ 1000000 := by omega
            have hca := CheckAreas_big (m := m) out hol (fun a ha => Nat.le_trans (hpol a ha) (by decide))
            skip
            conv => whnf
            repeat' (first
              | (refine SBool.mk (fun h => ?_) (fun h => ?_) <;> conv => whnf)
              | (refine SEx.mk _ (by first | exact hca) ?_; conv => whnf)
              | (refine SAnd.mk (by first | exact rfl | kernel_rfl | omega | decide | exact hca) ?_; conv => whnf)
              | fail)
            · exact ⟨PLe.of_eq (by simp [hpv, h])⟩
            · exact ⟨PLe.of_eq (by simp [hpv, h])⟩
end Go.Proofs.Ab.Area
end
section
/- The delay of timed flights. -/
set_option maxRecDepth 100000
set_option linter.unusedVariables false
set_option linter.unusedSimpArgs false
namespace Go.Proofs.Ab.Area
open Go Go.RowKit Go.Proofs.Ab
structure Tm where
  f : Fg
  t : Int
abbrev tc (x : Tm) : List PV := [St x.f.name, I x.f.kind, I x.f.ready, I x.t]
structure Tm.Fit (x : Tm) : Prop where
  r : 0 ≤ x.f.ready ∧ x.f.ready ≤ 100000000
  t : 0 ≤ x.t ∧ x.t ≤ 1000000000000
def late (x : Tm) : Int := x.t - x.f.ready
theorem late_pure {m : Int} (x : Tm) (hx : x.Fit) : APure (C m) 192 [.agg (tc x)] (I (late x)) := by
  have w : wrapK IntKind.i64 (x.t - x.f.ready) = x.t - x.f.ready := w64 (by have := hx.r; have := hx.t; omega)
  refine APure.of_body good [] (fn := Tryz.f192) (by kernel_rfl) (by kernel_rfl) rfl rfl (by kernel_rfl) rfl (by kernel_rfl) ?_
  conv => whnf
  repeat' (first
    | (rw [w]; conv => whnf)
    | fail)
  exact ⟨PLe.refl _⟩
theorem tick_pure {m : Int} (x : Tm) : APure (C m) 143 [.agg (tc x)] (I x.t) := by
  refine APure.of_body good [] (fn := Tryz.f143) (by kernel_rfl) (by kernel_rfl) rfl rfl (by kernel_rfl) rfl (by kernel_rfl) ?_
  conv => whnf
  repeat' (first
    | fail)
  exact ⟨PLe.refl _⟩
def delayI (l : List Tm) (k : Nat) : Int := ((l.take k).map late).sum
theorem delay_succ {l : List Tm} {k : Nat} (h : k < l.length) : delayI l (k + 1) = delayI l k + late l[k] := by
  unfold delayI
  rw [List.take_succ_eq_append_getElem h, List.map_append, List.sum_append]
  simp
theorem delay_fit {l : List Tm} (hf : ∀ x ∈ l, x.Fit) : ∀ k, k ≤ l.length → -(k : Int) * 100000000 ≤ delayI l k ∧ delayI l k ≤ (k : Int) * 1000000000000
  | 0, _ => by simp [delayI]
  | k + 1, h => by
    have ih := delay_fit hf k (by omega)
    rw [delay_succ (show k < l.length by omega)]
    have hx := hf _ (List.getElem_mem (show k < l.length by omega))
    have h1 := hx.r
    have h2 := hx.t
    unfold late
    omega
theorem delay_pure {m : Int} (l : List Tm) (hl : l.length ≤ 1000) (hf : ∀ x ∈ l, x.Fit) : APure (C m) 144 [.seq 4 (l.map tc)] (I (delayI l l.length)) := by
  have hlen : (((l.map tc).length : Nat) : Int) = l.length := by simp
  refine APure.of_body good [] (fn := Tryz.f144) (by kernel_rfl) (by kernel_rfl) rfl rfl (by kernel_rfl) rfl (by kernel_rfl) ?_
  conv => whnf
  refine ⟨AWp.loop (ι := { k : Nat // k ≤ l.length }) (fun k => ⟨[(8, .p (I k.1)), (7, .p (I l.length)), (6, .p (.seq 4 (l.map tc))), (3, .p (I (delayI l k.1))), (0, .p (.seq 4 (l.map tc)))], [], [], 0, [], [], []⟩) (fun k => l.length - k.1) ⟨0, by simp⟩ ?_ ?_⟩
  · skip
    · refine SLe.of [] [] rfl rfl ?_
      conv => whnf
      repeat' (first
      | exact True.intro
      | (refine SAnd.mk (PLe.refl _) ?_; conv => whnf)
      | (refine SAnd.mk (PLe.of_eq (by simp)) ?_; conv => whnf))
  · rintro ⟨k, hk⟩
    refine codeK_sound good (mu := []) ?_
    conv => whnf
    refine SBool.mk (fun hc => ?_) (fun hc => ?_)
    · have hkl : k < l.length := by simpa using hc
      have hs0 := some_at hkl tc
      have mk := sub_lt hkl
      have wk : wrapK IntKind.i64 ((k : Int) + 1) = k + 1 := w64 (by omega)
      have hla := late_pure (m := m) l[k] (hf _ (List.getElem_mem hkl))
      have hst : wrapK IntKind.i64 (delayI l k + late l[k]) = delayI l (k + 1) := by
        have h1 := delay_fit hf (k + 1) hkl
        rw [← delay_succ hkl]
        exact w64 (by omega)
      conv => whnf
      conv => whnf
      repeat' (first
        | (rw [wk]; conv => whnf)
        | (refine SEx.mk _ (by first | exact hs0 | exact hla) ?_; conv => whnf)
        | fail)
      refine ⟨⟨k + 1, hkl⟩, mk, ?_⟩
      skip
      · refine SLe.of [] [] rfl rfl ?_
        conv => whnf
        repeat' (first
        | exact True.intro
        | (refine SAnd.mk (PLe.of_eq (congrArg I hst)) ?_; conv => whnf)
        | (refine SAnd.mk (PLe.refl _) ?_; conv => whnf))
    · conv => whnf
      have : k = l.length := by simp at hc; omega
      subst this
      exact ⟨PLe.refl _⟩
end Go.Proofs.Ab.Area
end
section
/- Lists of integers: index, contains; the ticks of timed flights; an order's indices. -/
set_option maxRecDepth 100000
set_option linter.unusedVariables false
set_option linter.unusedSimpArgs false
namespace Go.Proofs.Ab.Area
open Go Go.RowKit Go.Proofs.Ab
abbrev cI (n : Int) : List PV := [I n]
theorem indexFunc225 {m : Int} (f : Int → Bool) (g : FuncId) (caps : List PV) (xs : List Int) (hl : xs.length ≤ 1000000) (h : ∀ x ∈ xs, APure (C m) g (I x :: caps) (Bo (f x))) :
    APure (C m) 225 [.seq 1 (xs.map cI), .fn g caps] (I (idx f xs 0)) := by
  refine APure.of_body good [] (fn := Tryz.f225) (by kernel_rfl) (by kernel_rfl) rfl rfl (by kernel_rfl) rfl (by kernel_rfl) ?_
  conv => whnf
  refine ⟨AWp.loop (ι := { k : Nat // k ≤ xs.length ∧ idx f xs 0 = idx f (xs.drop k) k }) (fun k => ⟨[(8, .p (I k.1)), (7, .p (I xs.length)), (1, .p (.fn g caps)), (0, .p (.seq 1 (xs.map cI)))], [], [], 0, [], [], []⟩) (fun k => xs.length - k.1) ⟨0, by simp⟩ ?_ ?_⟩
  · skip
    · refine SLe.of [] [] rfl rfl ?_
      conv => whnf
      repeat' (first
      | exact True.intro
      | (refine SAnd.mk (PLe.refl _) ?_; conv => whnf)
      | (refine SAnd.mk (PLe.of_eq (by simp)) ?_; conv => whnf))
  · rintro ⟨k, hk, he⟩
    refine codeK_sound good (mu := []) ?_
    conv => whnf
    refine SBool.mk (fun hc => ?_) (fun hc => ?_)
    · have hkl : k < xs.length := by simpa using hc
      have hcall := h xs[k] (List.getElem_mem hkl)
      have hsome : 0 ≤ (k : Int) ∧ (xs.map cI)[((k : Int)).toNat]? = some (cI xs[k]) := ⟨by omega, by show (xs.map cI)[k]? = _; simp [hkl]⟩
      have wk : wrapK IntKind.i64 ((k : Int) + 1) = k + 1 := w64 (by omega)
      have hid := idx_drop f hkl
      conv => whnf
      cases hf : f xs[k] with
      | true =>
        rw [hf] at hcall hid
        conv => whnf
        repeat' (first
          | (refine SEx.mk _ (by first | exact hsome | exact hcall) ?_; conv => whnf)
          | fail)
        exact ⟨PLe.of_eq (congrArg I (he.trans hid).symm)⟩
      | false =>
        rw [hf] at hcall hid
        conv => whnf
        repeat' (first
          | (rw [wk]; conv => whnf)
          | (refine SEx.mk _ (by first | exact hsome | exact hcall) ?_; conv => whnf)
          | fail)
        refine ⟨⟨k + 1, hkl, he.trans hid⟩, by simp only; omega, ?_⟩
        skip
        · refine SLe.of [] [] rfl rfl ?_
          conv => whnf
          repeat' (first
          | exact True.intro
          | (refine SAnd.mk (PLe.refl _) ?_; conv => whnf))
    · conv => whnf
      have : k = xs.length := by simp at hc; omega
      subst this
      exact ⟨PLe.of_eq (by rw [he]; simp [idx])⟩
theorem containsFunc190 {m : Int} (f : Int → Bool) (g : FuncId) (caps : List PV) (xs : List Int) (hl : xs.length ≤ 1000000) (h : ∀ x ∈ xs, APure (C m) g (I x :: caps) (Bo (f x))) :
    APure (C m) 190 [.seq 1 (xs.map cI), .fn g caps] (Bo (xs.any f)) := by
  have hi := idx_any f xs
  refine APure.of_body good [] (fn := Tryz.f190) (by kernel_rfl) (by kernel_rfl) rfl rfl (by kernel_rfl) rfl (by kernel_rfl) ?_
  conv => whnf
  repeat' (first
    | (refine SBool.mk (fun h => ?_) (fun h => ?_) <;> conv => whnf)
    | (refine SEx.mk _ (by first | exact indexFunc225 f g caps xs hl h) ?_; conv => whnf)
    | fail)
  · exact ⟨PLe.of_eq (by rw [hi.1 (by assumption)])⟩
  · exact ⟨PLe.of_eq (by rw [hi.2 (by assumption)])⟩
theorem mapped141 {m : Int} (f : Tm → Int) (g : FuncId) (caps : List PV) (xs : List Tm) (hl : xs.length ≤ 1000000) (h : ∀ x ∈ xs, APure (C m) g (.agg (tc x) :: caps) (I (f x))) :
    APure (C m) 141 [.seq 4 (xs.map tc), .fn g caps] (.seq 1 (xs.map fun x => [I (f x)])) := by
  refine APure.of_body good [] (fn := Tryz.f141) (by kernel_rfl) (by kernel_rfl) rfl rfl (by kernel_rfl) rfl (by kernel_rfl) ?_
  conv => whnf
  refine ⟨AWp.loop (ι := { k : Nat // k ≤ xs.length }) (fun k => ⟨[(10, .p (I k.1)), (9, .p (I xs.length)), (8, .p (.seq 4 (xs.map tc))), (5, .own 0), (1, .p (.fn g caps))], [], [(0, (3, 1, (xs.take k.1).map fun x => [I (f x)]))], 1, [], [], []⟩) (fun k => xs.length - k.1) ⟨0, by simp⟩ ?_ ?_⟩
  · refine SLe.row 5 3 1 ?_
    conv => whnf
    skip
    · refine SLe.of [] [(0, 0)] rfl rfl ?_
      conv => whnf
      repeat' (first
      | exact True.intro
      | (refine SAnd.mk (PLe.refl _) ?_; conv => whnf)
      | (refine SAnd.mk (PLe.of_eq (by simp)) ?_; conv => whnf)
      | (refine SAnd.mk rfl ?_; conv => whnf))
  · rintro ⟨k, hk⟩
    refine codeK_sound good (mu := []) ?_
    conv => whnf
    refine SBool.mk (fun hc => ?_) (fun hc => ?_)
    · have hkl : k < xs.length := by simpa using hc
      have hcall := h xs[k] (List.getElem_mem hkl)
      have hsome : 0 ≤ (k : Int) ∧ (xs.map tc)[((k : Int)).toNat]? = some (tc xs[k]) := ⟨by omega, by show (xs.map tc)[k]? = _; simp [hkl]⟩
      have wk : wrapK IntKind.i64 ((k : Int) + 1) = k + 1 := w64 (by omega)
      conv => whnf
      conv => whnf
      repeat' (first
        | (rw [wk]; conv => whnf)
        | (refine SEx.mk _ (by first | exact hsome | exact hcall) ?_; conv => whnf)
        | (refine SAnd.mk ⟨by intro c hc; simp at hc; first | (subst hc; rfl) | ((repeat' (rcases hc with rfl | hc)) <;> first | rfl | (subst hc; rfl)), by (simp; first | done | omega), by (simp; first | done | omega)⟩ ?_; conv => whnf)
        | fail)
      refine ⟨⟨k + 1, hkl⟩, by simp only; omega, ?_⟩
      skip
      · refine SLe.of [] [(0, 2)] rfl rfl ?_
        conv => whnf
        repeat' (first
        | exact True.intro
        | (refine SAnd.mk ((take_map_succ hkl _).symm) ?_; conv => whnf)
        | (refine SAnd.mk (PLe.refl _) ?_; conv => whnf))
    · conv => whnf
      have : k = xs.length := by simp at hc; omega
      subst this
      exact ⟨PLe.of_eq (by simp)⟩
theorem index226 {m : Int} (n : Int) (xs : List Int) (hl : xs.length ≤ 1000000) : APure (C m) 226 [.seq 1 (xs.map cI), I n] (I (idx (fun y => decide (n = y)) xs 0)) := by
  have hlen : (((xs.map cI).length : Nat) : Int) = xs.length := by simp
  refine APure.of_body good [] (fn := Tryz.f226) (by kernel_rfl) (by kernel_rfl) rfl rfl (by kernel_rfl) rfl (by kernel_rfl) ?_
  conv => whnf
  refine ⟨AWp.loop (ι := { k : Nat // k ≤ xs.length ∧ idx (fun y => decide (n = y)) xs 0 = idx (fun y => decide (n = y)) (xs.drop k) k }) (fun k => ⟨[(8, .p (I k.1)), (7, .p (I xs.length)), (1, .p (I n)), (0, .p (.seq 1 (xs.map cI)))], [], [], 0, [], [], []⟩) (fun k => xs.length - k.1) ⟨0, by simp⟩ ?_ ?_⟩
  · skip
    · refine SLe.of [] [] rfl rfl ?_
      conv => whnf
      repeat' (first
      | exact True.intro
      | (refine SAnd.mk (PLe.refl _) ?_; conv => whnf)
      | (refine SAnd.mk (PLe.of_eq (by simp)) ?_; conv => whnf))
  · rintro ⟨k, hk, he⟩
    refine codeK_sound good (mu := []) ?_
    conv => whnf
    refine SBool.mk (fun hc => ?_) (fun hc => ?_)
    · have hkl : k < xs.length := by simpa using hc
      have hsome := some_at hkl cI
      have mk := sub_lt hkl
      have wk := wsucc (k := k) (by omega)
      have hid := idx_drop (fun y => decide (n = y)) hkl
      clear hc
      conv => whnf
      by_cases hf : n = xs[k]
      · simp only [hf, decide_true, if_true] at hid
        conv => whnf
        repeat' (first
          | (rw [wk]; conv => whnf)
          | (refine SBool.mk (fun h => ?_) (fun h => ?_) <;> conv => whnf)
          | (refine SEx.mk _ (by first | exact hsome) ?_; conv => whnf)
          | fail)
        · exact ⟨PLe.of_eq (congrArg I (he.trans (by rw [← hf] at hid; exact hid)).symm)⟩
        · exact absurd hf (by assumption)
      · skip
        conv => whnf
        repeat' (first
          | (rw [wk]; conv => whnf)
          | (refine SBool.mk (fun h => ?_) (fun h => ?_) <;> conv => whnf)
          | (refine SEx.mk _ (by first | exact hsome) ?_; conv => whnf)
          | fail)
        · exact absurd (by assumption) hf
        · refine ⟨⟨k + 1, hkl, he.trans (hid.trans (by simp [hf]))⟩, mk, ?_⟩
          skip
          · refine SLe.of [] [] rfl rfl ?_
            conv => whnf
            repeat' (first
            | exact True.intro
            | (refine SAnd.mk (PLe.refl _) ?_; conv => whnf))
    · conv => whnf
      have : k = xs.length := by simp at hc; omega
      subst this
      exact ⟨PLe.of_eq (by rw [he]; simp [idx])⟩
theorem contains191 {m : Int} (n : Int) (xs : List Int) (hl : xs.length ≤ 1000000) : APure (C m) 191 [.seq 1 (xs.map cI), I n] (Bo (xs.any fun y => decide (n = y))) := by
  have hi := idx_any (fun y => decide (n = y)) xs
  have h := index226 (m := m) n xs hl
  refine APure.of_body good [] (fn := Tryz.f191) (by kernel_rfl) (by kernel_rfl) rfl rfl (by kernel_rfl) rfl (by kernel_rfl) ?_
  conv => whnf
  repeat' (first
    | (refine SBool.mk (fun h => ?_) (fun h => ?_) <;> conv => whnf)
    | (refine SEx.mk _ (by first | exact h) ?_; conv => whnf)
    | fail)
  · exact ⟨PLe.of_eq (by rw [hi.1 (by assumption)])⟩
  · exact ⟨PLe.of_eq (by rw [hi.2 (by assumption)])⟩
end Go.Proofs.Ab.Area
end
section
/- An order's index out of range. -/
set_option maxRecDepth 100000
set_option linter.unusedVariables false
set_option linter.unusedSimpArgs false
namespace Go.Proofs.Ab.Area
open Go Go.RowKit Go.Proofs.Ab
def outB (l : List Fg) (n : Int) : Bool := decide (n < 0) || decide ((l.length : Int) ≤ n)
theorem out189 {m : Int} (l : List Fg) (n : Int) : APure (C m) 189 [I n, .ref [.seq 3 (l.map fc)]] (Bo (outB l n)) := by
  have hlen : (((l.map fc).length : Nat) : Int) = l.length := by simp
  refine APure.of_body good [] (fn := Tryz.f189) (by kernel_rfl) (by kernel_rfl) rfl rfl (by kernel_rfl) rfl (by kernel_rfl) ?_
  conv => whnf
  repeat' (first
    | (refine codeK_sound good (mu := []) ?_; conv => whnf)
    | ((first | rw [wl0] | rw [wl1] | rw [wl2] | rw [wl3] | rw [wl4] | rw [wl5]); conv => whnf)
    | (rw [hlen]; conv => whnf)
    | (refine SBool.mk (fun _ => ?_) (fun h => absurd (of_decide_eq_true rfl) h); conv => whnf)
    | (refine SBool.mk (fun h => absurd h (of_decide_eq_false rfl)) (fun _ => ?_); conv => whnf)
    | (refine SBool.mk (fun h => ?_) (fun h => ?_) <;> conv => whnf)
    | (refine SEx.mk _ (by first | exact rfl | exact ⟨of_decide_eq_true rfl, rfl⟩) ?_; conv => whnf)
    | (refine SAll.mk (fun _ => ?_); conv => whnf)
    | (refine SAnd.mk ⟨by intro c hc; simp at hc; first | (subst hc; rfl) | ((repeat' (rcases hc with rfl | hc)) <;> first | rfl | (subst hc; rfl)), by (simp; first | done | omega), by (simp; first | done | omega)⟩ ?_; conv => whnf)
    | (refine SAnd.mk (by first | exact rfl | kernel_rfl | omega | decide) ?_; conv => whnf)
    | fail)
  all_goals exact ⟨PLe.of_eq (congrArg Bo (by unfold outB; first | (rw [decide_eq_true (show n < 0 by omega)]; rfl) | (rw [decide_eq_false (show ¬ n < 0 by omega), decide_eq_true (by omega)]; rfl) | (rw [decide_eq_false (show ¬ n < 0 by omega), decide_eq_false (by omega)]; rfl)))⟩
end Go.Proofs.Ab.Area
end
section
/- Tables of spacing. -/
set_option maxRecDepth 100000
set_option linter.unusedVariables false
set_option linter.unusedSimpArgs false
namespace Go.Proofs.Ab.Area
open Go Go.RowKit Go.Proofs.Ab
abbrev Tb := Int → Int → Int
abbrev tbc (t : Tb) : List PV := [I (t 0 0), I (t 0 1), I (t 0 2), I (t 1 0), I (t 1 1), I (t 1 2), I (t 2 0), I (t 2 1), I (t 2 2)]
abbrev R3 := Int × Int × Int
abbrev rc (r : R3) : List PV := [I r.1, I r.2.1, I r.2.2]
def tbZ (t : Tb) : Prop := (t 0 0 = 0 ∧ t 0 1 = 0 ∧ t 0 2 = 0) ∧ (t 1 0 = 0 ∧ t 1 1 = 0 ∧ t 1 2 = 0) ∧ (t 2 0 = 0 ∧ t 2 1 = 0 ∧ t 2 2 = 0)
instance (t : Tb) : Decidable (tbZ t) := by unfold tbZ; infer_instance
theorem eqIn_row {m : Int} (a b c a' b' c' : Int) (k : Nat) (w : World) : (Op.equalIn (k + 2) 103 (.agg #[.int .i64 a, .int .i64 b, .int .i64 c]) (.agg #[.int .i64 a', .int .i64 b', .int .i64 c'])).run (C m).P w = .ok (decide (a = a' ∧ b = b' ∧ c = c')) w := by
  have hu : (C m).P.underlying 103 = some (.array 3 3) := by kernel_rfl
  have hu2 : (C m).P.underlying 3 = some (.int .i64) := by kernel_rfl
  have hi : (C m).P.info? 3 = some Tryz.t3 := by kernel_rfl
  have hc : (C m).P.cellsOf 3 = 1 := by kernel_rfl
  rw [run_equalIn_array w (k + 1) _ _ hu hi, hc]
  have pt : ∀ (xs : Array Value) (j : Nat) (v : Value), xs[j]? = some v → (part 3 xs j).run (C m).P w = .ok v w := fun xs j v hv => by
    simp [part, isAgg, run_underlying hu2, hv]
  have r3 : List.range 3 = [0, 1, 2] := rfl
  rw [r3]
  by_cases h1 : a = a' <;> by_cases h2 : b = b' <;> by_cases h3 : c = c' <;> simp [Op.eqItems, pt, run_equalIn_int w k 3 .i64 .i64 _ _ hu2, h1, h2, h3]
theorem eqIn_table {m : Int} (t : Tb) (k : Nat) (w : World) : (Op.equalIn (k + 3) 104 (.agg #[.int .i64 (t 0 0), .int .i64 (t 0 1), .int .i64 (t 0 2), .int .i64 (t 1 0), .int .i64 (t 1 1), .int .i64 (t 1 2), .int .i64 (t 2 0), .int .i64 (t 2 1), .int .i64 (t 2 2)]) (.agg #[.int .i64 0, .int .i64 0, .int .i64 0, .int .i64 0, .int .i64 0, .int .i64 0, .int .i64 0, .int .i64 0, .int .i64 0])).run (C m).P w = .ok (decide (tbZ t)) w := by
  have hu : (C m).P.underlying 104 = some (.array 3 103) := by kernel_rfl
  have hu2 : (C m).P.underlying 103 = some (.array 3 3) := by kernel_rfl
  have hi : (C m).P.info? 103 = some Tryz.t103 := by kernel_rfl
  have hi2 : Tryz.t103.size = 3 := by kernel_rfl
  have hc : (C m).P.cellsOf 103 = 3 := by kernel_rfl
  rw [run_equalIn_array w (k + 2) _ _ hu hi, hc]
  have pt : ∀ (xs : Array Value) (off : Nat) (u v z : Value), off + 3 ≤ xs.size → xs.extract off (off + 3) = #[u, v, z] → (part 103 xs off).run (C m).P w = .ok (.agg #[u, v, z]) w := by
    intro xs off u v z hx he
    simp [part, isAgg, run_underlying hu2, sizeOf, typeInfo, hi, hi2, he, hx]
  have q1 := fun x1 x2 x3 x4 x5 x6 x7 x8 x9 : Value => pt #[x1, x2, x3, x4, x5, x6, x7, x8, x9] 0 x1 x2 x3 (by simp) (by simp)
  have q2 := fun x1 x2 x3 x4 x5 x6 x7 x8 x9 : Value => pt #[x1, x2, x3, x4, x5, x6, x7, x8, x9] 3 x4 x5 x6 (by simp) (by simp)
  have q3 := fun x1 x2 x3 x4 x5 x6 x7 x8 x9 : Value => pt #[x1, x2, x3, x4, x5, x6, x7, x8, x9] 6 x7 x8 x9 (by simp) (by simp)
  have r3 : List.range 3 = [0, 1, 2] := rfl
  rw [r3]
  have e := fun a b c => eqIn_row (m := m) a b c 0 0 0 k w
  unfold tbZ
  by_cases h1 : t 0 0 = 0 ∧ t 0 1 = 0 ∧ t 0 2 = 0
  · by_cases h2 : t 1 0 = 0 ∧ t 1 1 = 0 ∧ t 1 2 = 0
    · by_cases h3 : t 2 0 = 0 ∧ t 2 1 = 0 ∧ t 2 2 = 0
      · simp [Op.eqItems, q1, q2, q3, e, h1, h2, h3]
      · simp [Op.eqItems, q1, q2, q3, e, h1, h2, h3]
    · simp [Op.eqItems, q1, q2, q3, e, h1, h2]
  · simp [Op.eqItems, q1, q2, q3, e, h1]
theorem eq_table {m : Int} (t : Tb) : EqAgg (C m) 104 (tbc t) [I 0, I 0, I 0, I 0, I 0, I 0, I 0, I 0, I 0] (decide (tbZ t)) := by
  intro x y w ok us vs hu hv
  obtain ⟨u1, us1, rfl, h1, hu⟩ := hu.uncons
  obtain ⟨u2, us2, rfl, h2, hu⟩ := hu.uncons
  obtain ⟨u3, us3, rfl, h3, hu⟩ := hu.uncons
  obtain ⟨u4, us4, rfl, h4, hu⟩ := hu.uncons
  obtain ⟨u5, us5, rfl, h5, hu⟩ := hu.uncons
  obtain ⟨u6, us6, rfl, h6, hu⟩ := hu.uncons
  obtain ⟨u7, us7, rfl, h7, hu⟩ := hu.uncons
  obtain ⟨u8, us8, rfl, h8, hu⟩ := hu.uncons
  obtain ⟨u9, us9, rfl, h9, hu⟩ := hu.uncons
  obtain rfl := hu.unnil
  obtain ⟨v1, vs1, rfl, g1, hv⟩ := hv.uncons
  obtain ⟨v2, vs2, rfl, g2, hv⟩ := hv.uncons
  obtain ⟨v3, vs3, rfl, g3, hv⟩ := hv.uncons
  obtain ⟨v4, vs4, rfl, g4, hv⟩ := hv.uncons
  obtain ⟨v5, vs5, rfl, g5, hv⟩ := hv.uncons
  obtain ⟨v6, vs6, rfl, g6, hv⟩ := hv.uncons
  obtain ⟨v7, vs7, rfl, g7, hv⟩ := hv.uncons
  obtain ⟨v8, vs8, rfl, g8, hv⟩ := hv.uncons
  obtain ⟨v9, vs9, rfl, g9, hv⟩ := hv.uncons
  obtain rfl := hv.unnil
  cases h1; cases h2; cases h3; cases h4; cases h5; cases h6; cases h7; cases h8; cases h9
  cases g1; cases g2; cases g3; cases g4; cases g5; cases g6; cases g7; cases g8; cases g9
  have hm : (C m).P.eqGuardType (C m).P.depth 104 = false := by kernel_rfl
  exact ⟨run_eqGuard_agg w _ 104 x y _ _ hm, run_eqGuard_agg w _ 104 x y _ _ hm, eqIn_table t 9997 w⟩
def cellE (n : Int) : Int := within n 0 10000
def rowE (r : R3) : Int := firstOf [cellE r.1, cellE r.2.1, cellE r.2.2]
def rowsT (t : Tb) : List R3 := [(t 0 0, t 0 1, t 0 2), (t 1 0, t 1 1, t 1 2), (t 2 0, t 2 1, t 2 2)]
def spaceE (t : Tb) : Int := firstOf ((rowsT t).map rowE)
theorem space_zero {t : Tb} (h : tbZ t) : spaceE t = 0 := by
  obtain ⟨⟨h1, h2, h3⟩, ⟨h4, h5, h6⟩, h7, h8, h9⟩ := h
  simp only [spaceE, rowsT, List.map_cons, List.map_nil, h1, h2, h3, h4, h5, h6, h7, h8, h9]
  rfl
theorem cell152 {m : Int} (n : Int) : APure (C m) 152 [I n] (I (cellE n)) := by
  refine APure.of_body good [] (fn := Tryz.f152) (by kernel_rfl) (by kernel_rfl) rfl rfl (by kernel_rfl) rfl (by kernel_rfl) ?_
  conv => whnf
  repeat' (first
    | (refine SEx.mk _ (by first | exact within_pure _ _ _) ?_; conv => whnf)
    | fail)
  exact ⟨PLe.refl _⟩
theorem mapped151 {m : Int} (f : Int → Int) (g : FuncId) (caps : List PV) (xs : List Int) (hl : xs.length ≤ 1000000) (h : ∀ x ∈ xs, APure (C m) g (I x :: caps) (I (f x))) :
    APure (C m) 151 [.seq 1 (xs.map cI), .fn g caps] (.seq 1 (xs.map fun x => [I (f x)])) := by
  refine APure.of_body good [] (fn := Tryz.f151) (by kernel_rfl) (by kernel_rfl) rfl rfl (by kernel_rfl) rfl (by kernel_rfl) ?_
  conv => whnf
  refine ⟨AWp.loop (ι := { k : Nat // k ≤ xs.length }) (fun k => ⟨[(10, .p (I k.1)), (9, .p (I xs.length)), (8, .p (.seq 1 (xs.map cI))), (5, .own 0), (1, .p (.fn g caps))], [], [(0, (28, 1, (xs.take k.1).map fun x => [I (f x)]))], 1, [], [], []⟩) (fun k => xs.length - k.1) ⟨0, by simp⟩ ?_ ?_⟩
  · refine SLe.row 5 28 1 ?_
    conv => whnf
    skip
    · refine SLe.of [] [(0, 0)] rfl rfl ?_
      conv => whnf
      repeat' (first
      | exact True.intro
      | (refine SAnd.mk (PLe.refl _) ?_; conv => whnf)
      | (refine SAnd.mk (PLe.of_eq (by simp)) ?_; conv => whnf)
      | (refine SAnd.mk rfl ?_; conv => whnf))
  · rintro ⟨k, hk⟩
    refine codeK_sound good (mu := []) ?_
    conv => whnf
    refine SBool.mk (fun hc => ?_) (fun hc => ?_)
    · have hkl : k < xs.length := by simpa using hc
      have hcall := h xs[k] (List.getElem_mem hkl)
      have hsome : 0 ≤ (k : Int) ∧ (xs.map cI)[((k : Int)).toNat]? = some (cI xs[k]) := ⟨by omega, by show (xs.map cI)[k]? = _; simp [hkl]⟩
      have wk : wrapK IntKind.i64 ((k : Int) + 1) = k + 1 := w64 (by omega)
      conv => whnf
      conv => whnf
      repeat' (first
        | (rw [wk]; conv => whnf)
        | (refine SEx.mk _ (by first | exact hsome | exact hcall) ?_; conv => whnf)
        | (refine SAnd.mk ⟨by intro c hc; simp at hc; first | (subst hc; rfl) | ((repeat' (rcases hc with rfl | hc)) <;> first | rfl | (subst hc; rfl)), by (simp; first | done | omega), by (simp; first | done | omega)⟩ ?_; conv => whnf)
        | fail)
      refine ⟨⟨k + 1, hkl⟩, by simp only; omega, ?_⟩
      skip
      · refine SLe.of [] [(0, 1)] rfl rfl ?_
        conv => whnf
        repeat' (first
        | exact True.intro
        | (refine SAnd.mk ((take_map_succ hkl _).symm) ?_; conv => whnf)
        | (refine SAnd.mk (PLe.refl _) ?_; conv => whnf))
    · conv => whnf
      have : k = xs.length := by simp at hc; omega
      subst this
      exact ⟨PLe.of_eq (by simp)⟩
theorem row150 {m : Int} (r : R3) : APure (C m) 150 [.agg (rc r)] (I (rowE r)) := by
  have h := mapped151 (m := m) cellE 152 [] [r.1, r.2.1, r.2.2] (by simp) (fun x _ => cell152 x)
  have h' : APure (C m) 151 [.seq 1 [[I r.1], [I r.2.1], [I r.2.2]], .fn 152 []] (.seq 1 [[I (cellE r.1)], [I (cellE r.2.1)], [I (cellE r.2.2)]]) := h
  refine APure.of_body good [] (fn := Tryz.f150) (by kernel_rfl) (by kernel_rfl) rfl rfl (by kernel_rfl) rfl (by kernel_rfl) ?_
  conv => whnf
  repeat' (first
    | (refine SEx.mk _ (by first | exact h' | exact first3_pure _ _ _) ?_; conv => whnf)
    | fail)
  exact ⟨PLe.refl _⟩
theorem mapped153 {m : Int} (f : R3 → Int) (g : FuncId) (caps : List PV) (xs : List R3) (hl : xs.length ≤ 1000000) (h : ∀ x ∈ xs, APure (C m) g (.agg (rc x) :: caps) (I (f x))) :
    APure (C m) 153 [.seq 3 (xs.map rc), .fn g caps] (.seq 1 (xs.map fun x => [I (f x)])) := by
  refine APure.of_body good [] (fn := Tryz.f153) (by kernel_rfl) (by kernel_rfl) rfl rfl (by kernel_rfl) rfl (by kernel_rfl) ?_
  conv => whnf
  refine ⟨AWp.loop (ι := { k : Nat // k ≤ xs.length }) (fun k => ⟨[(10, .p (I k.1)), (9, .p (I xs.length)), (8, .p (.seq 3 (xs.map rc))), (5, .own 0), (1, .p (.fn g caps))], [], [(0, (28, 1, (xs.take k.1).map fun x => [I (f x)]))], 1, [], [], []⟩) (fun k => xs.length - k.1) ⟨0, by simp⟩ ?_ ?_⟩
  · refine SLe.row 5 28 1 ?_
    conv => whnf
    skip
    · refine SLe.of [] [(0, 0)] rfl rfl ?_
      conv => whnf
      repeat' (first
      | exact True.intro
      | (refine SAnd.mk (PLe.refl _) ?_; conv => whnf)
      | (refine SAnd.mk (PLe.of_eq (by simp)) ?_; conv => whnf)
      | (refine SAnd.mk rfl ?_; conv => whnf))
  · rintro ⟨k, hk⟩
    refine codeK_sound good (mu := []) ?_
    conv => whnf
    refine SBool.mk (fun hc => ?_) (fun hc => ?_)
    · have hkl : k < xs.length := by simpa using hc
      have hcall := h xs[k] (List.getElem_mem hkl)
      have hsome : 0 ≤ (k : Int) ∧ (xs.map rc)[((k : Int)).toNat]? = some (rc xs[k]) := ⟨by omega, by show (xs.map rc)[k]? = _; simp [hkl]⟩
      have wk : wrapK IntKind.i64 ((k : Int) + 1) = k + 1 := w64 (by omega)
      conv => whnf
      conv => whnf
      repeat' (first
        | (rw [wk]; conv => whnf)
        | (refine SEx.mk _ (by first | exact hsome | exact hcall) ?_; conv => whnf)
        | (refine SAnd.mk ⟨by intro c hc; simp at hc; first | (subst hc; rfl) | ((repeat' (rcases hc with rfl | hc)) <;> first | rfl | (subst hc; rfl)), by (simp; first | done | omega), by (simp; first | done | omega)⟩ ?_; conv => whnf)
        | fail)
      refine ⟨⟨k + 1, hkl⟩, by simp only; omega, ?_⟩
      skip
      · refine SLe.of [] [(0, 2)] rfl rfl ?_
        conv => whnf
        repeat' (first
        | exact True.intro
        | (refine SAnd.mk ((take_map_succ hkl _).symm) ?_; conv => whnf)
        | (refine SAnd.mk (PLe.refl _) ?_; conv => whnf))
    · conv => whnf
      have : k = xs.length := by simp at hc; omega
      subst this
      exact ⟨PLe.of_eq (by simp)⟩
theorem zero149 {m : Int} : APure (C m) 149 [] (.agg [I 0, I 0, I 0, I 0, I 0, I 0, I 0, I 0, I 0]) := by
  refine APure.of_body good [] (fn := Tryz.f149) (by kernel_rfl) (by kernel_rfl) rfl rfl (by kernel_rfl) rfl (by kernel_rfl) ?_
  conv => whnf
  repeat' (first
    | fail)
  exact ⟨PLe.refl _⟩
theorem CheckSpacing_pure {m : Int} (t : Tb) : APure (C m) 71 [.agg (tbc t)] (I (spaceE t)) := by
  have h := mapped153 (m := m) rowE 150 [] (rowsT t) (by simp [rowsT]) (fun x _ => row150 x)
  have h' : APure (C m) 153 [.seq 3 [[I (t 0 0), I (t 0 1), I (t 0 2)], [I (t 1 0), I (t 1 1), I (t 1 2)], [I (t 2 0), I (t 2 1), I (t 2 2)]], .fn 150 []] (.seq 1 [[I (rowE (t 0 0, t 0 1, t 0 2))], [I (rowE (t 1 0, t 1 1, t 1 2))], [I (rowE (t 2 0, t 2 1, t 2 2))]]) := h
  have h3 : APure (C m) 93 [.seq 1 [[I (rowE (t 0 0, t 0 1, t 0 2))], [I (rowE (t 1 0, t 1 1, t 1 2))], [I (rowE (t 2 0, t 2 1, t 2 2))]]] (I (spaceE t)) := first3_pure _ _ _
  by_cases hz : tbZ t
  · have e := eq_table (m := m) t
    rw [decide_eq_true hz] at e
    rw [space_zero hz]
    refine APure.of_body good [] (fn := Tryz.f71) (by kernel_rfl) (by kernel_rfl) rfl rfl (by kernel_rfl) rfl (by kernel_rfl) ?_
    conv => whnf
    repeat' (first
      | (refine SBool.mk (fun _ => ?_) (fun h => absurd (of_decide_eq_true rfl) h); conv => whnf)
      | (refine SEx.mk _ (by first | exact zero149 | exact e) ?_; conv => whnf)
      | (refine SAnd.mk (by first | exact rfl | kernel_rfl | omega | decide | exact zero149 | exact e) ?_; conv => whnf)
      | fail)
    exact ⟨PLe.refl _⟩
  · have e := eq_table (m := m) t
    rw [decide_eq_false hz] at e
    refine APure.of_body good [] (fn := Tryz.f71) (by kernel_rfl) (by kernel_rfl) rfl rfl (by kernel_rfl) rfl (by kernel_rfl) ?_
    conv => whnf
    repeat' (first
      | (refine SBool.mk (fun h => absurd h (of_decide_eq_false rfl)) (fun _ => ?_); conv => whnf)
      | (refine SEx.mk _ (by first | exact zero149 | exact e | exact h' | exact h3) ?_; conv => whnf)
      | (refine SAnd.mk (by first | exact rfl | kernel_rfl | omega | decide | exact zero149 | exact e | exact h' | exact h3) ?_; conv => whnf)
      | fail)
    exact ⟨PLe.refl _⟩
end Go.Proofs.Ab.Area
end
section
/- An order of flights: its error. -/
set_option maxRecDepth 100000
set_option linter.unusedVariables false
set_option linter.unusedSimpArgs false
namespace Go.Proofs.Ab.Area
open Go Go.RowKit Go.Proofs.Ab
def twiceF : List Int → List Int → Int
  | _, [] => 0
  | known, i :: r => if (known.any fun y => decide (i = y)) = true then 9 else twiceF (known ++ [i]) r
theorem twice_step {order : List Int} {k : Nat} (h : k < order.length) : twiceF (order.take k) (order.drop k) = if ((order.take k).any fun y => decide (order[k] = y)) = true then 9 else twiceF (order.take (k + 1)) (order.drop (k + 1)) := by
  rw [List.drop_eq_getElem_cons h, List.take_succ_eq_append_getElem h]
  rfl
def orderF (l : List Fg) (order : List Int) : Int := if order.any (outB l) = true then 10 else twiceF [] order
def order1 (l : List Fg) (t : Tb) (order : List Int) : Int := firstOf [flightsE l, spaceE t, if order.length ≠ l.length then 2 else 0]
def orderE (l : List Fg) (t : Tb) (order : List Int) : Int := if order1 l t order = 0 then orderF l order else order1 l t order
theorem order_when {m : Int} (l : List Fg) (order : List Int) : APure (C m) 104 [Bo (!decide (((order.map cI).length : Int) = ((l.map fc).length : Int))), I 2] (I (if order.length ≠ l.length then 2 else 0)) := by
  have h := when_pure (m := m) (!decide (((order.map cI).length : Int) = ((l.map fc).length : Int))) 2
  have e : (if (!decide (((order.map cI).length : Int) = ((l.map fc).length : Int))) = true then (2 : Int) else 0) = if order.length ≠ l.length then 2 else 0 := by
    simp only [List.length_map]
    by_cases hh : order.length = l.length
    · simp [hh]
    · have : ¬ ((order.length : Int) = (l.length : Int)) := by omega
      simp [hh, this]
  rw [e] at h
  exact h
set_option maxHeartbeats 4000000 in
theorem checkOrder_pure {m : Int} (l : List Fg) (t : Tb) (order : List Int) (hl : l.length ≤ 1000000) (ho : order.length ≤ 1000000) :
    APure (C m) 140 [.seq 3 (l.map fc), .agg (tbc t), .seq 1 (order.map cI)] (I (orderE l t order)) := by
  have hcf := CheckFlights_pure (m := m) l hl
  have hcs := CheckSpacing_pure (m := m) t
  have hcont := containsFunc190 (m := m) (outB l) 189 [.ref [.seq 3 (l.map fc)]] order ho (fun x _ => out189 l x)
  have hlo : (((order.map cI).length : Nat) : Int) = order.length := by simp
  have hll : (((l.map fc).length : Nat) : Int) = l.length := by simp
  by_cases hE : order1 l t order = 0
  · unfold orderE
    rw [if_pos hE]
    have e2 : firstOf [flightsE l, spaceE t, if order.length ≠ l.length then 2 else 0] = 0 := hE
    have e3 := e2
    rw [firstOf_zero, firstOf_zero, firstOf_zero] at e3
    have hlen : order.length = l.length := by
      by_cases hh : order.length = l.length
      · exact hh
      · rw [if_pos hh] at e3; exact absurd e3.2.2.1 (by decide)
    have hw : APure (C m) 104 [Bo false, I 2] (I 0) := when_pure false 2
    have hf3 : APure (C m) 93 [.seq 1 [[I (flightsE l)], [I (spaceE t)], [I 0]]] (I 0) := by
      have := first3_pure (m := m) (flightsE l) (spaceE t) 0
      rw [show firstOf [flightsE l, spaceE t, 0] = 0 by rw [firstOf_zero, firstOf_zero, firstOf_zero]; exact ⟨e3.1, e3.2.1, rfl, rfl⟩] at this
      exact this
    have hx : (order.length : Int) = l.length := by omega
    cases hB : order.any (outB l) with
    | true =>
      rw [hB] at hcont
      unfold orderF
      rw [if_pos hB]
      refine APure.of_body good [] (fn := Tryz.f140) (by kernel_rfl) (by kernel_rfl) rfl rfl (by kernel_rfl) rfl (by kernel_rfl) ?_
      conv => whnf
      repeat' (first
        | (rw [hll]; conv => whnf)
        | (rw [hlo]; conv => whnf)
        | (refine SBool.mk (fun _ => ?_) (fun h => absurd (of_decide_eq_true rfl) h); conv => whnf)
        | (refine SBool.mk (fun h => ?_) (fun h => ?_) <;> conv => whnf)
        | (refine SEx.mk _ (by first | exact hcf | exact hcs | exact hcont | exact hw | exact hf3) ?_; conv => whnf)
        | (refine SAnd.mk (by first | exact rfl | kernel_rfl | omega | decide | exact hcf | exact hcs | exact hcont | exact hw | exact hf3) ?_; conv => whnf)
        | fail)
      all_goals first
        | exact ⟨PLe.refl _⟩
        | exact absurd rfl (by assumption)
        | exact absurd hx (by assumption)
    | false =>
      rw [hB] at hcont
      unfold orderF
      rw [if_neg (by rw [hB]; simp)]
      refine APure.of_body good [] (fn := Tryz.f140) (by kernel_rfl) (by kernel_rfl) rfl rfl (by kernel_rfl) rfl (by kernel_rfl) ?_
      conv => whnf
      repeat' (first
        | (rw [hll]; conv => whnf)
        | (rw [hlo]; conv => whnf)
        | (refine SBool.mk (fun _ => ?_) (fun h => absurd (of_decide_eq_true rfl) h); conv => whnf)
        | (refine SBool.mk (fun h => ?_) (fun h => ?_) <;> conv => whnf)
        | (refine SEx.mk _ (by first | exact hcf | exact hcs | exact hcont | exact hw | exact hf3) ?_; conv => whnf)
        | (refine SAnd.mk (by first | exact rfl | kernel_rfl | omega | decide | exact hcf | exact hcs | exact hcont | exact hw | exact hf3) ?_; conv => whnf)
        | fail)
      all_goals first
        | exact absurd rfl (by assumption)
        | exact absurd hx (by assumption)
        | skip
      refine ⟨AWp.loop (ι := { k : Nat // k ≤ order.length ∧ twiceF [] order = twiceF (order.take k) (order.drop k) }) (fun k => ⟨[(32, .p (I k.1)), (31, .p (I order.length)), (30, .p (.seq 1 (order.map cI))), (2, .p (.seq 1 (order.map cI)))], [], [], 0, [], [], []⟩) (fun k => order.length - k.1) ⟨0, by simp⟩ ?_ ?_⟩
      · skip
        · refine SLe.of [] [] rfl rfl ?_
          conv => whnf
          repeat' (first
          | exact True.intro
          | (refine SAnd.mk (PLe.refl _) ?_; conv => whnf))
      · rintro ⟨k, hk, he⟩
        clear hcf hcs hcont hw hf3 e2 e3 hE hx hB hlen hll
        refine codeK_sound good (mu := []) ?_
        conv => whnf
        refine SBool.mk (fun hc => ?_) (fun hc => ?_)
        · have hkl : k < order.length := by simpa using hc
          have hs := some_at hkl cI
          have mk := sub_lt hkl
          have hkm : k ≤ 1000000 := Nat.le_trans (Nat.le_of_lt hkl) ho
          have hsl : (0 : Int) ≤ (k : Int) ∧ (k : Int) ≤ ((order.map cI).length : Int) := ⟨Int.natCast_nonneg k, by rw [hlo]; exact Int.ofNat_le.2 (Nat.le_of_lt hkl)⟩
          have wk := wsucc hkm
          have hst := twice_step hkl
          have hct := contains191 (m := m) order[k] (order.take k) (Nat.le_trans (List.length_take_le _ _) hkm)
          have etk : (order.map cI).take ((k : Int)).toNat = (order.take k).map cI := by
            show (order.map cI).take k = _
            rw [List.map_take]
          rw [← etk] at hct
          clear hc
          conv => whnf
          cases hB2 : (order.take k).any fun y => decide (order[k] = y) with
          | true =>
            rw [hB2] at hct hst
            conv => whnf
            repeat' (first
              | (refine SEx.mk _ (by first | exact hs | exact hct | exact hsl) ?_; conv => whnf)
              | (refine SAnd.mk (by first | exact hs | exact hct | exact hsl) ?_; conv => whnf)
              | fail)
            exact ⟨PLe.of_eq (congrArg I (by rw [he, hst]; rfl))⟩
          | false =>
            rw [hB2] at hct hst
            conv => whnf
            repeat' (first
              | (rw [wk]; conv => whnf)
              | (refine SEx.mk _ (by first | exact hs | exact hct | exact hsl) ?_; conv => whnf)
              | (refine SAnd.mk (by first | exact hs | exact hct | exact hsl) ?_; conv => whnf)
              | fail)
            refine ⟨⟨k + 1, hkl, he.trans (hst.trans (if_neg (by simp)))⟩, mk, ?_⟩
            skip
            · refine SLe.of [] [] rfl rfl ?_
              conv => whnf
              repeat' (first
              | exact True.intro
              | (refine SAnd.mk (PLe.refl _) ?_; conv => whnf))
        · conv => whnf
          have hko : k = order.length := by simp at hc; omega
          subst hko
          exact ⟨PLe.of_eq (congrArg I (by rw [he]; simp [twiceF]))⟩
  · unfold orderE
    rw [if_neg hE]
    have hw := order_when (m := m) l order
    have hf3 := first3_pure (m := m) (flightsE l) (spaceE t) (if order.length ≠ l.length then 2 else 0)
    have hne : ¬ firstOf [flightsE l, spaceE t, if order.length ≠ l.length then 2 else 0] = 0 := hE
    by_cases hh : order.length = l.length
    · have hx : (order.length : Int) = l.length := by omega
      rw [if_neg (fun h => h hh)] at hf3 hne
      have e : order1 l t order = firstOf [flightsE l, spaceE t, 0] := by unfold order1; rw [if_neg (fun h => h hh)]
      have hw : APure (C m) 104 [Bo false, I 2] (I 0) := when_pure false 2
      rw [e]
      refine APure.of_body good [] (fn := Tryz.f140) (by kernel_rfl) (by kernel_rfl) rfl rfl (by kernel_rfl) rfl (by kernel_rfl) ?_
      conv => whnf
      repeat' (first
        | (rw [hll]; conv => whnf)
        | (rw [hlo]; conv => whnf)
        | (refine SBool.mk (fun h => ?_) (fun h => ?_) <;> conv => whnf)
        | (refine SEx.mk _ (by first | exact hcf | exact hcs | exact hw | exact hf3) ?_; conv => whnf)
        | (refine SAnd.mk (by first | exact rfl | kernel_rfl | omega | decide | exact hcf | exact hcs | exact hw | exact hf3) ?_; conv => whnf)
        | fail)
      all_goals first
        | exact ⟨PLe.refl _⟩
        | exact absurd hx (by assumption)
        | exact absurd (by assumption) hne
    · have hx : ¬ (order.length : Int) = l.length := by omega
      rw [if_pos hh] at hf3 hne
      have e : order1 l t order = firstOf [flightsE l, spaceE t, 2] := by unfold order1; rw [if_pos hh]
      have hw : APure (C m) 104 [Bo true, I 2] (I 2) := when_pure true 2
      rw [e]
      refine APure.of_body good [] (fn := Tryz.f140) (by kernel_rfl) (by kernel_rfl) rfl rfl (by kernel_rfl) rfl (by kernel_rfl) ?_
      conv => whnf
      repeat' (first
        | (rw [hll]; conv => whnf)
        | (rw [hlo]; conv => whnf)
        | (refine SBool.mk (fun h => ?_) (fun h => ?_) <;> conv => whnf)
        | (refine SEx.mk _ (by first | exact hcf | exact hcs | exact hw | exact hf3) ?_; conv => whnf)
        | (refine SAnd.mk (by first | exact rfl | kernel_rfl | omega | decide | exact hcf | exact hcs | exact hw | exact hf3) ?_; conv => whnf)
        | fail)
      all_goals first
        | exact ⟨PLe.refl _⟩
        | exact absurd (by assumption) hx
        | exact absurd (by assumption) hne
end Go.Proofs.Ab.Area
end
section
/- The times of an order. -/
set_option maxRecDepth 100000
set_option linter.unusedVariables false
set_option linter.unusedSimpArgs false
namespace Go.Proofs.Ab.Area
open Go Go.RowKit Go.Proofs.Ab
instance : Inhabited Tm := ⟨⟨default, 0⟩⟩
/-- The flight that comes next, behind those with their times. -/
def nextT (t : Tb) (out : List Tm) (f : Fg) : Tm := match out.getLast? with
  | none => ⟨f, f.ready⟩
  | some b => ⟨f, max f.ready (b.t + t b.f.kind f.kind)⟩
def timesL (l : List Fg) (t : Tb) (order : List Int) : List Tm := order.foldl (fun out i => out ++ [nextT t out (l.getD i.toNat default)]) []
theorem times_snoc (l : List Fg) (t : Tb) (order : List Int) (i : Int) : timesL l t (order ++ [i]) = timesL l t order ++ [nextT t (timesL l t order) (l.getD i.toNat default)] := by
  unfold timesL
  rw [List.foldl_append]
  rfl
theorem times_len (l : List Fg) (t : Tb) : ∀ (n : Nat) (order : List Int), order.length = n → (timesL l t order).length = n
  | 0, order, h => by
    have := List.eq_nil_of_length_eq_zero h
    subst this
    rfl
  | n + 1, order, h => by
    have hne : order ≠ [] := by intro e; rw [e] at h; simp at h
    have e := List.dropLast_concat_getLast hne
    have ih := times_len l t n order.dropLast (by simp [h])
    rw [← e, times_snoc, List.length_append, ih]
    rfl
/-- Flights and tables that are valid. -/
structure FgOk (f : Fg) : Prop where
  k : f.kind = 0 ∨ f.kind = 1 ∨ f.kind = 2
  r : 0 ≤ f.ready ∧ f.ready ≤ 100000000
def TbOk (t : Tb) : Prop := ∀ a b, (a = 0 ∨ a = 1 ∨ a = 2) → (b = 0 ∨ b = 1 ∨ b = 2) → 0 ≤ t a b ∧ t a b ≤ 10000
structure TmOk (n : Nat) (x : Tm) : Prop where
  f : FgOk x.f
  t : 0 ≤ x.t ∧ x.t ≤ 100000000 + 10000 * n
theorem nextT_ok {t : Tb} (ht : TbOk t) {out : List Tm} {n : Nat} (ho : ∀ x ∈ out, TmOk n x) {f : Fg} (hf : FgOk f) : TmOk (n + 1) (nextT t out f) := by
  unfold nextT
  cases h : out.getLast? with
  | none => exact ⟨hf, hf.r.1, by have := hf.r.2; simp only; omega⟩
  | some b =>
    have hb := ho b (List.mem_of_getLast? h)
    have h1 := hb.t
    have h2 := hf.r
    have h3 := ht b.f.kind f.kind hb.f.k hf.k
    exact ⟨hf, by simp only; omega, by simp only; omega⟩
theorem TmOk.up {n m : Nat} (h : n ≤ m) {x : Tm} (hx : TmOk n x) : TmOk m x := ⟨hx.f, hx.t.1, by have := hx.t.2; omega⟩
def OrdOk (l : List Fg) (order : List Int) : Prop := ∀ i ∈ order, 0 ≤ i ∧ i.toNat < l.length
theorem times_ok {l : List Fg} (hl : ∀ f ∈ l, FgOk f) {t : Tb} (ht : TbOk t) : ∀ (n : Nat) (order : List Int), order.length = n → OrdOk l order → ∀ x ∈ timesL l t order, TmOk n x
  | 0, order, h, _ => by
    have := List.eq_nil_of_length_eq_zero h
    subst this
    intro x hx
    cases hx
  | n + 1, order, h, ho => by
    have hne : order ≠ [] := by intro e; rw [e] at h; simp at h
    have e := List.dropLast_concat_getLast hne
    have ih := times_ok hl ht n order.dropLast (by simp [h]) (fun i hi => ho i (List.dropLast_subset _ hi))
    have hm := ho _ (List.getLast_mem hne)
    intro x hx
    rw [← e, times_snoc] at hx
    rcases List.mem_append.1 hx with hx | hx
    · exact (ih x hx).up (by omega)
    · rw [List.mem_singleton] at hx
      rw [hx]
      refine nextT_ok ht ih (hl _ ?_)
      rw [List.getD_eq_getElem?_getD, List.getElem?_eq_getElem hm.2]
      exact List.getElem_mem hm.2
theorem last_eq {α : Type} {xs : List α} {k : Nat} (h : xs.length = k + 1) : xs.getLast? = some (xs[k]'(by omega)) := by
  simp [List.getLast?_eq_getElem?, h]
theorem flat_drop {α : Type} {sz : Nat} (g : α → List PV) (hg : ∀ x, (g x).length = sz) : ∀ (xs : List α) (k : Nat), ((xs.map g).flatten).drop (k * sz) = ((xs.drop k).map g).flatten
  | xs, 0 => by simp
  | [], k + 1 => by simp
  | x :: xs, k + 1 => by
    rw [List.map_cons, List.flatten_cons, List.drop_succ_cons, ← flat_drop g hg xs k, List.drop_append, hg, Nat.add_mul, Nat.one_mul, List.drop_eq_nil_of_le (by rw [hg]; omega), List.nil_append]
    congr 1
    omega
theorem flat_len {α : Type} {sz : Nat} (g : α → List PV) (hg : ∀ x, (g x).length = sz) : ∀ (xs : List α), ((xs.map g).flatten).length = xs.length * sz
  | [] => by simp
  | x :: xs => by rw [List.map_cons, List.flatten_cons, List.length_append, hg, flat_len g hg xs, List.length_cons, Nat.add_mul]; omega
theorem tc_one (x : Tm) : ∀ c ∈ [tc x].flatten, c.one = true := by
  intro c hc
  simp only [List.flatten_cons, List.flatten_nil, List.append_nil, List.mem_cons, List.not_mem_nil, or_false] at hc
  rcases hc with rfl | rfl | rfl | rfl <;> rfl
set_option maxHeartbeats 4000000 in
theorem times_pure {m : Int} (l : List Fg) (t : Tb) (order : List Int) (ho : order.length ≤ 1000) (hl : l.length ≤ 1000) (hlf : ∀ f ∈ l, FgOk f) (ht : TbOk t) (hoo : OrdOk l order) :
    APure (C m) 142 [.seq 3 (l.map fc), .agg (tbc t), .seq 1 (order.map cI)] (.seq 4 ((timesL l t order).map tc)) := by
  refine APure.of_body good [] (fn := Tryz.f142) (by kernel_rfl) (by kernel_rfl) rfl rfl (by kernel_rfl) rfl (by kernel_rfl) ?_
  conv => whnf
  repeat' (first
    | fail)
  refine ⟨AWp.loop (ι := { k : Nat // k ≤ order.length }) (fun k => ⟨[(14, .p (I k.1)), (13, .p (I order.length)), (12, .p (.seq 1 (order.map cI))), (7, .own 0), (4, .p (.ref (tbc t))), (0, .p (.seq 3 (l.map fc)))], [], [(0, (220, 4, (timesL l t (order.take k.1)).map tc))], 1, [], [], []⟩) (fun k => order.length - k.1) ⟨0, by simp⟩ ?_ ?_⟩
  · refine SLe.row 7 220 4 ?_
    conv => whnf
    skip
    · refine SLe.of [] [(0, 0)] rfl rfl ?_
      conv => whnf
      repeat' (first
      | exact True.intro
      | (refine SAnd.mk (PLe.refl _) ?_; conv => whnf)
      | (refine SAnd.mk (PLe.of_eq (by simp)) ?_; conv => whnf)
      | (refine SAnd.mk rfl ?_; conv => whnf))
  · rintro ⟨k, hk⟩
    refine codeK_sound good (mu := []) ?_
    conv => whnf
    refine SBool.mk (fun hc => ?_) (fun hc => ?_)
    · have hkl : k < order.length := by simpa using hc
      have hs := some_at hkl cI
      have mk := sub_lt hkl
      have hi := hoo _ (List.getElem_mem hkl)
      have hsn := times_snoc l t (order.take k) order[k]
      rw [← List.take_succ_eq_append_getElem hkl] at hsn
      have htl := times_len l t k (order.take k) (by rw [List.length_take]; omega)
      have hto := times_ok hlf ht k (order.take k) (by rw [List.length_take]; omega) (fun i hi => hoo i (List.take_subset _ _ hi))
      obtain ⟨f, hfe⟩ : ∃ f, f = l[order[k].toNat]'hi.2 := ⟨_, rfl⟩
      have hfo : FgOk f := by rw [hfe]; exact hlf _ (List.getElem_mem hi.2)
      have hsf : 0 ≤ order[k] ∧ (l.map fc)[(order[k]).toNat]? = some (fc f) := ⟨hi.1, by rw [List.getElem?_map, List.getElem?_eq_getElem hi.2, hfe]; rfl⟩
      have hgd : l.getD (order[k]).toNat default = f := by rw [List.getD_eq_getElem?_getD, List.getElem?_eq_getElem hi.2, hfe]; rfl
      rw [hgd] at hsn
      generalize timesL l t (order.take k) = ys at hsn htl hto ⊢
      generalize hzs : timesL l t (order.take (k + 1)) = zs at hsn
      clear hc hoo hlf hgd hfe
      cases k with
      | zero =>
        have wk := wsucc (k := 0) (by omega)
        have hy : ys = [] := List.eq_nil_of_length_eq_zero htl
        subst hy
        conv => whnf
        conv => whnf
        repeat' (first
          | (rw [wk]; conv => whnf)
          | (refine SBool.mk (fun h => absurd h (of_decide_eq_false rfl)) (fun _ => ?_); conv => whnf)
          | (refine SEx.mk _ (by first | exact hs | exact hsf) ?_; conv => whnf)
          | (refine SAnd.mk ⟨by intro c hc; simp at hc; first | (subst hc; rfl) | ((repeat' (rcases hc with rfl | hc)) <;> first | rfl | (subst hc; rfl)), by (simp; first | done | omega), by (simp; first | done | omega)⟩ ?_; conv => whnf)
          | (refine SAnd.mk (by first | exact rfl | kernel_rfl | omega | decide | exact hs | exact hsf) ?_; conv => whnf)
          | fail)
        · refine ⟨⟨0 + 1, hkl⟩, mk, ?_⟩
          rw [hzs]
          skip
          · refine SLe.of [] [(0, 12)] rfl rfl ?_
            conv => whnf
            repeat' (first
            | exact True.intro
            | (refine SAnd.mk (show _ = (_ : List (List PV)) from by rw [hsn]; rfl) ?_; conv => whnf)
            | (refine SAnd.mk (PLe.refl _) ?_; conv => whnf))
      | succ j =>
        have hyl := last_eq htl
        have hjl : j < ys.length := by omega
        obtain ⟨b, hbe⟩ : ∃ b, b = ys[j]'hjl := ⟨_, rfl⟩
        rw [← hbe] at hyl
        have hbo : TmOk (j + 1) b := by rw [hbe]; exact hto _ (List.getElem_mem hjl)
        have hz : zs = ys ++ [⟨f, max f.ready (b.t + t b.f.kind f.kind)⟩] := by rw [hsn]; unfold nextT; rw [hyl]
        have hj0 : (0 : Int) < ((j + 1 : Nat) : Int) := by omega
        have hj2 : (0 : Int) ≤ (j : Int) ∧ (j : Int) < ((ys.map tc).length : Int) := ⟨by omega, by rw [List.length_map]; omega⟩
        obtain ⟨rest, hrest⟩ : ∃ rest, rest = ((ys.drop (j + 1)).map tc).flatten := ⟨_, rfl⟩
        have hdr : ((ys.map tc).flatten).drop (j * 4) = tc b ++ rest := by
          rw [flat_drop (sz := 4) tc (fun _ => rfl), List.drop_eq_getElem_cons hjl, hrest, ← hbe]
          rfl
        have hdn : j * 4 ≤ ((ys.map tc).flatten).length := by rw [flat_len (sz := 4) tc (fun _ => rfl)]; omega
        have htb := ht b.f.kind f.kind hbo.f.k hfo.k
        have hbt := hbo.t
        have hfr := hfo.r
        have hwt : (b.t + t b.f.kind f.kind).natAbs ≤ 4000000000000000000 := by omega
        have hwj : (((j + 1 : Nat) : Int) - 1).natAbs ≤ 4000000000000000000 := by omega
        have hwj2 : ((j + 1 : Nat) : Int) - 1 = (j : Int) := by omega
        have hap : (∀ c ∈ [tc ⟨f, max f.ready (b.t + t b.f.kind f.kind)⟩].flatten, c.one = true) ∧ ((ys.map tc).length + 1) * 40 ≤ 140737488355328 ∧ (ys.map tc).length + 1 ≤ 9223372036854775807 := ⟨tc_one _, by rw [List.length_map]; omega, by rw [List.length_map]; omega⟩
        have wk := wsucc (k := j + 1) (by omega)
        have wt := w64 hwt
        have wj := (w64 hwj).trans hwj2
        have hbk := hbo.f.k
        have ha0 : (0 : Int) ≤ 0 ∧ (0 : Int) < ((3 : Nat) : Int) := by decide
        have ha1 : (0 : Int) ≤ 1 ∧ (1 : Int) < ((3 : Nat) : Int) := by decide
        have ha2 : (0 : Int) ≤ 2 ∧ (2 : Int) < ((3 : Nat) : Int) := by decide
        clear hrest hyl hsn hto hbo htl htb hbt hfr hbe
        obtain ⟨⟨fnm, fk, fr⟩, hk1, hk2⟩ : ∃ g : Fg, f = g ∧ (g.kind = 0 ∨ g.kind = 1 ∨ g.kind = 2) := ⟨f, rfl, hfo.k⟩
        obtain ⟨⟨⟨bnm, bk, br⟩, bt⟩, hk3, hk4⟩ : ∃ g : Tm, b = g ∧ (g.f.kind = 0 ∨ g.f.kind = 1 ∨ g.f.kind = 2) := ⟨b, rfl, hbk⟩
        subst hk1 hk3
        conv => whnf
        simp only at hk2 hk4
        rcases hk2 with rfl | rfl | rfl <;> rcases hk4 with rfl | rfl | rfl
        all_goals
          conv => whnf
          repeat' (first
            | (rw [wk]; conv => whnf)
            | (rw [wt]; conv => whnf)
            | (rw [wj]; conv => whnf)
            | (refine SBool.mk (fun h => ?_) (fun h => ?_) <;> conv => whnf)
            | (show dropK _ _ _; refine dropK_load hdr hdn rfl rfl ?_; conv => whnf)
            | (refine SEx.mk _ (by first | exact hs | exact hsf | exact hj2 | exact ha0 | exact ha1 | exact ha2 | exact hap) ?_; conv => whnf)
            | (refine SEx.mk _ (by first | exact rfl | exact ⟨of_decide_eq_true rfl, rfl⟩) ?_; conv => whnf)
            | (refine SAnd.mk (by first | exact hs | exact hsf | exact hj2 | exact ha0 | exact ha1 | exact ha2 | exact hap) ?_; conv => whnf)
            | (refine SAnd.mk (by first | exact rfl | kernel_rfl | omega | decide | exact hs | exact hsf | exact hj2 | exact ha0 | exact ha1 | exact ha2 | exact hap) ?_; conv => whnf)
            | fail)
          · refine ⟨⟨j + 1 + 1, hkl⟩, mk, ?_⟩
            rw [hzs]
            skip
            · refine SLe.of [] [(0, 27)] rfl rfl ?_
              conv => whnf
              repeat' (first
              | exact True.intro
              | (refine SAnd.mk (show _ = (_ : List (List PV)) from by rw [hz]; simp) ?_; conv => whnf)
              | (refine SAnd.mk (PLe.refl _) ?_; conv => whnf))
          · exact absurd hj0 (by assumption)
    · conv => whnf
      have : k = order.length := by simp at hc; omega
      subst this
      rw [List.take_length]
      exact ⟨PLe.refl _⟩
end Go.Proofs.Ab.Area
end
section
/- Times, Delay: the functions. -/
set_option maxRecDepth 100000
set_option linter.unusedVariables false
set_option linter.unusedSimpArgs false
namespace Go.Proofs.Ab.Area
open Go Go.RowKit Go.Proofs.Ab
theorem fly_ok {f : Fg} (h : flyE f = 0) : FgOk f := by
  unfold flyE at h
  rw [firstOf_zero, firstOf_zero, within_zero, within_zero] at h
  exact ⟨by omega, h.2.1⟩
theorem flights_ok {l : List Fg} (h : flightsE l = 0) : (0 < l.length ∧ l.length ≤ 8) ∧ ∀ f ∈ l, FgOk f := by
  unfold flightsE at h
  rw [firstOf_zero, firstOf_zero] at h
  obtain ⟨h1, h2⟩ := namedE_zero h.2.1
  rw [List.length_map] at h1
  refine ⟨⟨?_, by omega⟩, fun f hf => fly_ok (h2 _ (List.mem_map_of_mem (f := fun a : Fg => (a.name, flyE a)) hf))⟩
  by_cases h0 : l.length = 0
  · rw [if_pos h0] at h; exact absurd h.1 (by decide)
  · omega
theorem cell_ok {n : Int} (h : cellE n = 0) : 0 ≤ n ∧ n ≤ 10000 := within_zero.1 h
theorem row_ok {r : R3} (h : rowE r = 0) : (0 ≤ r.1 ∧ r.1 ≤ 10000) ∧ (0 ≤ r.2.1 ∧ r.2.1 ≤ 10000) ∧ 0 ≤ r.2.2 ∧ r.2.2 ≤ 10000 := by
  unfold rowE at h
  rw [firstOf_zero, firstOf_zero, firstOf_zero] at h
  exact ⟨cell_ok h.1, cell_ok h.2.1, cell_ok h.2.2.1⟩
theorem space_ok {t : Tb} (h : spaceE t = 0) : TbOk t := by
  have h' : firstOf [rowE (t 0 0, t 0 1, t 0 2), rowE (t 1 0, t 1 1, t 1 2), rowE (t 2 0, t 2 1, t 2 2)] = 0 := h
  rw [firstOf_zero, firstOf_zero, firstOf_zero] at h'
  obtain ⟨a1, a2, a3⟩ := row_ok h'.1
  obtain ⟨b1, b2, b3⟩ := row_ok h'.2.1
  obtain ⟨c1, c2, c3⟩ := row_ok h'.2.2.1
  rintro a b (rfl | rfl | rfl) (rfl | rfl | rfl) <;> assumption
theorem twice_zero : ∀ {r known : List Int}, twiceF known r = 0 → r.Nodup ∧ ∀ i ∈ r, i ∉ known
  | [], known, _ => ⟨List.nodup_nil, fun i hi => by cases hi⟩
  | i :: r, known, h => by
    unfold twiceF at h
    split at h
    · cases h
    · rename_i hk
      obtain ⟨h1, h2⟩ := twice_zero h
      have hi : i ∉ known := fun hm => hk (List.any_eq_true.2 ⟨i, hm, decide_eq_true rfl⟩)
      refine ⟨List.nodup_cons.2 ⟨fun hm => h2 i hm (by simp), h1⟩, fun k hkm => ?_⟩
      rcases List.mem_cons.1 hkm with rfl | hkm
      · exact hi
      · exact fun hm => h2 k hkm (List.mem_append_left _ hm)
structure Seq (l : List Fg) (t : Tb) (order : List Int) : Prop where
  n0 : 0 < l.length
  n8 : l.length ≤ 8
  f : ∀ f ∈ l, FgOk f
  t : TbOk t
  len : order.length = l.length
  o : OrdOk l order
  d : order.Nodup
theorem seq_of {l : List Fg} {t : Tb} {order : List Int} (h : orderE l t order = 0) : Seq l t order := by
  unfold orderE at h
  split at h
  · rename_i h1
    unfold order1 at h1
    rw [firstOf_zero, firstOf_zero, firstOf_zero] at h1
    obtain ⟨f1, f2⟩ := flights_ok h1.1
    have hlen : order.length = l.length := by
      by_cases hh : order.length = l.length
      · exact hh
      · rw [if_pos hh] at h1; exact absurd h1.2.2.1 (by decide)
    unfold orderF at h
    split at h
    · cases h
    · rename_i hany
      refine ⟨f1.1, f1.2, f2, space_ok h1.2.1, hlen, fun i hi => ?_, (twice_zero h).1⟩
      rw [Bool.not_eq_true, List.any_eq_false] at hany
      have := hany i hi
      unfold outB at this
      rw [Bool.or_eq_true, decide_eq_true_iff, decide_eq_true_iff] at this
      omega
  · rename_i h1
    exact absurd h h1
theorem TmOk.fit {n : Nat} (hn : n ≤ 1000) {x : Tm} (h : TmOk n x) : x.Fit := ⟨h.f.r, h.t.1, by have := h.t.2; omega⟩
def tickL (l : List Fg) (t : Tb) (order : List Int) : List Int := (timesL l t order).map (·.t)
def delayL (l : List Fg) (t : Tb) (order : List Int) : Int := delayI (timesL l t order) (timesL l t order).length
theorem Times_pure {m : Int} (l : List Fg) (t : Tb) (order : List Int) (hl : l.length ≤ 1000000) (ho : order.length ≤ 1000000) :
    APure (C m) 62 [.seq 3 (l.map fc), .agg (tbc t), .seq 1 (order.map cI)] (.tup [if orderE l t order = 0 then .seq 1 ((tickL l t order).map cI) else nilS, I (orderE l t order)]) := by
  have hco := checkOrder_pure (m := m) l t order hl ho
  by_cases hE : orderE l t order = 0
  · have hq := seq_of hE
    have htm := times_pure (m := m) l t order (by have := hq.len; have := hq.n8; omega) (by have := hq.n8; omega) hq.f hq.t hq.o
    have hlen := times_len l t order.length order rfl
    have hmp := mapped141 (m := m) (·.t) 143 [] (timesL l t order) (by rw [hlen]; exact ho) (fun x _ => tick_pure x)
    have e : ((timesL l t order).map fun x => [I x.t]) = (tickL l t order).map cI := by unfold tickL; rw [List.map_map]; rfl
    rw [e] at hmp
    rw [if_pos hE, hE]
    rw [hE] at hco
    refine APure.of_body good [] (fn := Tryz.f62) (by kernel_rfl) (by kernel_rfl) rfl rfl (by kernel_rfl) rfl (by kernel_rfl) ?_
    conv => whnf
    repeat' (first
      | (refine SBool.mk (fun _ => ?_) (fun h => absurd (of_decide_eq_true rfl) h); conv => whnf)
      | (refine SEx.mk _ (by first | exact hco | exact htm | exact hmp) ?_; conv => whnf)
      | fail)
    all_goals first
      | exact ⟨PLe.refl _⟩
      | exact absurd rfl (by assumption)
  · rw [if_neg hE]
    refine APure.of_body good [] (fn := Tryz.f62) (by kernel_rfl) (by kernel_rfl) rfl rfl (by kernel_rfl) rfl (by kernel_rfl) ?_
    conv => whnf
    repeat' (first
      | (refine SBool.mk (fun h => ?_) (fun h => ?_) <;> conv => whnf)
      | (refine SEx.mk _ (by first | exact hco) ?_; conv => whnf)
      | fail)
    all_goals first
      | exact ⟨PLe.refl _⟩
      | exact absurd (by assumption) hE
theorem Delay_pure {m : Int} (l : List Fg) (t : Tb) (order : List Int) (hl : l.length ≤ 1000000) (ho : order.length ≤ 1000000) :
    APure (C m) 64 [.seq 3 (l.map fc), .agg (tbc t), .seq 1 (order.map cI)] (.tup [I (if orderE l t order = 0 then delayL l t order else 0), I (orderE l t order)]) := by
  have hco := checkOrder_pure (m := m) l t order hl ho
  by_cases hE : orderE l t order = 0
  · have hq := seq_of hE
    have hok : order.length ≤ 1000 := by have := hq.len; have := hq.n8; omega
    have htm := times_pure (m := m) l t order hok (by have := hq.n8; omega) hq.f hq.t hq.o
    have hlen := times_len l t order.length order rfl
    have hto := times_ok hq.f hq.t order.length order rfl hq.o
    have hdl := delay_pure (m := m) (timesL l t order) (by rw [hlen]; exact hok) (fun x hx => (hto x hx).fit hok)
    have e : delayI (timesL l t order) (timesL l t order).length = delayL l t order := rfl
    rw [e] at hdl
    rw [if_pos hE, hE]
    rw [hE] at hco
    refine APure.of_body good [] (fn := Tryz.f64) (by kernel_rfl) (by kernel_rfl) rfl rfl (by kernel_rfl) rfl (by kernel_rfl) ?_
    conv => whnf
    repeat' (first
      | (refine SBool.mk (fun _ => ?_) (fun h => absurd (of_decide_eq_true rfl) h); conv => whnf)
      | (refine SEx.mk _ (by first | exact hco | exact htm | exact hdl) ?_; conv => whnf)
      | fail)
    all_goals first
      | exact ⟨PLe.refl _⟩
      | exact absurd rfl (by assumption)
  · rw [if_neg hE]
    refine APure.of_body good [] (fn := Tryz.f64) (by kernel_rfl) (by kernel_rfl) rfl rfl (by kernel_rfl) rfl (by kernel_rfl) ?_
    conv => whnf
    repeat' (first
      | (refine SBool.mk (fun h => ?_) (fun h => ?_) <;> conv => whnf)
      | (refine SEx.mk _ (by first | exact hco) ?_; conv => whnf)
      | fail)
    all_goals first
      | exact ⟨PLe.refl _⟩
      | exact absurd (by assumption) hE
end Go.Proofs.Ab.Area
end
section
namespace Go.Proofs
open Go.Shelf
def Tryz.lays189_ren : Go.Shelf.Ren := ⟨fun | 189 => 139 | 125 => 188 | 257 => 187 | 128 => 223 | 129 => 224 | 294 => 214 | 295 => 215 | 296 => 216 | 297 => 217 | 298 => 218 | 299 => 219 | 216 => 220 | 300 => 221 | 301 => 222 | 328 => 239 | 329 => 240 | 330 => 241 | 331 => 242 | 332 => 243 | 215 => 229 | 343 => 261 | n => n, fun | 28 => 105 | 3 => 3 | 46 => 274 | 0 => 0 | 51 => 302 | 53 => 304 | 4 => 4 | 183 => 296 | 182 => 295 | 131 => 255 | 5 => 5 | 9 => 9 | 218 => 313 | 222 => 317 | 228 => 330 | 229 => 100 | n => n, fun | n => n⟩
theorem Tryz.lays189 : Go.Proofs.Lays.n189 Tryz.prog Tryz.lays189_ren := {
  mixed := by kernel_rfl
  f125 := Tryz.func188.trans (congrArg some (by kernel_rfl))
  f128 := Tryz.func223.trans (congrArg some (by kernel_rfl))
  f129 := Tryz.func224.trans (congrArg some (by kernel_rfl))
  f189 := Tryz.func139.trans (congrArg some (by kernel_rfl))
  f215 := Tryz.func229.trans (congrArg some (by kernel_rfl))
  f216 := Tryz.func220.trans (congrArg some (by kernel_rfl))
  f257 := Tryz.func187.trans (congrArg some (by kernel_rfl))
  f294 := Tryz.func214.trans (congrArg some (by kernel_rfl))
  f295 := Tryz.func215.trans (congrArg some (by kernel_rfl))
  f296 := Tryz.func216.trans (congrArg some (by kernel_rfl))
  f297 := Tryz.func217.trans (congrArg some (by kernel_rfl))
  f298 := Tryz.func218.trans (congrArg some (by kernel_rfl))
  f299 := Tryz.func219.trans (congrArg some (by kernel_rfl))
  f300 := Tryz.func221.trans (congrArg some (by kernel_rfl))
  f301 := Tryz.func222.trans (congrArg some (by kernel_rfl))
  f328 := Tryz.func239.trans (congrArg some (by kernel_rfl))
  f329 := Tryz.func240.trans (congrArg some (by kernel_rfl))
  f330 := Tryz.func241.trans (congrArg some (by kernel_rfl))
  f331 := Tryz.func242.trans (congrArg some (by kernel_rfl))
  f332 := Tryz.func243.trans (congrArg some (by kernel_rfl))
  f343 := Tryz.func261.trans (congrArg some (by kernel_rfl))
  t0 := Tryz.underlying0
  a0 := Tryz.isAgg0
  z0 := Tryz.sizeOf0
  v0 := Tryz.zeroValue0
  t3 := Tryz.underlying3
  a3 := Tryz.isAgg3
  z3 := Tryz.sizeOf3
  v3 := Tryz.zeroValue3
  t4 := Tryz.underlying4
  a4 := Tryz.isAgg4
  z4 := Tryz.sizeOf4
  v4 := Tryz.zeroValue4
  t5 := Tryz.underlying5
  a5 := Tryz.isAgg5
  z5 := Tryz.sizeOf5
  v5 := Tryz.zeroValue5
  t9 := Tryz.underlying9
  a9 := Tryz.isAgg9
  z9 := Tryz.sizeOf9
  v9 := Tryz.zeroValue9
  t28 := Tryz.underlying105
  a28 := Tryz.isAgg105
  z28 := Tryz.sizeOf105
  v28 := Tryz.zeroValue105
  t46 := Tryz.underlying274
  a46 := Tryz.isAgg274
  z46 := Tryz.sizeOf274
  v46 := Tryz.zeroValue274
  t51 := Tryz.underlying302
  a51 := Tryz.isAgg302
  z51 := Tryz.sizeOf302
  v51 := Tryz.zeroValue302
  t53 := Tryz.underlying304
  a53 := Tryz.isAgg304
  z53 := Tryz.sizeOf304
  v53 := Tryz.zeroValue304
  t131 := Tryz.underlying255
  a131 := Tryz.isAgg255
  z131 := Tryz.sizeOf255
  v131 := Tryz.zeroValue255
  t182 := Tryz.underlying295
  a182 := Tryz.isAgg295
  z182 := Tryz.sizeOf295
  v182 := Tryz.zeroValue295
  t183 := Tryz.underlying296
  a183 := Tryz.isAgg296
  z183 := Tryz.sizeOf296
  v183 := Tryz.zeroValue296
  t218 := Tryz.underlying313
  a218 := Tryz.isAgg313
  z218 := Tryz.sizeOf313
  v218 := Tryz.zeroValue313
  t222 := Tryz.underlying317
  a222 := Tryz.isAgg317
  z222 := Tryz.sizeOf317
  v222 := Tryz.zeroValue317
  t228 := Tryz.underlying330
  a228 := Tryz.isAgg330
  z228 := Tryz.sizeOf330
  v228 := Tryz.zeroValue330
  t229 := Tryz.underlying100
  a229 := Tryz.isAgg100
  z229 := Tryz.sizeOf100
  v229 := Tryz.zeroValue100 }
open Go.Sort Go.RowKit in
theorem Tryz.slices_Sort_int (blk off cap : Nat) (zs : List Int) (w : World) (hH : Holds (Value.int .i64) w blk off zs.toArray) (hblk : blk < w.heap.size) (hsz : zs.length < 4611686018427387904) :
    Calls Tryz.prog 139 #[.slice (some ⟨blk, off, none⟩) zs.length cap] w fun e w' =>
      e = .returned (.tuple #[]) ∧ ∃ n os, w' = grow (putRow (Value.int .i64) (Sort.ahead w n) blk off (zs.mergeSort fun x y => decide (x ≤ y)).toArray) os := Any.slices_Sort_int Tryz.lays189 blk off cap zs w hH hblk hsz
open Go.RowKit Go.Sort in
theorem Tryz.slices_Sort_int_none (p : Option Addr) (cap : Nat) (w : World) :
    Calls Tryz.prog 139 #[.slice p 0 cap] w fun e w' => e = .returned (.tuple #[]) ∧ w' = w := Any.slices_Sort_int_none Tryz.lays189 p cap w
end Go.Proofs
end
section
/- The library's sort of integers, met at a row of the frame's own. -/
set_option maxRecDepth 100000
set_option linter.unusedVariables false
set_option linter.unusedSimpArgs false
namespace Go.Proofs.Ab.Area
open Go Go.RowKit Go.Proofs.Ab
abbrev cellsN (ys : List Int) : List (List PV) := ys.map fun n => [I n]
abbrev encN : Int → Value := .int .i64
theorem repN {w : World} {ok : Nat → Prop} : ∀ {ys : List Int} {us : List Value}, RepL w ok (cellsN ys).flatten us → us = ys.map encN
  | [], us, h => by
    have := h.1
    simpa using this
  | y :: ys, us, h => by
    have h' : RepL w ok (I y :: (cellsN ys).flatten) us := h
    obtain ⟨u, us, rfl, h1, h2⟩ := h'.uncons
    rw [v_inv h1, repN h2]
    rfl
theorem repN' {w : World} {ok : Nat → Prop} : ∀ ys : List Int, RepL w ok (cellsN ys).flatten (ys.map encN)
  | [] => .nil
  | y :: ys => .cons (.v _) (repN' ys)
def msort (ys : List Int) : List Int := ys.mergeSort fun x y => decide (x ≤ y)
theorem sort_call {m : Int} {nt : Nat} {s : AS} {k : Nat} {ys : List Int} {K : SV → AS → Prop} (hk : look s.rw k = some (3, 1, cellsN ys)) (hl : ys.length < 4611686018427387904)
    (h : setRwK s.rw k (3, 1, cellsN (msort ys)) fun rw => setRw s rw fun s' => K (.p (.tup [])) s') : ACall (C m) nt s 139 [.own k] K := by
  refine ⟨⟨Tryz.f139, _, Tryz.func139, by kernel_rfl, rfl⟩, fun B ok0 w0 a w E us R hS hr hR => ?_⟩
  obtain ⟨v, us, rfl, hv, hr⟩ := hr.uncons
  obtain rfl := hr.unnil
  have hv : E.ν k = some v := hv
  obtain ⟨v', us, hv', hown, hsz, hrep, hok⟩ := hS.mem.rw k 3 1 _ hk
  rw [hv] at hv'
  injection hv' with hv'
  subst hv'
  have hus := repN hrep
  subst hus
  obtain ⟨rw', hk', hself, hother⟩ := setRwK_sound h
  rw [setRw_eq] at hk'
  have hlen : (msort ys).length = ys.length := List.length_mergeSort ..
  rcases hown.2 with ⟨rfl, h0⟩ | ⟨g, cap, cur, rfl, hB, hcur, hnc, hcm, hcs, htk⟩
  · have hy : ys = [] := by simpa using h0
    subst hy
    have hc := Tryz.slices_Sort_int_none none 0 w
    refine Calls.mono (P := Tryz.prog) hc ?_
    rintro e w' ⟨rfl, rfl⟩
    refine ⟨_, rfl, ?_⟩
    refine hR _ _ _ _ E hk' ?_ (.tup [] [] rfl (fun j c u hc => by simp at hc))
    have e0 : msort [] = [] := by unfold msort; simp
    rw [e0] at hself
    refine hS.reRow hk hv ⟨rfl, rfl, rfl, Nat.le_refl _, fun _ _ _ => rfl⟩ hown (fun x hx => by simp at hx) hrep hself hother
  · have hl1 : (cellsN ys).length = ys.length := by simp
    rw [hl1] at hnc hown htk ⊢
    have htk' : cur.toList.take ys.length = ys.map (Value.int .i64) := by rw [← htk, Nat.mul_one]
    have hglt : g < w.heap.size := (Array.getElem?_eq_some_iff.1 hcur).1
    have hc := Tryz.slices_Sort_int g 0 cap ys w (holds_of_blockI hcur htk') hglt hl
    refine Calls.mono (P := Tryz.prog) hc ?_
    rintro e w' ⟨rfl, n, os, rfl⟩
    refine ⟨_, rfl, ?_⟩
    refine hR _ _ _ _ E hk' ?_ (.tup [] [] rfl (fun j c u hc => by simp at hc))
    refine hS.reRow (xs' := cellsN (msort ys)) (us' := (msort ys).map encN) hk hv (grownBy_sortedI _) ?_ (fun x hx => ?_) (repN' _) hself hother
    · have hl2 : (cellsN (msort ys)).length = ys.length := by simp [hlen]
      rw [hl2, hl1]
      exact ownsRow_sortedI hlen hB hcur hnc hcm hcs
    · simp only [cellsN, List.mem_map] at hx
      obtain ⟨q, _, rfl⟩ := hx
      rfl
end Go.Proofs.Ab.Area
end
section
namespace Go.Proofs
open Go.Shelf
def Tryz.laysNm215_ren : Go.Shelf.Ren := ⟨fun | 15 => 156 | n => n, fun | 22 => 105 | 3 => 3 | 4 => 4 | n => n, fun | n => n⟩
theorem Tryz.laysNm215 : Go.Proofs.Lays2.n15 Tryz.prog Tryz.laysNm215_ren := {
  mixed := by kernel_rfl
  f15 := Tryz.func156.trans (congrArg some (by kernel_rfl))
  t3 := Tryz.underlying3
  a3 := Tryz.isAgg3
  z3 := Tryz.sizeOf3
  v3 := Tryz.zeroValue3
  t4 := Tryz.underlying4
  a4 := Tryz.isAgg4
  z4 := Tryz.sizeOf4
  v4 := Tryz.zeroValue4
  t22 := Tryz.underlying105
  a22 := Tryz.isAgg105
  z22 := Tryz.sizeOf105
  v22 := Tryz.zeroValue105
  i3 := by kernel_rfl }
open Go.RowKit Go.Lib in
theorem Tryz.slices_Clone_int (b off n c : Nat) (zs : List Int) (w : World) (hz : n ≤ zs.length) (hbig : n * 8 ≤ 140737488355328) (hc : ∀ j, j < zs.length → w.cell? ⟨b, off + j, none⟩ = some (.int .i64 (zs.getD j 0))) :
    Calls Tryz.prog 156 #[.slice (some ⟨b, off, none⟩) n c] w fun e w' => ∃ v', e = .returned v' ∧ w'.ownsRow w.heap.size 3 1 v' n ((zs.take n).map (Value.int .i64)) ∧ v' ≠ .slice none 0 0 ∧ Below w.heap.size w w' := Any.slices_Clone_int Tryz.laysNm215 b off n c zs w hz hbig hc
open Go.RowKit Go.Lib in
theorem Tryz.slices_Clone_int_nil (n c : Nat) (w : World) :
    Calls Tryz.prog 156 #[.slice none n c] w fun e w' => e = .returned (.slice none 0 0) ∧ w' = w := Any.slices_Clone_int_nil Tryz.laysNm215 n c w
def Tryz.laysNm223_ren : Go.Shelf.Ren := ⟨fun | 23 => 193 | n => n, fun | 22 => 105 | 3 => 3 | 4 => 4 | 0 => 0 | n => n, fun | n => n⟩
theorem Tryz.laysNm223 : Go.Proofs.Lays2.n23 Tryz.prog Tryz.laysNm223_ren := {
  mixed := by kernel_rfl
  f23 := Tryz.func193.trans (congrArg some (by kernel_rfl))
  t0 := Tryz.underlying0
  a0 := Tryz.isAgg0
  z0 := Tryz.sizeOf0
  v0 := Tryz.zeroValue0
  t3 := Tryz.underlying3
  a3 := Tryz.isAgg3
  z3 := Tryz.sizeOf3
  v3 := Tryz.zeroValue3
  t4 := Tryz.underlying4
  a4 := Tryz.isAgg4
  z4 := Tryz.sizeOf4
  v4 := Tryz.zeroValue4
  t22 := Tryz.underlying105
  a22 := Tryz.isAgg105
  z22 := Tryz.sizeOf105
  v22 := Tryz.zeroValue105
  i3 := by kernel_rfl }
open Go.RowKit Go.Lib Go.Sort in
theorem Tryz.slices_Delete_int (blk off cap i j : Nat) (zs : List Int) (w : World) (hH : Holds (Value.int .i64) w blk off zs.toArray) (hcap : zs.length ≤ cap) (hm : cap ≤ 9223372036854775807) (hij : i ≤ j) (hj : j ≤ zs.length) :
    Calls Tryz.prog 193 #[.slice (some ⟨blk, off, none⟩) zs.length cap, .int .i64 i, .int .i64 j] w fun e w' => e = .returned (.slice (some ⟨blk, off, none⟩) (zs.length - (j - i)) cap) ∧ ∃ q, w' = putRow (Value.int .i64) (Sort.ahead w q) blk off (zs.take i ++ zs.drop j ++ List.replicate (j - i) 0).toArray := Any.slices_Delete_int Tryz.laysNm223 blk off cap i j zs w hH hcap hm hij hj
def Tryz.sortFg_ren : Go.Shelf.Ren := ⟨fun | 6 => 195 | 15 => 188 | 14 => 228 | 28 => 223 | 29 => 224 | 20 => 244 | 21 => 245 | 22 => 246 | 23 => 247 | 24 => 248 | 25 => 249 | 26 => 250 | 27 => 251 | 46 => 262 | 47 => 240 | 48 => 241 | 49 => 263 | 50 => 264 | 57 => 274 | n => n, fun | 22 => 109 | 24 => 218 | 25 => 239 | 3 => 3 | 39 => 274 | 0 => 0 | 53 => 302 | 55 => 304 | 4 => 4 | 46 => 296 | 45 => 295 | 50 => 255 | 5 => 5 | 9 => 9 | 66 => 313 | 70 => 317 | 76 => 330 | 77 => 100 | n => n, fun | n => n⟩
theorem Tryz.sortFg : Go.Proofs.SlLaysF0.n6 Tryz.prog Tryz.sortFg_ren := {
  mixed := by kernel_rfl
  f6 := ⟨Tryz.f195.name, by decide, Tryz.func195.trans (congrArg some (by kernel_rfl))⟩
  f14 := ⟨Tryz.f228.name, by decide, Tryz.func228.trans (congrArg some (by kernel_rfl))⟩
  f15 := Tryz.func188.trans (congrArg some (by kernel_rfl))
  f20 := ⟨Tryz.f244.name, by decide, Tryz.func244.trans (congrArg some (by kernel_rfl))⟩
  f21 := ⟨Tryz.f245.name, by decide, Tryz.func245.trans (congrArg some (by kernel_rfl))⟩
  f22 := ⟨Tryz.f246.name, by decide, Tryz.func246.trans (congrArg some (by kernel_rfl))⟩
  f23 := ⟨Tryz.f247.name, by decide, Tryz.func247.trans (congrArg some (by kernel_rfl))⟩
  f24 := ⟨Tryz.f248.name, by decide, Tryz.func248.trans (congrArg some (by kernel_rfl))⟩
  f25 := ⟨Tryz.f249.name, by decide, Tryz.func249.trans (congrArg some (by kernel_rfl))⟩
  f26 := ⟨Tryz.f250.name, by decide, Tryz.func250.trans (congrArg some (by kernel_rfl))⟩
  f27 := ⟨Tryz.f251.name, by decide, Tryz.func251.trans (congrArg some (by kernel_rfl))⟩
  f28 := Tryz.func223.trans (congrArg some (by kernel_rfl))
  f29 := Tryz.func224.trans (congrArg some (by kernel_rfl))
  f46 := ⟨Tryz.f262.name, by decide, Tryz.func262.trans (congrArg some (by kernel_rfl))⟩
  f47 := Tryz.func240.trans (congrArg some (by kernel_rfl))
  f48 := Tryz.func241.trans (congrArg some (by kernel_rfl))
  f49 := ⟨Tryz.f263.name, by decide, Tryz.func263.trans (congrArg some (by kernel_rfl))⟩
  f50 := ⟨Tryz.f264.name, by decide, Tryz.func264.trans (congrArg some (by kernel_rfl))⟩
  f57 := ⟨Tryz.f274.name, by decide, Tryz.func274.trans (congrArg some (by kernel_rfl))⟩
  t0 := Tryz.underlying0
  a0 := Tryz.isAgg0
  z0 := Tryz.sizeOf0
  v0 := Tryz.zeroValue0
  t3 := Tryz.underlying3
  a3 := Tryz.isAgg3
  z3 := Tryz.sizeOf3
  v3 := Tryz.zeroValue3
  t4 := Tryz.underlying4
  a4 := Tryz.isAgg4
  z4 := Tryz.sizeOf4
  v4 := Tryz.zeroValue4
  t5 := Tryz.underlying5
  a5 := Tryz.isAgg5
  z5 := Tryz.sizeOf5
  v5 := Tryz.zeroValue5
  t9 := Tryz.underlying9
  a9 := Tryz.isAgg9
  z9 := Tryz.sizeOf9
  v9 := Tryz.zeroValue9
  t22 := Tryz.underlying109
  a22 := Tryz.isAgg109
  z22 := Tryz.sizeOf109
  v22 := Tryz.zeroValue109
  t25 := Tryz.underlying239
  a25 := Tryz.isAgg239
  z25 := Tryz.sizeOf239
  v25 := Tryz.zeroValue239
  t39 := Tryz.underlying274
  a39 := Tryz.isAgg274
  z39 := Tryz.sizeOf274
  v39 := Tryz.zeroValue274
  t45 := Tryz.underlying295
  a45 := Tryz.isAgg295
  z45 := Tryz.sizeOf295
  v45 := Tryz.zeroValue295
  t46 := Tryz.underlying296
  a46 := Tryz.isAgg296
  z46 := Tryz.sizeOf296
  v46 := Tryz.zeroValue296
  t50 := Tryz.underlying255
  a50 := Tryz.isAgg255
  z50 := Tryz.sizeOf255
  v50 := Tryz.zeroValue255
  t53 := Tryz.underlying302
  a53 := Tryz.isAgg302
  z53 := Tryz.sizeOf302
  v53 := Tryz.zeroValue302
  t55 := Tryz.underlying304
  a55 := Tryz.isAgg304
  z55 := Tryz.sizeOf304
  v55 := Tryz.zeroValue304
  t66 := Tryz.underlying313
  a66 := Tryz.isAgg313
  z66 := Tryz.sizeOf313
  v66 := Tryz.zeroValue313
  t70 := Tryz.underlying317
  a70 := Tryz.isAgg317
  z70 := Tryz.sizeOf317
  v70 := Tryz.zeroValue317
  t76 := Tryz.underlying330
  a76 := Tryz.isAgg330
  z76 := Tryz.sizeOf330
  v76 := Tryz.zeroValue330
  t77 := Tryz.underlying100
  a77 := Tryz.isAgg100
  z77 := Tryz.sizeOf100
  v77 := Tryz.zeroValue100 }
end Go.Proofs
end
section
/- Clone and Delete of the library, met at lists of integers. -/
set_option maxRecDepth 100000
set_option linter.unusedVariables false
set_option linter.unusedSimpArgs false
namespace Go.Proofs.Ab.Area
open Go Go.RowKit Go.Proofs.Ab
/-- What a list of integers is in memory. -/
theorem seq_cells {w : World} {ok : Nat → Prop} {ys : List Int} {v : Value} (h : Rep w ok (.seq 1 (cellsN ys)) v) (h0 : 0 < ys.length) :
    ∃ b o cap, v = .slice (some ⟨b, o, none⟩) ys.length cap ∧ ys.length ≤ cap ∧ cap ≤ maxLen ∧ ∀ j, j < ys.length → w.cell? ⟨b, o + j, none⟩ = some (.int .i64 (ys.getD j 0)) := by
  cases h with
  | seq sz xs A len cap us hlen hcap hm hsz hl hr hA =>
    have hll : len = ys.length := by rw [hlen]; simp
    subst hll
    obtain ⟨b, o, rfl, _, hc⟩ := hA h0
    have hus := repN (ys := ys) ⟨hl, hr⟩
    subst hus
    refine ⟨b, o, cap, rfl, hcap, hm, fun j hj => hc j _ ?_⟩
    rw [List.getElem?_map, List.getElem?_eq_getElem hj]
    simp [List.getD, List.getElem?_eq_getElem hj]
theorem grown_of {w w' : World} (h : Below w.heap.size w w') : w.grownBy w' none := ⟨h.os, h.tape, h.output, h.size, fun k hk _ => h.block k hk⟩
theorem clone_call {m : Int} {nt : Nat} {s : AS} {ys : List Int} {K : SV → AS → Prop} (h0 : 0 < ys.length) (hl : ys.length ≤ 1000000)
    (h : addRw s s.rw (3, 1, cellsN ys) fun s' n => K (.own n) s') : ACall (C m) nt s 156 [.p (.seq 1 (cellsN ys))] K := by
  refine ⟨⟨Tryz.f156, _, Tryz.func156, by kernel_rfl, rfl⟩, fun B ok0 w0 a w E us R hS hr hR => ?_⟩
  obtain ⟨v, us, rfl, hv, hr⟩ := hr.uncons
  obtain rfl := hr.unnil
  obtain ⟨b, o, cap, rfl, hcap, hm, hc⟩ := seq_cells hv h0
  rw [addRw_eq] at h
  have hcl := Tryz.slices_Clone_int b o ys.length cap ys w (Nat.le_refl _) (by omega) hc
  refine Calls.mono (P := Tryz.prog) hcl ?_
  rintro e w' ⟨v', rfl, hown, _, hb⟩
  rw [List.take_length] at hown
  refine ⟨_, rfl, ?_⟩
  have hl1 : (cellsN ys).length = ys.length := by simp
  have hown' : w'.ownsRow B 3 1 v' (cellsN ys).length (ys.map encN) := by
    rw [hl1]
    refine ⟨hown.1, ?_⟩
    rcases hown.2 with h1 | ⟨g, cp, cur, h1, h2, h3⟩
    · exact .inl h1
    · exact .inr ⟨g, cp, cur, h1, Nat.le_trans hS.size_le h2, h3⟩
  obtain ⟨E', hle, hs, hh, hS'⟩ := hS.row (e := 3) (sz := 1) (ys := cellsN ys) (vs := ys.map encN) (v := .slice none 0 0) (v' := v') (w' := w') (rw' := s.rw)
    (fun m x hm => ⟨hm, fun k hk => by cases hkb : k.ownBlock with
      | none => exact .inl rfl
      | some b => exact .inr (by simp [Value.ownBlock])⟩)
    (fun n x g _ _ => by simp [Value.ownBlock]) (fun g hg => by simp [Value.ownBlock] at hg) (fun g hg => by simp [Value.ownBlock] at hg) (grown_of hb) hown' (fun x hx => by
      simp only [cellsN, List.mem_map] at hx
      obtain ⟨q, _, rfl⟩ := hx
      rfl) (repN' ys) (by
      rcases hown.2 with ⟨rfl, _⟩ | ⟨g, cp, cur, rfl, h2, _⟩
      · exact .inl rfl
      · exact .inr ⟨g, rfl, h2⟩) (fun _ _ _ => by simp [Value.ownBlock])
  exact hR _ _ _ _ E' h hS' hs
theorem clone_nil {m : Int} {nt : Nat} {s : AS} {K : SV → AS → Prop} (h : K (.p nilS) s) : ACall (C m) nt s 156 [.p nilS] K := by
  refine ⟨⟨Tryz.f156, _, Tryz.func156, by kernel_rfl, rfl⟩, fun B ok0 w0 a w E us R hS hr hR => ?_⟩
  obtain ⟨v, us, rfl, hv, hr⟩ := hr.uncons
  obtain rfl := hr.unnil
  have hv' := v_inv hv
  subst hv'
  refine Calls.mono (P := Tryz.prog) (Tryz.slices_Clone_int_nil 0 0 w) ?_
  rintro e w' ⟨rfl, rfl⟩
  exact ⟨_, rfl, hR _ _ _ _ E h hS (.v _)⟩
theorem clone_pure {m : Int} (ys : List Int) (h0 : 0 < ys.length) (hl : ys.length ≤ 1000000) : APure (C m) 156 [.seq 1 (cellsN ys)] (.seq 1 (cellsN ys)) := by
  refine ⟨⟨Tryz.f156, _, Tryz.func156, by kernel_rfl, rfl⟩, fun w ok us hlt hg hr => ?_⟩
  obtain ⟨v, us, rfl, hv, hr⟩ := hr.uncons
  obtain rfl := hr.unnil
  obtain ⟨b, o, cap, rfl, hcap, hm, hc⟩ := seq_cells hv h0
  have hcl := Tryz.slices_Clone_int b o ys.length cap ys w (Nat.le_refl _) (by omega) hc
  refine Calls.mono (P := Tryz.prog) hcl ?_
  rintro e w' ⟨v', rfl, hown, _, hb⟩
  rw [List.take_length] at hown
  have hl1 : (cellsN ys).length = ys.length := by simp
  rw [← hl1] at hown
  refine ⟨_, rfl, hb, own_seq hown (fun x hx => by
      simp only [cellsN, List.mem_map] at hx
      obtain ⟨q, _, rfl⟩ := hx
      rfl) (repN' ys) (fun g hg => ?_)⟩
  have := hown.lt g hg
  exact .inr this
theorem grow_none (w : World) : Go.Sort.grow w #[] = w := by simp [Go.Sort.grow]
theorem delete_call {m : Int} {nt : Nat} {s : AS} {k i : Nat} {ys : List Int} {xs : List (List PV)} {j : Int} {K : SV → AS → Prop} (hk : look s.rw k = some (3, 1, xs)) (hx : xs = cellsN ys) (hi : i < ys.length) (hj : j = i + 1)
    (h : strikeK s.rw k fun rw => addRw s rw (3, 1, cellsN (ys.eraseIdx i)) fun s' n => K (.own n) s') : ACall (C m) nt s 193 [.own k, .p (I i), .p (I j)] K := by
  subst hj hx
  refine ⟨⟨Tryz.f193, _, Tryz.func193, by kernel_rfl, rfl⟩, fun B ok0 w0 a w E us R hS hr hR => ?_⟩
  obtain ⟨v, us, rfl, hv, hr⟩ := hr.uncons
  obtain ⟨v1, us, rfl, hv1, hr⟩ := hr.uncons
  obtain ⟨v2, us, rfl, hv2, hr⟩ := hr.uncons
  obtain rfl := hr.unnil
  have hv1 := v_inv hv1
  have hv2 := v_inv hv2
  subst hv1 hv2
  have hv : E.ν k = some v := hv
  obtain ⟨v', us, hv', hown, hsz, hrep, hok⟩ := hS.mem.rw k 3 1 _ hk
  rw [hv] at hv'
  injection hv' with hv'
  subst hv'
  have hus := repN hrep
  subst hus
  obtain ⟨rw', h, hrw⟩ := strikeK_sound h
  rw [addRw_eq] at h
  have hl1 : (cellsN ys).length = ys.length := by simp
  rw [hl1] at hown
  rcases hown.2 with ⟨rfl, h0⟩ | ⟨g, cap, cur, rfl, hB, hcur, hnc, hcm, hcs, htk⟩
  · omega
  · have htk' : cur.toList.take ys.length = ys.map (Value.int .i64) := by rw [← htk, Nat.mul_one]
    have hc := Tryz.slices_Delete_int g 0 cap i (i + 1) ys w (holds_of_blockI hcur htk') hnc hcm (by omega) (by omega)
    refine Calls.mono (P := Tryz.prog) hc ?_
    rintro e w' ⟨rfl, q, rfl⟩
    refine ⟨_, rfl, ?_⟩
    obtain ⟨D, hD⟩ : ∃ D, D = ys.take i ++ ys.drop (i + 1) ++ List.replicate (i + 1 - i) (0 : Int) := ⟨_, rfl⟩
    rw [← hD]
    have hDl : D.length = ys.length := by rw [hD]; simp; omega
    have hDt : D.take (ys.length - 1) = ys.eraseIdx i := by
      rw [hD, List.eraseIdx_eq_take_drop_succ, List.take_append_of_le_length (by simp; omega), List.take_of_length_le (by simp; omega)]
    have hel : (ys.eraseIdx i).length = ys.length - 1 := by rw [List.length_eraseIdx, if_pos hi]
    have hl2 : (cellsN (ys.eraseIdx i)).length = ys.length - 1 := by simp [hel]
    have hheap := heap_sortedI (w := w) (n := q) (os := #[]) D.toArray hcur
    have hgr := grownBy_sortedI (w := w) (g := g) (n := q) (os := #[]) D.toArray
    rw [grow_none] at hheap hgr
    have hcz : D.length ≤ cur.size := by rw [hcs, hDl]; omega
    have htk2 := take_putCellsI cur D hcz
    have hown2 : (Go.Sort.putRow (Value.int .i64) (Go.Sort.ahead w q) g 0 D.toArray).ownsRow B 3 1 (.slice (some ⟨g, 0, none⟩) (ys.length - (i + 1 - i)) cap) (cellsN (ys.eraseIdx i)).length ((ys.eraseIdx i).map encN) := by
      rw [hl2]
      refine ⟨by simp [hel], .inr ⟨g, cap, _, by rw [show i + 1 - i = 1 by omega], hB, hheap, by omega, hcm, by simp [Go.Sort.putCells, hcs], ?_⟩⟩
      rw [Nat.mul_one, ← hDt, List.map_take, ← htk2, List.take_take, Nat.min_eq_left (by omega)]
    obtain ⟨E', hle, hs, hh, hS'⟩ := hS.row (e := 3) (sz := 1) (ys := cellsN (ys.eraseIdx i)) (vs := (ys.eraseIdx i).map encN) (v := .slice (some ⟨g, 0, none⟩) ys.length cap) (v' := .slice (some ⟨g, 0, none⟩) (ys.length - (i + 1 - i)) cap) (w' := Go.Sort.putRow (Value.int .i64) (Go.Sort.ahead w q) g 0 D.toArray) (rw' := rw')
      (fun m x hm => ⟨(hrw m x hm).1, fun u hu => by
        cases hub : u.ownBlock with
        | none => exact .inl rfl
        | some b =>
          refine .inr (fun e => (hrw m x hm).2 ?_)
          have e2 : (some b : Option Nat) = some g := e
          injection e2 with e2
          subst e2
          exact hS.rr m k _ _ b u _ (hrw m x hm).1 hk hu hv hub rfl⟩)
      (fun n x b hn hb e => hS.br n k x _ b _ hn hk hb hv e) (fun b hb => hok b hb) (fun b hb => by
        have e2 : (some g : Option Nat) = some b := hb
        injection e2 with e2
        subst e2
        exact hB) hgr hown2 (fun x hx => by
        simp only [cellsN, List.mem_map] at hx
        obtain ⟨q, _, rfl⟩ := hx
        rfl) (repN' _) (.inl rfl) (fun n y hn e => hS.od.ro k n _ y _ hk hn hv e)
    exact hR _ _ _ _ E' h hS' hs
end Go.Proofs.Ab.Area
end
section
/- First come, first served: plain laws of times with a spacing. -/
namespace Go.Proofs.Ab.Area
def ins (x : Int) : List Int → List Int
  | [] => [x]
  | y :: l => if x ≤ y then x :: y :: l else y :: ins x l
def isort : List Int → List Int
  | [] => []
  | x :: l => ins x (isort l)
theorem ins_comm (x y : Int) (l : List Int) : ins x (ins y l) = ins y (ins x l) := by
  induction l with
  | nil =>
    simp only [ins]
    split <;> split <;> first | rfl | (rw [show x = y by omega]) | omega
  | cons z l ih =>
    simp only [ins]
    by_cases h1 : y ≤ z <;> by_cases h2 : x ≤ z
    · rw [if_pos h1, if_pos h2]
      simp only [ins]
      by_cases h3 : x ≤ y <;> by_cases h4 : y ≤ x
      · rw [show x = y by omega]
      · rw [if_pos h3, if_neg h4, if_pos h1]
      · rw [if_neg h3, if_pos h4, if_pos h2]
      · omega
    · rw [if_pos h1, if_neg h2]
      simp only [ins]
      rw [if_neg (by omega : ¬ x ≤ y), if_neg h2, if_pos h1]
    · rw [if_neg h1, if_pos h2]
      simp only [ins]
      rw [if_pos h2, if_neg (by omega : ¬ y ≤ x), if_neg h1]
    · rw [if_neg h1, if_neg h2]
      simp only [ins]
      rw [if_neg h1, if_neg h2, ih]
theorem isort_perm {l m : List Int} (h : l.Perm m) : isort l = isort m := by
  induction h with
  | nil => rfl
  | cons x _ ih => simp only [isort, ih]
  | swap x y l => simp only [isort]; exact ins_comm _ _ _
  | trans _ _ h1 h2 => rw [h1, h2]
theorem ins_perm (x : Int) (l : List Int) : (ins x l).Perm (x :: l) := by
  induction l with
  | nil => exact .refl _
  | cons y l ih =>
    unfold ins
    split
    · exact .refl _
    · exact (List.Perm.cons y ih).trans (.swap x y l)
theorem isort_is_perm (l : List Int) : (isort l).Perm l := by
  induction l with
  | nil => exact .refl _
  | cons x l ih => exact (ins_perm x _).trans (.cons x ih)
theorem isort_sorted {l : List Int} (h : l.Pairwise (· ≤ ·)) : isort l = l := by
  induction l with
  | nil => rfl
  | cons x l ih =>
    rw [List.pairwise_cons] at h
    simp only [isort, ih h.2]
    cases l with
    | nil => rfl
    | cons y l => simp only [ins, if_pos (h.1 y List.mem_cons_self)]
/-- Flights: kind and ready tick; the times of an order, the last flight before being of kind k, at time b. -/
structure Fl where
  kind : Int
  ready : Int
end Go.Proofs.Ab.Area
end
section
/- All orders, in their order: two ways to visit them are one. -/
namespace Go.Proofs.Ab.Area
variable {σ : Type}
def ordersF (vis : σ → List Int → σ) : Nat → List Int → List Int → σ → σ
  | 0, b, _, s => vis s b
  | n + 1, b, rest, s => (List.range rest.length).foldl (fun s k => ordersF vis n (b ++ [rest.getD k 0]) (rest.eraseIdx k) s) s
def triedF (vis : σ → List Int → σ) (total : Nat) : Nat → List Int → σ → σ
  | 0, b, s => vis s b
  | n + 1, b, s => (List.range total).foldl (fun s (i : Nat) => if (i : Int) ∈ b then s else triedF vis total n (b ++ [(i : Int)]) s) s
theorem foldl_idx {α : Type} (g : α → Int → List Int → α) : ∀ (suf pre : List Int) (s : α), (pre ++ suf).Nodup →
    (List.range suf.length).foldl (fun s k => g s ((pre ++ suf).getD (pre.length + k) 0) ((pre ++ suf).eraseIdx (pre.length + k))) s = suf.foldl (fun s i => g s i ((pre ++ suf).filter fun j => decide (j ≠ i))) s
  | [], pre, s, _ => rfl
  | i :: suf, pre, s, hn => by
    have h0 : (pre ++ i :: suf).getD (pre.length + 0) 0 = i := by simp
    have h1 : (pre ++ i :: suf).eraseIdx (pre.length + 0) = (pre ++ i :: suf).filter fun j => decide (j ≠ i) := by
      rw [Nat.add_zero, List.eraseIdx_append_of_length_le (Nat.le_refl _), Nat.sub_self, List.eraseIdx_cons_zero, List.filter_append]
      rw [List.nodup_append] at hn
      obtain ⟨n1, n2, n3⟩ := hn
      rw [List.nodup_cons] at n2
      have e1 : pre.filter (fun j => decide (j ≠ i)) = pre := by
        rw [List.filter_eq_self]
        intro a ha
        have := n3 a ha i List.mem_cons_self
        simpa using this
      have e2 : suf.filter (fun j => decide (j ≠ i)) = suf := by
        rw [List.filter_eq_self]
        intro a ha
        have : a ≠ i := fun e => n2.1 (e ▸ ha)
        simpa using this
      rw [List.filter_cons_of_neg (by simp), e1, e2]
    have e : pre ++ i :: suf = (pre ++ [i]) ++ suf := by simp
    have ih := foldl_idx g suf (pre ++ [i]) (g s i ((pre ++ i :: suf).filter fun j => decide (j ≠ i))) (by rw [← e]; exact hn)
    rw [List.length_cons, List.range_succ_eq_map, List.foldl_cons, List.foldl_map, h0, h1]
    simp only [List.foldl_cons]
    rw [← e] at ih
    rw [← ih]
    congr 1
    funext s k
    have hl : (pre ++ [i]).length + k = pre.length + (k + 1) := by simp; omega
    rw [hl]
theorem orders_tried (vis : σ → List Int → σ) (total : Nat) : ∀ (n : Nat) (b rest : List Int) (s : σ), rest.length = n → rest = ((List.range total).map fun (i : Nat) => (i : Int)).filter (fun i => decide (i ∉ b)) → ordersF vis n b rest s = triedF vis total n b s
  | 0, b, rest, s, _, _ => rfl
  | n + 1, b, rest, s, hl, hr => by
    have hnd : ((List.range total).map fun (i : Nat) => (i : Int)).Nodup := by
      rw [List.nodup_iff_pairwise_ne, List.pairwise_map]
      exact (List.nodup_range (n := total)).imp fun h e => h (by omega)
    have hn : rest.Nodup := by rw [hr]; exact hnd.filter _
    have h1 := foldl_idx (fun s i r => ordersF vis n (b ++ [i]) r s) rest [] s (by simpa using hn)
    simp only [List.nil_append, List.length_nil, Nat.zero_add] at h1
    show (List.range rest.length).foldl (fun s k => ordersF vis n (b ++ [rest.getD k 0]) (rest.eraseIdx k) s) s = _
    rw [h1]
    have h2 : ∀ (l : List Int), (∀ i ∈ l, i ∈ rest) → ∀ s, l.foldl (fun s i => ordersF vis n (b ++ [i]) (rest.filter fun j => decide (j ≠ i)) s) s = l.foldl (fun s i => triedF vis total n (b ++ [i]) s) s := by
      intro l
      induction l with
      | nil => intro _ s; rfl
      | cons i l ih =>
        intro hm s
        have hi := hm i List.mem_cons_self
        have e : rest.filter (fun j => decide (j ≠ i)) = ((List.range total).map fun (i : Nat) => (i : Int)).filter (fun j => decide (j ∉ b ++ [i])) := by
          conv => lhs; rw [hr]
          rw [List.filter_filter]
          congr 1
          funext j
          simp only [List.mem_append, List.mem_singleton, not_or, Bool.decide_and, Bool.and_comm]
        have hlen : (rest.filter fun j => decide (j ≠ i)).length = n := by
          obtain ⟨p, q, e1⟩ := List.append_of_mem hi
          rw [e1] at hl hn ⊢
          rw [List.nodup_append] at hn
          obtain ⟨n1, n2, n3⟩ := hn
          rw [List.nodup_cons] at n2
          rw [List.filter_append, List.filter_cons_of_neg (by simp)]
          have f1 : p.filter (fun j => decide (j ≠ i)) = p := by
            rw [List.filter_eq_self]
            intro a ha
            simpa using n3 a ha i List.mem_cons_self
          have f2 : q.filter (fun j => decide (j ≠ i)) = q := by
            rw [List.filter_eq_self]
            intro a ha
            have : a ≠ i := fun e => n2.1 (e ▸ ha)
            simpa using this
          rw [f1, f2]
          simp at hl ⊢
          omega
        rw [List.foldl_cons, List.foldl_cons, orders_tried vis total n (b ++ [i]) _ s hlen e, ih (fun j hj => hm j (List.mem_cons_of_mem _ hj))]
    rw [h2 rest (fun i hi => hi) s, hr, List.foldl_filter, List.foldl_map]
    show _ = (List.range total).foldl (fun s (i : Nat) => if (i : Int) ∈ b then s else triedF vis total n (b ++ [(i : Int)]) s) s
    congr 1
    funext s i
    by_cases h : (i : Int) ∈ b <;> simp [h]
theorem orders_tried_all (vis : σ → List Int → σ) (total : Nat) (s : σ) : ordersF vis total [] ((List.range total).map fun (i : Nat) => (i : Int)) s = triedF vis total total [] s :=
  orders_tried vis total total [] _ s (by simp) (by rw [List.filter_eq_self.2]; intro a _; simp)
end Go.Proofs.Ab.Area
end
section
/- Best: all orders are visited. -/
set_option maxRecDepth 100000
set_option linter.unusedVariables false
set_option linter.unusedSimpArgs false
namespace Go.Proofs.Ab.Area
open Go Go.RowKit Go.Proofs.Ab
abbrev St2 := List Int × Int
def outP (s : St2) : PV := if s.2 < 0 then nilS else .seq 1 (cellsN s.1)
def visS (l : List Fg) (t : Tb) (s : St2) (b : List Int) : St2 := if s.2 < 0 ∨ delayL l t b < s.2 then (b, delayL l t b) else s
abbrev bxS (s : St2) : List (Nat × (Nat × List PV)) := [(1, (3, [I s.2])), (0, (105, [outP s]))]
abbrev capB (l : List Fg) (t : Tb) : List Cap := [.p (.ref [.seq 3 (l.map fc)]), .p (.ref (tbc t)), .box 1 0, .box 0 0]
structure OrdIn (l : List Fg) (t : Tb) : Prop where
  n8 : l.length ≤ 8
  f : ∀ f ∈ l, FgOk f
  t : TbOk t
theorem delay_nonneg {l : List Fg} (hl : ∀ f ∈ l, FgOk f) {t : Tb} (ht : TbOk t) {order : List Int} (ho : OrdOk l order) : 0 ≤ delayL l t order := by
  have key : ∀ (n : Nat) (order : List Int), order.length = n → OrdOk l order → ∀ x ∈ timesL l t order, 0 ≤ late x := by
    intro n
    induction n with
    | zero =>
      intro order h _ x hx
      have := List.eq_nil_of_length_eq_zero h
      subst this
      cases hx
    | succ n ih =>
      intro order h ho x hx
      have hne : order ≠ [] := by intro e; rw [e] at h; simp at h
      have e := List.dropLast_concat_getLast hne
      rw [← e, times_snoc] at hx
      rcases List.mem_append.1 hx with hx | hx
      · exact ih order.dropLast (by simp [h]) (fun i hi => ho i (List.dropLast_subset _ hi)) x hx
      · rw [List.mem_singleton] at hx
        rw [hx]
        unfold late nextT
        split
        · simp
        · simp only; omega
  have h := key order.length order rfl ho
  unfold delayL delayI
  rw [List.take_length]
  generalize timesL l t order = xs at h
  induction xs with
  | nil => simp
  | cons x xs ih =>
    rw [List.map_cons, List.sum_cons]
    have h1 := h x List.mem_cons_self
    have h2 := ih (fun y hy => h y (List.mem_cons_of_mem _ hy))
    omega
set_option maxHeartbeats 4000000 in
theorem visit_call {m : Int} {l : List Fg} {t : Tb} (hi : OrdIn l t) {nt : Nat} {fr sv : List (Nat × SV)} {df : List Nat} {K : SV → AS → Prop} (b : List Int) (s : St2) (h0 : 0 < b.length) (h8 : b.length ≤ 8) (hb : OrdOk l b)
    (hfr : (fr.all fun p => Nat.blt p.1 nt) = true) (hK : K (.p (.tup [])) ⟨fr, bxS (visS l t s b), [], 2, sv, [], df⟩) :
    ACall (C m) nt ⟨fr, bxS s, [], 2, sv, [], df⟩ 155 [.p (.seq 1 (cellsN b)), .p (.ref [.seq 3 (l.map fc)]), .p (.ref (tbc t)), .box 1 0, .box 0 0] K := by
  have hok : b.length ≤ 1000 := Nat.le_trans h8 (by decide)
  have htm := times_pure (m := m) l t b hok (Nat.le_trans hi.n8 (by decide)) hi.f hi.t hb
  have hlen := times_len l t b.length b rfl
  have hto := times_ok hi.f hi.t b.length b rfl hb
  have hdl := delay_pure (m := m) (timesL l t b) (by rw [hlen]; exact hok) (fun x hx => (hto x hx).fit hok)
  have e : delayI (timesL l t b) (timesL l t b).length = delayL l t b := rfl
  rw [e] at hdl
  have hcp := clone_pure (m := m) b h0 (Nat.le_trans h8 (by decide))
  have hnn := delay_nonneg hi.f hi.t hb
  obtain ⟨o, ls⟩ := s
  unfold visS at hK
  generalize delayL l t b = d at *
  have hKn : (ls < 0 ∨ d < ls) → K (.p (.tup [])) ⟨fr, [(1, (3, [I d])), (0, (105, [.seq 1 (cellsN b)]))], [], 2, sv, [], df⟩ := fun h => by
    rw [if_pos h] at hK
    have e2 : outP (b, d) = .seq 1 (cellsN b) := if_neg (by simp only; omega)
    have e3 : bxS (b, d) = [(1, (3, [I d])), (0, (105, [.seq 1 (cellsN b)]))] := by rw [← e2]
    rw [e3] at hK
    exact hK
  have hKo : ¬ (ls < 0 ∨ d < ls) → K (.p (.tup [])) ⟨fr, bxS (o, ls), [], 2, sv, [], df⟩ := fun h => by
    rw [if_neg h] at hK
    exact hK
  clear hK hnn hto hlen e
  refine ACall.inlineG good [] (fn := Tryz.f155) (by kernel_rfl) (by kernel_rfl) rfl rfl (by kernel_rfl) rfl (by kernel_rfl) (fun saved hsaved => ?_)
  skip
  conv => whnf
  repeat' (first
    | (refine SBool.mk (fun h => ?_) (fun h => ?_) <;> conv => whnf)
    | (refine SEx.mk _ (by first | exact htm | exact hdl | exact hcp) ?_; conv => whnf)
    | fail)
  all_goals rw [hsaved, restoreK_app hfr]
  · exact hKn (.inl (by assumption))
  · exact hKn (.inr (by assumption))
  · exact hKo (fun h => h.elim (fun h => absurd h (by assumption)) (fun h => absurd h (by assumption)))
abbrev foldS (l : List Fg) (t : Tb) (n : Nat) (b rest : List Int) (s : St2) (k : Nat) : St2 := (List.range k).foldl (fun s k => ordersF (visS l t) n (b ++ [rest.getD k 0]) (rest.eraseIdx k) s) s
theorem foldS_succ (l : List Fg) (t : Tb) (n : Nat) (b rest : List Int) (s : St2) (k : Nat) : foldS l t n b rest s (k + 1) = ordersF (visS l t) n (b ++ [rest.getD k 0]) (rest.eraseIdx k) (foldS l t n b rest s k) := by
  unfold foldS
  rw [List.range_succ, List.foldl_append]
  rfl
theorem cap_old (l : List Fg) (t : Tb) : (SV.clo 155 (capB l t)).old 2 := by
  intro c hc
  simp only [List.mem_cons, List.not_mem_nil, or_false] at hc
  rcases hc with rfl | rfl | rfl | rfl
  · trivial
  · trivial
  · show 1 < 2; decide
  · show 0 < 2; decide
set_option maxHeartbeats 8000000 in
theorem orders_call {m : Int} {l : List Fg} {t : Tb} (hi : OrdIn l t) : ∀ (n : Nat) {nt : Nat} {fr sv : List (Nat × SV)} {df : List Nat} {K : SV → AS → Prop} (b rest : List Int) (s : St2) (bP : PV), rest.length = n → (bP = .seq 1 (cellsN b) ∧ 0 < b.length ∨ bP = nilS ∧ b = [] ∧ 0 < n) → b.length + n ≤ 8 → OrdOk l b → OrdOk l rest →
    (fr.all fun p => Nat.blt p.1 nt) = true → (∀ p ∈ fr, p.2.old 2) → (∀ p ∈ sv, p.2.old 2) → K (.p (.tup [])) ⟨fr, bxS (ordersF (visS l t) n b rest s), [], 2, sv, [], df⟩ →
    ACall (C m) nt ⟨fr, bxS s, [], 2, sv, [], df⟩ 154 [.p bP, .p (.seq 1 (cellsN rest)), .clo 155 (capB l t)] K
  | 0, nt, fr, sv, df, K, b, rest, s, bP, hr, hbP, hn, hb, hrest, hfr, hfo, hso, hK => by
    have hr0 := List.eq_nil_of_length_eq_zero hr
    subst hr0
    obtain ⟨rfl, h0⟩ : bP = .seq 1 (cellsN b) ∧ 0 < b.length := by
      rcases hbP with h | ⟨_, _, h⟩
      · exact h
      · omega
    refine ACall.inlineG good [] (fn := Tryz.f154) (by kernel_rfl) (by kernel_rfl) rfl rfl (by kernel_rfl) rfl (by kernel_rfl) (fun saved hsaved => ?_)
    skip
    conv => whnf
    repeat' (first
      | (refine SBool.mk (fun _ => ?_) (fun h => absurd (of_decide_eq_true rfl) h); conv => whnf)
      | fail)
    refine visit_call hi b s h0 (by omega) hb rfl ?_
    conv => whnf
    skip
    conv => whnf
    repeat' (first
      | (refine codeK_sound good (mu := []) ?_; conv => whnf)
      | (refine SBool.mk (fun h => absurd h (of_decide_eq_false rfl)) (fun _ => ?_); conv => whnf)
      | refine SCode.mk (AWp.rounds 1 ?_)
      | fail)
    rw [hsaved, restoreK_app hfr]
    exact hK
  | n + 1, nt, fr, sv, df, K, b, rest, s, bP, hr, hbP, hn, hb, hrest, hfr, hfo, hso, hK => by
    have hcl : (cellsN rest).length = rest.length := by simp
    refine ACall.inlineG good [] (fn := Tryz.f154) (by kernel_rfl) (by kernel_rfl) rfl rfl (by kernel_rfl) rfl (by kernel_rfl) (fun saved hsaved => ?_)
    have hold : ∀ p ∈ saved, p.2.old 2 := by rw [hsaved]; exact OldL.save hfo hso
    skip
    conv => whnf
    repeat' (first
      | (refine SBool.mk (fun h => ?_) (fun h => ?_) <;> conv => whnf)
      | fail)
    · rw [hcl] at h; omega
    refine ⟨AWp.loop (ι := { k : Nat // k ≤ rest.length }) (fun k => ⟨[(17, .p (I k.1)), (16, .p (I (cellsN rest).length)), (15, .p (.seq 1 (cellsN rest))), (0, .p bP), (1, .p (.seq 1 (cellsN rest))), (2, .clo 155 (capB l t))], bxS (foldS l t n b rest s k.1), [], 2, saved, [], []⟩) (fun k => rest.length - k.1) ⟨0, by simp⟩ ?_ ?_⟩
    · exact SLe.cut (SubL.at ⟨⟨rfl, trivial⟩, ⟨rfl, trivial⟩, ⟨rfl, trivial⟩, ⟨rfl, trivial⟩, ⟨rfl, trivial⟩, ⟨rfl, cap_old l t⟩, trivial⟩) (SubB.at ⟨⟨rfl, Nat.lt_succ_self 1⟩, ⟨rfl, Nat.succ_pos 1⟩, trivial⟩) (oldL_all hold)
    · rintro ⟨k, hk⟩
      refine codeK_sound good (mu := [29, 37, 39]) ?_
      conv => whnf
      refine SBool.mk (fun hc => ?_) (fun hc => ?_)
      · have hkl : k < rest.length := by
          have hc' : (k : Int) < ((cellsN rest).length : Int) := hc
          rw [hcl] at hc'
          omega
        have hs : 0 ≤ (k : Int) ∧ (cellsN rest)[((k : Int)).toNat]? = some [I rest[k]] := some_at hkl cI
        have mk := sub_lt hkl
        have hms : ((cellsN rest).length : Int) = ((cellsN rest).length : Int) ∧ (0 : Int) ≤ ((cellsN rest).length : Int) ∧ ((8 : Nat) : Int) * ((cellsN rest).length : Int) ≤ 281474976710656 ∧ ((cellsN rest).length : Int) ≤ 9223372036854775807 := by rw [hcl]; omega
        have hco : ∀ c ∈ (cellsN rest).flatten, c.one = true := by
          intro c hc
          simp only [List.mem_flatten, List.mem_map] at hc
          obtain ⟨x, ⟨s, _, rfl⟩, h⟩ := hc
          rw [List.mem_singleton] at h
          rw [h]
          rfl
        have hap : (∀ c ∈ [[I rest[k]]].flatten, c.one = true) ∧ ((cellsN b).length + 1) * 8 ≤ 140737488355328 ∧ (cellsN b).length + 1 ≤ 9223372036854775807 := ⟨by intro c hc; simp at hc; subst hc; rfl, by rw [List.length_map]; omega, by rw [List.length_map]; omega⟩
        have hcopy : (cellsN rest).take (List.replicate ((cellsN rest).length : Int).toNat [PV.v (.int .i64 0)]).length ++ (List.replicate ((cellsN rest).length : Int).toNat [PV.v (.int .i64 0)]).drop (cellsN rest).length = cellsN rest := by
          rw [List.length_replicate, Int.toNat_natCast, List.take_length, List.drop_of_length_le (by simp), List.append_nil]
        have hfs := foldS_succ l t n b rest s k
        have hgd : rest.getD k 0 = rest[k] := by simp [List.getD, List.getElem?_eq_getElem hkl]
        rw [hgd] at hfs
        have hel : (rest.eraseIdx k).length = n := by rw [List.length_eraseIdx, if_pos hkl]; omega
        have hb2 : OrdOk l (b ++ [rest[k]]) := fun i hi => by
          rcases List.mem_append.1 hi with hi | hi
          · exact hb i hi
          · rw [List.mem_singleton] at hi
            rw [hi]
            exact hrest _ (List.getElem_mem hkl)
        have hr2 : OrdOk l (rest.eraseIdx k) := fun i hi => hrest i (List.mem_of_mem_eraseIdx hi)
        have wk := wsucc (k := k) (by omega)
        conv => whnf
        skip
        conv => whnf
        repeat' (first
          | (refine SEx.mk _ (by first | exact hs | exact hms | exact hco | exact hap) ?_; conv => whnf)
          | (refine SAnd.mk (by first | exact hs | exact hms | exact hco | exact hap) ?_; conv => whnf)
          | fail)
        rcases hbP with ⟨rfl, h0⟩ | ⟨rfl, rfl, hn0⟩
        · refine clone_call h0 (by omega) ?_
          conv => whnf
          skip
          conv => whnf
          repeat' (first
            | (rw [wk]; conv => whnf)
            | (refine SAnd.mk (by first | exact hap) ?_; conv => whnf)
            | fail)
          refine delete_call (k := 2) rfl hcopy hkl rfl ?_
          conv => whnf
          skip
          conv => whnf
          repeat' (first
            | fail)
          refine ACall.shut2 (xs' := cellsN (b ++ [rest[k]])) (ys' := cellsN (rest.eraseIdx k)) (by decide) (by simp) rfl ?_
          refine ACall.cut (n := 2) (fr' := [(17, .p (I k)), (16, .p (I (cellsN rest).length)), (15, .p (.seq 1 (cellsN rest))), (0, .p (.seq 1 (cellsN b))), (1, .p (.seq 1 (cellsN rest))), (2, .clo 155 (capB l t))]) (bx' := bxS (foldS l t n b rest s k)) (SubL.at ⟨⟨rfl, trivial⟩, ⟨rfl, trivial⟩, ⟨rfl, trivial⟩, ⟨rfl, trivial⟩, ⟨rfl, trivial⟩, ⟨rfl, cap_old l t⟩, trivial⟩) (SubB.at ⟨⟨rfl, Nat.lt_succ_self 1⟩, ⟨rfl, Nat.succ_pos 1⟩, trivial⟩) (oldL_all hold) ?_ ?_
          · intro x hx
            simp only [List.mem_cons, List.not_mem_nil, or_false] at hx
            rcases hx with rfl | rfl | rfl
            · trivial
            · trivial
            · exact cap_old l t
          refine orders_call hi n (b ++ [rest[k]]) (rest.eraseIdx k) (foldS l t n b rest s k) _ hel (.inl ⟨rfl, by simp⟩) (by rw [List.length_append]; simp only [List.length_cons, List.length_nil] at *; omega) hb2 hr2 rfl ?_ hold ?_
          · intro p hp
            simp only [List.mem_cons, List.not_mem_nil, or_false] at hp
            rcases hp with rfl | rfl | rfl | rfl | rfl | rfl
            · trivial
            · trivial
            · trivial
            · trivial
            · trivial
            · exact cap_old l t
          rw [← hfs]
          conv => whnf
          skip
          conv => whnf
          repeat' (first
            | (rw [wk]; conv => whnf)
            | fail)
          refine ⟨⟨k + 1, hkl⟩, mk, ?_⟩
          exact SLe.cut (SubL.at ⟨⟨rfl, trivial⟩, ⟨rfl, trivial⟩, ⟨rfl, trivial⟩, ⟨rfl, trivial⟩, ⟨rfl, trivial⟩, ⟨rfl, cap_old l t⟩, trivial⟩) (SubB.at ⟨⟨rfl, Nat.lt_succ_self 1⟩, ⟨rfl, Nat.succ_pos 1⟩, trivial⟩) (oldL_all hold)
        · refine clone_nil ?_
          conv => whnf
          skip
          conv => whnf
          repeat' (first
            | (rw [wk]; conv => whnf)
            | (refine SAnd.mk (by first | exact hap) ?_; conv => whnf)
            | fail)
          refine delete_call (k := 2) rfl hcopy hkl rfl ?_
          conv => whnf
          skip
          conv => whnf
          repeat' (first
            | fail)
          refine ACall.shut2 (xs' := cellsN (([] : List Int) ++ [rest[k]])) (ys' := cellsN (rest.eraseIdx k)) (by decide) (by simp) rfl ?_
          refine ACall.cut (n := 2) (fr' := [(17, .p (I k)), (16, .p (I (cellsN rest).length)), (15, .p (.seq 1 (cellsN rest))), (0, .p nilS), (1, .p (.seq 1 (cellsN rest))), (2, .clo 155 (capB l t))]) (bx' := bxS (foldS l t n ([] : List Int) rest s k)) (SubL.at ⟨⟨rfl, trivial⟩, ⟨rfl, trivial⟩, ⟨rfl, trivial⟩, ⟨rfl, trivial⟩, ⟨rfl, trivial⟩, ⟨rfl, cap_old l t⟩, trivial⟩) (SubB.at ⟨⟨rfl, Nat.lt_succ_self 1⟩, ⟨rfl, Nat.succ_pos 1⟩, trivial⟩) (oldL_all hold) ?_ ?_
          · intro x hx
            simp only [List.mem_cons, List.not_mem_nil, or_false] at hx
            rcases hx with rfl | rfl | rfl
            · trivial
            · trivial
            · exact cap_old l t
          refine orders_call hi n (([] : List Int) ++ [rest[k]]) (rest.eraseIdx k) (foldS l t n ([] : List Int) rest s k) _ hel (.inl ⟨rfl, by simp⟩) (by rw [List.length_append]; simp only [List.length_cons, List.length_nil] at *; omega) hb2 hr2 rfl ?_ hold ?_
          · intro p hp
            simp only [List.mem_cons, List.not_mem_nil, or_false] at hp
            rcases hp with rfl | rfl | rfl | rfl | rfl | rfl
            · trivial
            · trivial
            · trivial
            · trivial
            · trivial
            · exact cap_old l t
          rw [← hfs]
          conv => whnf
          skip
          conv => whnf
          repeat' (first
            | (rw [wk]; conv => whnf)
            | fail)
          refine ⟨⟨k + 1, hkl⟩, mk, ?_⟩
          exact SLe.cut (SubL.at ⟨⟨rfl, trivial⟩, ⟨rfl, trivial⟩, ⟨rfl, trivial⟩, ⟨rfl, trivial⟩, ⟨rfl, trivial⟩, ⟨rfl, cap_old l t⟩, trivial⟩) (SubB.at ⟨⟨rfl, Nat.lt_succ_self 1⟩, ⟨rfl, Nat.succ_pos 1⟩, trivial⟩) (oldL_all hold)
      · have hkr : k = rest.length := by
          have hc' : ¬ (k : Int) < ((cellsN rest).length : Int) := hc
          rw [hcl] at hc'
          omega
        subst hkr
        conv => whnf
        rw [hsaved, restoreK_app hfr]
        exact hK
end Go.Proofs.Ab.Area
end
section
/- Best: the function. -/
set_option maxRecDepth 100000
set_option linter.unusedVariables false
set_option linter.unusedSimpArgs false
namespace Go.Proofs.Ab.Area
open Go Go.RowKit Go.Proofs.Ab
def idxL (n : Nat) : List Int := (List.range n).map fun (i : Nat) => (i : Int)
theorem idxL_succ (n : Nat) : idxL (n + 1) = idxL n ++ [(n : Int)] := by
  unfold idxL
  rw [List.range_succ, List.map_append]
  rfl
theorem idxL_len (n : Nat) : (idxL n).length = n := by simp [idxL]
theorem idxL_ok (l : List Fg) : OrdOk l (idxL l.length) := fun i hi => by
  obtain ⟨k, hk, rfl⟩ := List.mem_map.1 hi
  have := List.mem_range.1 hk
  exact ⟨by omega, by simpa using this⟩
def bestS (l : List Fg) (t : Tb) : St2 := ordersF (visS l t) l.length [] (idxL l.length) ([], -1)
def seqE (l : List Fg) (t : Tb) : Int := firstOf [flightsE l, spaceE t]
structure SeqOk (l : List Fg) (t : Tb) : Prop where
  n0 : 0 < l.length
  i : OrdIn l t
theorem seqE_ok {l : List Fg} {t : Tb} (h : seqE l t = 0) : SeqOk l t := by
  unfold seqE at h
  rw [firstOf_zero, firstOf_zero] at h
  obtain ⟨f1, f2⟩ := flights_ok h.1
  exact ⟨f1.1, ⟨f1.2, f2, space_ok h.2.1⟩⟩
abbrev bestV (l : List Fg) (t : Tb) : PV := .tup [if seqE l t = 0 then outP (bestS l t) else nilS, I (if seqE l t = 0 then (bestS l t).2 else 0), I (seqE l t)]
set_option maxHeartbeats 4000000 in
theorem Best_pure {m : Int} (l : List Fg) (t : Tb) (hl : l.length ≤ 1000000) : APure (C m) 73 [.seq 3 (l.map fc), .agg (tbc t)] (bestV l t) := by
  have hcf := CheckFlights_pure (m := m) l hl
  have hcs := CheckSpacing_pure (m := m) t
  have hf2 : APure (C m) 93 [.seq 1 [[I (flightsE l)], [I (spaceE t)]]] (I (seqE l t)) := first2_pure _ _
  unfold bestV
  by_cases hE : seqE l t = 0
  · have hq := seqE_ok hE
    have hll : (((l.map fc).length : Nat) : Int) = l.length := by simp
    rw [if_pos hE, if_pos hE, hE]
    rw [hE] at hf2
    have n8 := hq.i.n8
    have n0 := hq.n0
    clear hE
    refine APure.of_body good [32, 33] (fn := Tryz.f73) (by kernel_rfl) (by kernel_rfl) rfl rfl (by kernel_rfl) rfl (by kernel_rfl) ?_
    conv => whnf
    repeat' (first
      | (rw [hll]; conv => whnf)
      | (refine SBool.mk (fun _ => ?_) (fun h => absurd (of_decide_eq_true rfl) h); conv => whnf)
      | (refine SEx.mk _ (by first | exact hcf | exact hcs | exact hf2) ?_; conv => whnf)
      | (refine SAnd.mk (by first | exact rfl | kernel_rfl | omega | decide | exact hcf | exact hcs | exact hf2) ?_; conv => whnf)
      | fail)
    refine ⟨AWp.post (AWp.loop (ι := { k : Nat // k ≤ l.length }) (fun k => ⟨[(23, .p (I k.1)), (22, .p (I l.length)), (8, .own 1), (9, .box 0 0), (2, .p (.ref [.seq 3 (l.map fc)])), (3, .p (.ref (tbc t)))], [(0, (105, [nilS]))], [(1, (3, 1, cellsN (idxL k.1)))], 2, [], [], []⟩) (fun k => l.length - k.1) ⟨0, by simp⟩ ?_ ?_)⟩
    · refine SLe.row 8 3 1 ?_
      conv => whnf
      skip
      · refine SLe.of [(0, 3)] [(1, 4)] rfl rfl ?_
        conv => whnf
        repeat' (first
        | exact True.intro
        | (refine SAnd.mk (PLe.refl _) ?_; conv => whnf)
        | (refine SAnd.mk (PLeL.refl _) ?_; conv => whnf)
        | (refine SAnd.mk rfl ?_; conv => whnf))
    · rintro ⟨k, hk⟩
      refine codeK_sound good (mu := []) ?_
      conv => whnf
      refine SBool.mk (fun hc => ?_) (fun hc => ?_)
      · have hkl : k < l.length := by simpa using hc
        have mk := sub_lt hkl
        have hap : (∀ c ∈ [[I (k : Int)]].flatten, c.one = true) ∧ ((cellsN (idxL k)).length + 1) * 8 ≤ 140737488355328 ∧ (cellsN (idxL k)).length + 1 ≤ 9223372036854775807 := ⟨by intro c hc; simp at hc; subst hc; rfl, by rw [List.length_map, idxL_len]; omega, by rw [List.length_map, idxL_len]; omega⟩
        have hsu := idxL_succ k
        have wk := wsucc (k := k) (by omega)
        conv => whnf
        skip
        conv => whnf
        repeat' (first
          | (rw [wk]; conv => whnf)
          | (refine SAnd.mk (by first | exact hap) ?_; conv => whnf)
          | fail)
        refine ⟨⟨k + 1, hkl⟩, mk, ?_⟩
        skip
        · refine SLe.of [(0, 0)] [(1, 2)] rfl rfl ?_
          conv => whnf
          repeat' (first
          | exact True.intro
          | (refine SAnd.mk (show _ = (_ : List (List PV)) from by rw [hsu]; simp) ?_; conv => whnf)
          | (refine SAnd.mk (PLe.refl _) ?_; conv => whnf)
          | (refine SAnd.mk (PLeL.refl _) ?_; conv => whnf))
      · have hkr : k = l.length := by simp at hc; omega
        subst hkr
        conv => whnf
        refine ⟨⟨[(8, .p (.seq 1 (cellsN (idxL l.length)))), (9, .box 0 0), (2, .p (.ref [.seq 3 (l.map fc)])), (3, .p (.ref (tbc t)))], [(0, (105, [nilS]))], [], 1, [], [], []⟩, ?_, ?_⟩
        · refine SLe.shutB 1 ?_
          conv => whnf
          skip
          · refine SLe.of [(0, 0)] [] rfl rfl ?_
            conv => whnf
            repeat' (first
            | exact True.intro
            | (refine SAnd.mk (PLe.refl _) ?_; conv => whnf)
            | (refine SAnd.mk (PLeL.refl _) ?_; conv => whnf))
        · conv => whnf
          skip
          conv => whnf
          repeat' (first
            | fail)
          refine ACall.cut (n := 2) (fr' := [(9, .box 0 0), (11, .box 1 0)]) (bx' := bxS ([], -1)) (SubL.at ⟨⟨rfl, Nat.succ_pos 1⟩, ⟨rfl, Nat.lt_succ_self 1⟩, trivial⟩) (SubB.at ⟨⟨rfl, Nat.lt_succ_self 1⟩, ⟨rfl, Nat.succ_pos 1⟩, trivial⟩) (oldL_all (fun p hp => by cases hp)) ?_ ?_
          · intro x hx
            simp only [List.mem_cons, List.not_mem_nil, or_false] at hx
            rcases hx with rfl | rfl | rfl
            · trivial
            · trivial
            · exact cap_old l t
          refine orders_call hq.i l.length [] (idxL l.length) ([], -1) _ (idxL_len _) (.inr ⟨rfl, rfl, n0⟩) (by simpa using n8) (fun i hi => by cases hi) (idxL_ok l) rfl ?_ (fun p hp => by cases hp) ?_
          · intro p hp
            simp only [List.mem_cons, List.not_mem_nil, or_false] at hp
            rcases hp with rfl | rfl
            · exact Nat.succ_pos 1
            · exact Nat.lt_succ_self 1
          conv => whnf
          skip
          conv => whnf
          repeat' (first
            | (refine SAnd.mk (by first | exact rfl | kernel_rfl | omega | decide) ?_; conv => whnf)
            | fail)
          exact ⟨PLe.refl _⟩
  · rw [if_neg hE, if_neg hE]
    refine APure.of_body good [] (fn := Tryz.f73) (by kernel_rfl) (by kernel_rfl) rfl rfl (by kernel_rfl) rfl (by kernel_rfl) ?_
    conv => whnf
    repeat' (first
      | (refine SBool.mk (fun h => ?_) (fun h => ?_) <;> conv => whnf)
      | (refine SEx.mk _ (by first | exact hcf | exact hcs | exact hf2) ?_; conv => whnf)
      | (refine SAnd.mk (by first | exact rfl | kernel_rfl | omega | decide | exact hcf | exact hcs | exact hf2) ?_; conv => whnf)
      | fail)
    all_goals first
      | exact ⟨PLe.refl _⟩
      | exact absurd (by assumption) hE
end Go.Proofs.Ab.Area
end
section
/- The library's sort, met at a row of the frame's own. -/
set_option maxRecDepth 100000
set_option linter.unusedVariables false
set_option linter.unusedSimpArgs false
namespace Go.Proofs.Ab.Area
open Go Go.RowKit Go.Proofs.Ab
open Go.Sort (SWO PermIn SortedIn flatK size_flatK HoldsK putRowK)
abbrev cellsF (ys : List Fg) : List (List PV) := ys.map fc
/-- A flight's three cells. -/
abbrev encP (x : Fg) : List Value := [.string x.name, .int .i64 x.kind, .int .i64 x.ready]
theorem ltP (x y : Fg) : ltOf (fun x y : Fg => Lib.compareInt x.ready y.ready) x y = decide (x.ready < y.ready) := by
  unfold ltOf Lib.compareInt
  by_cases h1 : x.ready < y.ready
  · simp [h1]
  · by_cases h2 : y.ready < x.ready <;> simp [h1, h2]
theorem swoP : SWO (ltOf fun x y : Fg => Lib.compareInt x.ready y.ready) where
  irrefl x := by rw [ltP]; simp
  trans x y z h1 h2 := by rw [ltP] at *; simp at *; omega
  ntrans x y z h1 h2 := by rw [ltP] at *; simp at *; omega
set_option maxHeartbeats 1000000 in
theorem closure160 (x y : Fg) (W : World) : Calls Tryz.prog 160 #[.agg #[.string x.name, .int .i64 x.kind, .int .i64 x.ready], .agg #[.string y.name, .int .i64 y.kind, .int .i64 y.ready]] W fun e w' => e = .returned (.int .i64 (Lib.compareInt x.ready y.ready)) ∧ ∃ q os', w' = Go.Sort.grow (W.drewN q) os' := by
  have hcon := fun W' => Tryz.cmp_Compare_int x.ready y.ready W'
  generalize Lib.compareInt x.ready y.ready = r at hcon ⊢
  go_enter Tryz.func160, Tryz.ntmps160
  go_wp2_with (go_at_call 197; refine (hcon _).mono ?_; rintro e w' ⟨rfl, rfl⟩)
  go_ret
  exact ⟨rfl, 0, _, by rw [Go.Sort.alloc_eq_grow, Go.Sort.alloc_eq_grow, Go.Sort.grow_grow]; rfl⟩
theorem cmpLays160 (blk off size : Nat) (w : World) : CmpLays Tryz.prog 160 #[] encP 3 (fun x y => Lib.compareInt x.ready y.ready) blk off size w :=
  fun _ _ _ _ x y => closure160 x y _
theorem flatMap_get : ∀ (ys : List Fg) (t : Nat), t < ys.length * 3 → (ys.flatMap encP)[t]? = some ((encP ys.toArray[t / 3]!)[t % 3]!)
  | [], t, h => by simp at h
  | y :: ys, 0, h => by simp [encP]
  | y :: ys, 1, h => by simp [encP]
  | y :: ys, 2, h => by simp [encP]
  | y :: ys, t + 3, h => by
    have ih := flatMap_get ys t (by simp only [List.length_cons] at h; omega)
    have e1 : (t + 3) / 3 = t / 3 + 1 := by omega
    have e2 : (t + 3) % 3 = t % 3 := by omega
    rw [e1, e2, List.flatMap_cons, List.getElem?_append_right (by simp [encP])]
    simp only [encP, List.length_cons, List.length_nil] at ih ⊢
    rw [show t + 3 - (0 + 1 + 1 + 1) = t by omega, ih]
    simp
theorem flatK_eq (ys : List Fg) : flatK encP 3 ys.toArray = (ys.flatMap encP).toArray := by
  apply Array.ext_getElem?
  intro t
  by_cases h : t < ys.length * 3
  · have h2 := flatMap_get ys t h
    simp only [List.getElem?_toArray, h2]
    simp [flatK, h]
  · have : (ys.flatMap encP).length = ys.length * 3 := by
      clear h
      induction ys with
      | nil => rfl
      | cons y ys ih => rw [List.flatMap_cons, List.length_append, ih]; simp [encP]; omega
    rw [Array.getElem?_eq_none (by simp; omega), List.getElem?_toArray, List.getElem?_eq_none (by omega)]
theorem repP {w : World} {ok : Nat → Prop} : ∀ {ys : List Fg} {us : List Value}, RepL w ok (cellsF ys).flatten us → us = ys.flatMap encP
  | [], us, h => by
    have := h.1
    simpa using this
  | y :: ys, us, h => by
    have h' : RepL w ok (St y.name :: I y.kind :: I y.ready :: (cellsF ys).flatten) us := h
    obtain ⟨u, us, rfl, h1, h2⟩ := h'.uncons
    obtain ⟨v, us, rfl, h3, h4⟩ := h2.uncons
    obtain ⟨z, us, rfl, h5, h6⟩ := h4.uncons
    rw [v_inv h1, v_inv h3, v_inv h5, repP h6]
    rfl
theorem repP' {w : World} {ok : Nat → Prop} : ∀ ys : List Fg, RepL w ok (cellsF ys).flatten (ys.flatMap encP)
  | [] => .nil
  | y :: ys => .cons (.v _) (.cons (.v _) (.cons (.v _) (repP' ys)))
theorem permIn_perm {d d' : Array Fg} (h : PermIn 0 d.size d d') : d'.toList.Perm d.toList := by
  obtain ⟨h1, _, h3⟩ := h
  have e1 : (d.extract 0 d.size).toList = d.toList := by simp
  have e2 : (d'.extract 0 d.size).toList = d'.toList := by rw [← h1]; simp
  rw [e1, e2] at h3
  exact h3
theorem sortedIn_pair {d : Array Fg} {n : Nat} (hn : n = d.size) (h : SortedIn (ltOf fun x y : Fg => Lib.compareInt x.ready y.ready) 0 n d) : d.toList.Pairwise fun x y => x.ready ≤ y.ready := by
  subst hn
  rw [List.pairwise_iff_getElem]
  intro i j hi hj hij
  have := h i j (Nat.zero_le _) hij (by simpa using hj)
  rw [ltP] at this
  simp at hi hj
  simp [hi, hj] at this
  simpa using this
theorem sortFg_call {m : Int} {nt : Nat} {s : AS} {k : Nat} {ys : List Fg} {K : SV → AS → Prop} (hk : look s.rw k = some (218, 3, cellsF ys)) (hl : ys.length < 4611686018427387904)
    (h : ∀ ys' : List Fg, ys'.Perm ys → (ys'.Pairwise fun x y => x.ready ≤ y.ready) → setRwK s.rw k (218, 3, cellsF ys') fun rw => setRw s rw fun s' => K (.p (.tup [])) s') : ACall (C m) nt s 195 [.own k, .p (.fn 160 [])] K := by
  refine ⟨⟨Tryz.f195, _, Tryz.func195, by kernel_rfl, rfl⟩, fun B ok0 w0 a w E us R hS hr hR => ?_⟩
  obtain ⟨v, us, rfl, hv, hr⟩ := hr.uncons
  obtain ⟨f, us, rfl, hf, hr⟩ := hr.uncons
  obtain rfl := hr.unnil
  have hv : E.ν k = some v := hv
  obtain ⟨fs, rfl, hfs⟩ := fn_inv hf
  obtain rfl := hfs.unnil
  obtain ⟨v', us, hv', hown, hsz, hrep, hok⟩ := hS.mem.rw k 218 3 _ hk
  rw [hv] at hv'
  injection hv' with hv'
  subst hv'
  have hus := repP hrep
  subst hus
  rcases hown.2 with ⟨rfl, h0⟩ | ⟨g, cap, cur, rfl, hB, hcur, hnc, hcm, hcs, htk⟩
  · have hy : ys = [] := by simpa using h0
    subst hy
    have hc := AnyF.slices_SortFunc_none Tryz.sortFg none 0 (.func (.func 160) #[] #[]) w
    refine Calls.mono (P := Tryz.prog) hc ?_
    rintro e w' ⟨rfl, rfl⟩
    refine ⟨_, rfl, ?_⟩
    obtain ⟨rw', hk', hself, hother⟩ := setRwK_sound (h [] .nil .nil)
    rw [setRw_eq] at hk'
    refine hR _ _ _ _ E hk' ?_ (.tup [] [] rfl (fun j c u hc => by simp at hc))
    refine hS.reRow hk hv ⟨rfl, rfl, rfl, Nat.le_refl _, fun _ _ _ => rfl⟩ hown (fun x hx => by simp at hx) hrep hself hother
  · have hlen : (cellsF ys).length = ys.length := by simp
    rw [hlen] at hnc hown htk ⊢
    have hglt : g < w.heap.size := (Array.getElem?_eq_some_iff.1 hcur).1
    have hH : HoldsK encP 3 w g 0 ys.toArray := by
      intro j hj
      rw [size_flatK] at hj
      have hj' : j < ys.length * 3 := by simpa using hj
      refine ⟨?_, by simp [World.frozen?, hcur]⟩
      have hc := ownsRow_cells hown rfl j
      rw [flatK_eq]
      have h2 := flatMap_get ys j hj'
      rw [Nat.zero_add, hc _ h2]
      simp [h2]
    have eg : ∀ args w, (callFunc 160 args).run Tryz.prog w = .ok (.enter 160 args) w := enters_of Tryz.func160 (by kernel_rfl) rfl
    have hc := AnyQ.slices_SortFunc Tryz.sortFg 3 Tryz.isAgg218 Tryz.sizeOf218 encP (fun _ => rfl) (fun x v hv => by simp [encP] at hv; rcases hv with rfl | rfl | rfl <;> rfl) (fun x y => Lib.compareInt x.ready y.ready) swoP 160 #[] g 0 cap ys.toArray w eg (cmpLays160 g 0 ys.toArray.size w) hH hglt (by simpa using hl)
    refine Calls.mono (P := Tryz.prog) hc ?_
    rintro e w' ⟨rfl, d', n, os, hp, hs, rfl⟩
    refine ⟨_, rfl, ?_⟩
    have hperm := permIn_perm hp
    obtain ⟨ys', rfl⟩ : ∃ ys' : List Fg, d' = ys'.toArray := ⟨d'.toList, by simp⟩
    have hperm : ys'.Perm ys := by simpa using hperm
    have hl2 := hperm.length_eq
    obtain ⟨rw', hk', hself, hother⟩ := setRwK_sound (h ys' hperm (by simpa using sortedIn_pair (d := ys'.toArray) (by simp [hl2]) hs))
    rw [setRw_eq] at hk'
    refine hR _ _ _ _ E hk' ?_ (.tup [] [] rfl (fun j c u hc => by simp at hc))
    have hheap : ∀ d : Array Value, (Go.Sort.grow (Go.Sort.putRow id (Go.Sort.ahead w n) g 0 d) os).heap[g]? = some (.cells (Go.Sort.putCells id 0 d cur) 218 (0, 0)) := fun d => by
      rw [Go.Sort.heap_grow_old _ _ (by simpa using hglt)]
      simp [Go.Sort.putRow, Go.Sort.mapBlock, Go.Sort.ahead, Array.getElem?_modify, hcur, Go.Sort.onCells]
    have hgrown : w.grownBy (sortWorldK encP 3 w g 0 n ys'.toArray os) (some g) := by
      refine ⟨rfl, rfl, rfl, by simp [sortWorldK, putRowK], fun k hk hne => ?_⟩
      unfold sortWorldK putRowK
      rw [Go.Sort.heap_grow_old _ _ (by simpa using hk)]
      have : g ≠ k := fun e => hne (by rw [e])
      simp [Go.Sort.putRow, Go.Sort.mapBlock, Go.Sort.ahead, Array.getElem?_modify, this]
    refine hS.reRow (xs' := cellsF ys') (us' := ys'.flatMap encP) hk hv hgrown ?_ (fun x hx => ?_) (repP' ys') hself hother
    · have hfl : (ys'.flatMap encP).length = ys'.length * 3 := by
        have := (repP' (w := w) (ok := E.ok) ys').1
        rw [this]; exact flat_len (sz := 3) fc (fun _ => rfl) ys'
      refine ⟨by rw [hfl]; simp, .inr ⟨g, cap, Go.Sort.putCells id 0 (flatK encP 3 ys'.toArray) cur, by simp [hl2], hB, hheap _, by simp [hl2]; exact hnc, hcm, by simp [Go.Sort.putCells, hcs], ?_⟩⟩
      apply List.ext_getElem?
      intro j
      have hcl : ys'.length * 3 ≤ cur.size := by rw [hcs, hl2]; exact Nat.mul_le_mul_right _ hnc
      by_cases hj : j < ys'.length * 3
      · rw [List.getElem?_take_of_lt (by simpa using hj), Array.getElem?_toList, flatK_eq, flatMap_get ys' j hj]
        have h3 := flatMap_get ys' j hj
        obtain ⟨h5, h4⟩ := List.getElem?_eq_some_iff.1 h3
        simp [Go.Sort.putCells, show j < cur.size by omega, hfl, hj]
        rw [h4]
        simp
      · rw [List.getElem?_take_eq_none (by simp; omega), List.getElem?_eq_none (by omega)]
    · simp only [cellsF, List.mem_map] at hx
      obtain ⟨q, _, rfl⟩ := hx
      rfl
end Go.Proofs.Ab.Area
end
section
/- Flights, collected and sorted. -/
set_option maxRecDepth 100000
set_option linter.unusedVariables false
set_option linter.unusedSimpArgs false
namespace Go.Proofs.Ab.Area
open Go Go.RowKit Go.Proofs.Ab
theorem fc_plain (l : List Fg) : ∀ c ∈ (l.map fc).flatten, ∃ x, c = PV.v x := by
  intro c hc
  simp only [List.mem_flatten, List.mem_map] at hc
  obtain ⟨y, ⟨f, _, rfl⟩, h⟩ := hc
  simp only [List.mem_cons, List.not_mem_nil, or_false] at h
  rcases h with rfl | rfl | rfl <;> exact ⟨_, rfl⟩
abbrev valF (l : List Fg) : PV := .fn 196 [.ref [.seq 3 (l.map fc)]]
theorem values_pure {m : Int} (l : List Fg) : APure (C m) 159 [.seq 3 (l.map fc)] (valF l) := by
  refine APure.of_body good [] (fn := Tryz.f159) (by kernel_rfl) (by kernel_rfl) rfl rfl (by kernel_rfl) rfl (by kernel_rfl) ?_
  conv => whnf
  repeat' (first
    | fail)
  exact ⟨PLe.refl _⟩
def isRow (l : List Fg) (ys : List (List PV)) : Prop := ys = l.map fc
set_option maxHeartbeats 8000000 in
theorem append_own {m : Int} (l : List Fg) (hl : l.length ≤ 1000) : AOwn (C m) 227 [nilS, valF l] 218 3 (isRow l) := by
  refine AOwn.of_body good [2] (fun ys hy => by rw [hy]; exact fc_plain l) (fn := Tryz.f227) (by kernel_rfl) (by kernel_rfl) rfl rfl (by kernel_rfl) rfl (by kernel_rfl) ?_
  conv => whnf
  repeat' (first
    | fail)
  refine ⟨AWp.toHold 0 rfl (bx' := []) (fun m x h => by cases h) (fun g => AWp.le (t := ⟨[(6, .p (valF l)), (2, .box 0 0)], [], [(1, (218, 3, []))], 2, [], [(0, .hold g 109 (.own 1))], []⟩) ?_ ?_)⟩
  · refine SLe.rowH 0 218 3 ?_
    conv => whnf
    skip
    · refine SLe.ofO [(0, 0)] [(1, 1)] [(0, 0)] rfl rfl rfl ?_
      conv => whnf
      repeat' (first
      | exact True.intro
      | (refine SAnd.mk (PLe.refl _) ?_; conv => whnf)
      | (refine SAnd.mk rfl ?_; conv => whnf))
  refine AWp.post (AWp.rangeF rfl ?_)
  conv => whnf
  intro gd gl L hLp hLa hLb
  refine ACall.inline good [] (fn := Tryz.f196) (by kernel_rfl) (by kernel_rfl) rfl rfl (by kernel_rfl) rfl (by kernel_rfl) ?_
  conv => whnf
  refine ⟨AWp.loop (ι := { i : Nat // i ≤ l.length }) (fun i => ⟨[(7, .p (I i.1)), (6, .p (I l.length)), (5, .p (.seq 3 (l.map fc))), (0, .p (.v (.func (.yield gl) #[] #[]))), (1, .p (.ref [.seq 3 (l.map fc)]))],
    [], [(1, (218, 3, (l.take i.1).map fc))], 4, [(2, .box 0 0)], [(3, .loop gl .ready Tryz.f227.ntmps [(2, .box 0 0)] L), (2, .dfr gd), (0, .hold g 109 (.own 1))], []⟩) (fun i => l.length - i.1) ⟨0, by simp⟩ ?_ ?_⟩
  · skip
    · refine SLe.ofO [(0, 0)] [(1, 1)] [(3, 3), (2, 2), (0, 0)] rfl rfl rfl ?_
      conv => whnf
      repeat' (first
      | exact True.intro
      | (refine SAnd.mk (PLe.refl _) ?_; conv => whnf)
      | (refine SAnd.mk (PLe.of_eq (by simp)) ?_; conv => whnf)
      | (refine SAnd.mk rfl ?_; conv => whnf)
      | (refine SAnd.mk ⟨rfl, rfl⟩ ?_; conv => whnf))
  · rintro ⟨k, hk⟩
    refine codeK_sound good (mu := []) ?_
    conv => whnf
    refine SBool.mk (fun hc => ?_) (fun hc => ?_)
    · have hkl : k < l.length := by simpa using hc
      have hs := some_at hkl fc
      have mk := sub_lt hkl
      have hts := take_map_succ hkl fc
      have hap : (∀ c ∈ [fc l[k]].flatten, c.one = true) ∧ (((l.take k).map fc).length + 1) * 32 ≤ 140737488355328 ∧ ((l.take k).map fc).length + 1 ≤ 9223372036854775807 := ⟨by
        intro c hc
        obtain ⟨x, rfl⟩ := fc_plain [l[k]] c hc
        have : PV.v x ∈ fc l[k] := by simpa using hc
        simp only [List.mem_cons, List.not_mem_nil, or_false] at this
        rcases this with h | h | h <;> (rw [h]; rfl), by rw [List.length_map, List.length_take]; omega, by rw [List.length_map, List.length_take]; omega⟩
      have wk := wsucc (k := k) (by omega)
      generalize hzs : (l.take k).map fc = zs at hap hts
      clear hc
      conv => whnf
      skip
      conv => whnf
      repeat' (first
        | (refine SEx.mk _ (by first | exact hs) ?_; conv => whnf)
        | (refine SAnd.mk (by first | exact rfl | kernel_rfl | omega | decide | exact hs) ?_; conv => whnf)
        | fail)
      refine SRound.of good [] (n := 3) (ps := [7]) rfl hLp hLa hLb ?_
      clear hLp hLa hLb
      conv => whnf
      refine SAnd.mk rfl ?_
      conv => whnf
      refine codeK_sound goodQ (mu := []) ?_
      skip
      conv => whnf
      repeat' (first
        | (rw [wk]; conv => whnf)
        | (refine SAnd.mk (by first | exact hap) ?_; conv => whnf)
        | (refine SAnd.mk (by first | exact rfl | kernel_rfl | omega | decide | exact hap) ?_; conv => whnf)
        | fail)
      refine ⟨⟨k + 1, hkl⟩, mk, ?_⟩
      skip
      · refine SLe.ofO [(0, 0)] [(1, 6)] [(3, 3), (2, 2), (0, 0)] rfl rfl rfl ?_
        conv => whnf
        repeat' (first
        | exact True.intro
        | (refine SAnd.mk (show _ = (_ : List (List PV)) from by rw [hts]) ?_; conv => whnf)
        | (refine SAnd.mk (PLe.refl _) ?_; conv => whnf)
        | (refine SAnd.mk rfl ?_; conv => whnf)
        | (refine SAnd.mk ⟨rfl, rfl⟩ ?_; conv => whnf))
    · have : k = l.length := by simp at hc; omega
      subst this
      skip
      conv => whnf
      repeat' (first
        | (refine SAnd.mk (by first | exact rfl | kernel_rfl | omega | decide) ?_; conv => whnf)
        | fail)
      refine ⟨_, SLe.refl, ?_⟩
      skip
      conv => whnf
      repeat' (first
        | (refine SAnd.mk (by first | exact rfl | kernel_rfl | omega | decide) ?_; conv => whnf)
        | fail)
      refine SAnd.mk ⟨rfl, rfl⟩ ⟨?_⟩
      show (l.take l.length).map fc = l.map fc
      rw [List.take_length]
theorem collect_own {m : Int} (l : List Fg) (hl : l.length ≤ 1000) : AOwn (C m) 194 [valF l] 218 3 (isRow l) := by
  have h := append_own (m := m) l hl
  refine AOwn.of_body good [4] (fun ys hy => by rw [hy]; exact fc_plain l) (fn := Tryz.f194) (by kernel_rfl) (by kernel_rfl) rfl rfl (by kernel_rfl) rfl (by kernel_rfl) ?_
  conv => whnf
  repeat' (first
    | fail)
  refine AOwn.call h (fun ys hy => ?_)
  conv => whnf
  skip
  conv => whnf
  repeat' (first
    | fail)
  refine SAnd.mk ⟨rfl, rfl⟩ ⟨?_⟩
  exact hy
/-- Sorted by their ready ticks. -/
def isSorted (l : List Fg) (ys : List (List PV)) : Prop := ∃ zs : List Fg, ys = zs.map fc ∧ zs.Perm l ∧ zs.Pairwise fun x y => x.ready ≤ y.ready
theorem sorted_own {m : Int} (l : List Fg) (hl : l.length ≤ 1000) : AOwn (C m) 158 [valF l, .fn 160 []] 218 3 (isSorted l) := by
  have h := collect_own (m := m) l hl
  refine AOwn.of_body good [7, 10] (fun ys hy => by obtain ⟨zs, rfl, _⟩ := hy; exact fc_plain zs) (fn := Tryz.f158) (by kernel_rfl) (by kernel_rfl) rfl rfl (by kernel_rfl) rfl (by kernel_rfl) ?_
  conv => whnf
  repeat' (first
    | fail)
  refine AOwn.call h (fun ys hy => ?_)
  obtain rfl := hy
  conv => whnf
  skip
  conv => whnf
  repeat' (first
    | fail)
  refine sortFg_call (k := 0) (ys := l) rfl (Nat.lt_of_le_of_lt hl (by decide)) (fun zs hp hs => ?_)
  conv => whnf
  skip
  conv => whnf
  repeat' (first
    | fail)
  refine SAnd.mk ⟨rfl, rfl⟩ ⟨?_⟩
  exact ⟨zs, rfl, hp, hs⟩
end Go.Proofs.Ab.Area
end
