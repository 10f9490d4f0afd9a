/- The machine, the contracts and the walks on which ToneDepths rests: a part of the proof. -/
import Derived.Test.YtkphoimochkndaaGreatDoorK5
import Derived.OpenShut
import Derived.Carry
import Derived.Test.YtkphoimochkndaaGreatDoorTie
import Derived.Test.YtkphoimochkndaaGreatDoorCards
import Derived.ProofKit
import Derived.Lay
import Derived.LaidMore
import Derived.SevenTiedAt
import Derived.Stop.Joined
section
/- Parse. -/
set_option maxRecDepth 100000
set_option linter.unusedVariables false
set_option linter.unusedSimpArgs false
namespace Go.Proofs.Ab.Tone2
open Go Go.RowKit Go.Proofs.Ab Go.Proofs.Ab.Tone
/-- A line's signal. -/
def sgOf (st : Tk) : Sg := ⟨⟨tkN st 0, tkN st 1⟩, ⟨tkN st 2, tkN st 3⟩, ⟨tkN st 4, tkN st 5⟩⟩
def lineOk (t : List UInt8) : Bool := Lib.hasSuffix t [10] && decide ((wordsV (Lib.trimSuffix t [10])).head? = some bSignal) && decide (tkS ((wordsV (Lib.trimSuffix t [10])).tail, false) 6 = ([], false))
def lineSg (t : List UInt8) : Sg := sgOf ((wordsV (Lib.trimSuffix t [10])).tail, false)
def cutLine (r : List UInt8) : Nat := if Lib.indexByte r 10 < 0 then r.length else (Lib.indexByte r 10).toNat + 1
/-- What Parse comes to. -/
def parseF : Nat → List UInt8 → List Sg → List Sg × Int × Int
  | 0, _, out => ([], 0, 0)
  | n + 1, [], out => if checkL out = 0 then (out, 0, 0) else ([], out.length, checkL out)
  | n + 1, r, out => if lineOk (r.take (cutLine r)) then parseF n (r.drop (cutLine r)) (out ++ [lineSg (r.take (cutLine r))]) else ([], out.length, 25)
def parseV (s : ByteArray) : List Sg × Int × Int := if 4096 < s.size then ([], 0, 26) else parseF (s.size + 1) s.data.toList []
abbrev cellsG (out : List Sg) : List (List PV) := out.map sc
theorem ext_take (r : List UInt8) (k : Nat) : (⟨r.toArray⟩ : ByteArray).extract 0 k = ⟨(r.take k).toArray⟩ := by
  apply ByteArray.ext
  simp
theorem ext_drop (r : List UInt8) (k : Nat) : (⟨r.toArray⟩ : ByteArray).extract k (⟨r.toArray⟩ : ByteArray).size = ⟨(r.drop k).toArray⟩ := by
  apply ByteArray.ext
  simp [ByteArray.size, List.take_of_length_le]
theorem indexByte_lt {l : List UInt8} {c : UInt8} (h : 0 ≤ Lib.indexByte l c) : (Lib.indexByte l c).toNat < l.length := by
  induction l with
  | nil => simp [Lib.indexByte] at h
  | cons b l ih =>
    unfold Lib.indexByte at h ⊢
    split
    · simp
    · rename_i hb
      rw [if_neg hb] at h
      split
      · rename_i h1
        rw [if_pos h1] at h
        simp at h
      · rename_i h1
        rw [if_neg h1] at h
        have hge := Lib.indexByte_ge l c
        have h1' : Lib.indexByte l c ≠ -1 := fun e => h1 (by rw [e]; rfl)
        have := ih (by omega)
        simp only [List.length_cons]
        omega
/-- What is left to parse. -/
structure PI where
  n : Nat
  r : List UInt8
  out : List Sg
set_option maxHeartbeats 8000000 in
theorem Parse_pure {m : Int} (s : ByteArray) : APure (C m) 64 [St s] (.tup [if (parseV s).2.2 = 0 then .seq 6 ((parseV s).1.map sc) else nilS, I (parseV s).2.1, I (parseV s).2.2]) := by
  refine APure.of_body good [1005, 19] (fn := Tryz.f64) (by kernel_rfl) (by kernel_rfl) rfl rfl (by kernel_rfl) rfl (by kernel_rfl) ?_
  conv => whnf
  repeat' (first
    | (refine codeK_sound good (mu := [1005, 19]) ?_; conv => whnf)
    | ((first | rw [wl0] | rw [wl1] | rw [wl2] | rw [wl3] | rw [wl4] | rw [wl5]); conv => whnf)
    | (refine SBool.mk (fun _ => ?_) (fun h => absurd (of_decide_eq_true rfl) h); conv => whnf)
    | (refine SBool.mk (fun h => absurd h (of_decide_eq_false rfl)) (fun _ => ?_); conv => whnf)
    | (refine SBool.mk (fun h => ?_) (fun h => ?_) <;> conv => whnf)
    | (refine SEx.mk _ (by first | exact rfl | exact ⟨of_decide_eq_true rfl, rfl⟩) ?_; conv => whnf)
    | (refine SAll.mk (fun _ => ?_); conv => whnf)
    | (refine SAnd.mk ⟨by intro c hc; simp at hc; first | (subst hc; rfl) | ((repeat' (rcases hc with rfl | hc)) <;> first | rfl | (subst hc; rfl)), by (simp; first | done | omega), by (simp; first | done | omega)⟩ ?_; conv => whnf)
    | (refine SAnd.mk (by first | exact rfl | kernel_rfl | omega | decide) ?_; conv => whnf)
    | fail)
  · have h' : 4096 < s.size := by omega
    exact ⟨PLe.of_eq (by simp [parseV, h'])⟩
  · rename_i g5
    have hs : s.size ≤ 4096 := by omega
    have hsl : s.data.toList.length = s.size := by rw [Array.length_toList]; rfl
    refine ACall.inline good [1, 3] (fn := Tryz.f139) (by kernel_rfl) (by kernel_rfl) rfl rfl (by kernel_rfl) rfl (by kernel_rfl) ?_
    conv => whnf
    repeat' (first
      | (refine codeK_sound good (mu := [1, 3]) ?_; conv => whnf)
      | ((first | rw [wl0] | rw [wl1] | rw [wl2] | rw [wl3] | rw [wl4] | rw [wl5]); conv => whnf)
      | (refine SBool.mk (fun _ => ?_) (fun h => absurd (of_decide_eq_true rfl) h); conv => whnf)
      | (refine SBool.mk (fun h => absurd h (of_decide_eq_false rfl)) (fun _ => ?_); conv => whnf)
      | (refine SBool.mk (fun h => ?_) (fun h => ?_) <;> conv => whnf)
      | (refine SEx.mk _ (by first | exact rfl | exact ⟨of_decide_eq_true rfl, rfl⟩) ?_; conv => whnf)
      | (refine SAll.mk (fun _ => ?_); conv => whnf)
      | (refine SAnd.mk ⟨by intro c hc; simp at hc; first | (subst hc; rfl) | ((repeat' (rcases hc with rfl | hc)) <;> first | rfl | (subst hc; rfl)), by (simp; first | done | omega), by (simp; first | done | omega)⟩ ?_; conv => whnf)
      | (refine SAnd.mk (by first | exact rfl | kernel_rfl | omega | decide) ?_; conv => whnf)
      | fail)
    refine ⟨AWp.le (t := ⟨[(19, .clo 175 [.box 4 0]), (5, .box 3 0), (4, .box 2 0), (3, .box 1 0), (2, .box 0 0)], [(4, (9, [St s])), (2, (29, [I 0])), (1, (3, [I 0])), (0, (70, [nilS]))], [(5, (32, 6, []))], 6, [], [(3, .hold g5 70 (.own 5))], []⟩) ?_ ?_⟩
    · refine SLe.rowH 3 32 6 ?_
      conv => whnf
      skip
      · refine SLe.ofO [(4, 4), (2, 2), (1, 1), (0, 0), (3, 3)] [(5, 5)] [(3, 3)] rfl rfl rfl ?_
        conv => whnf
        repeat' (first
        | exact True.intro
        | (refine SAnd.mk (PLe.of_eq (by simp only [wrapK]; rw [wrap_id (by first | omega | (simp only; done) | (simp only; omega) | simp) (by first | omega | (simp only; done) | (simp only; omega) | simp)]; simp)) ?_; conv => whnf)
        | (refine SAnd.mk (PLe.refl _) ?_; conv => whnf)
        | (refine SAnd.mk (PLeL.refl _) ?_; conv => whnf)
        | (refine SAnd.mk (PLe.of_eq (by simp)) ?_; conv => whnf)
        | (refine SAnd.mk rfl ?_; conv => whnf)
        | (refine SAnd.mk ⟨rfl, rfl⟩ ?_; conv => whnf)
        | (refine SAnd.mk ⟨rfl, rfl, rfl⟩ ?_; conv => whnf))
    · refine AWp.post (AWp.rangeF rfl ?_)
      conv => whnf
      intro gd gl L hLp hLa hLb
      refine ACall.inline good [] (fn := Tryz.f175) (by kernel_rfl) (by kernel_rfl) rfl rfl (by kernel_rfl) rfl (by kernel_rfl) ?_
      conv => whnf
      refine ⟨AWp.loop (ι := { p : PI // p.r.length + 1 ≤ p.n ∧ p.out.length + p.r.length ≤ 4096 ∧ parseF p.n p.r p.out = parseF (s.size + 1) s.data.toList [] }) (fun p => ⟨[(0, .p (.v (.func (.yield gl) #[] #[]))), (1, .box 4 0)], [(4, (9, [St ⟨p.1.r.toArray⟩])), (2, (29, [I 0])), (1, (3, [I 0])), (0, (70, [nilS]))], [(5, (32, 6, cellsG p.1.out))], 8, [(19, .clo 175 [.box 4 0]), (5, .box 3 0), (4, .box 2 0), (3, .box 1 0), (2, .box 0 0)], [(7, .loop gl .ready Tryz.f64.ntmps [(19, .clo 175 [.box 4 0]), (5, .box 3 0), (4, .box 2 0), (3, .box 1 0), (2, .box 0 0)] L), (6, .dfr gd), (3, .hold g5 70 (.own 5))], []⟩) (fun p => p.1.n) ⟨⟨s.size + 1, s.data.toList, []⟩, Nat.le_of_eq (congrArg (· + 1) hsl), by show 0 + s.data.toList.length ≤ 4096; rw [hsl]; omega, rfl⟩ ?_ ?_⟩
      · skip
        · refine SLe.ofO [(4, 4), (2, 2), (1, 1), (0, 0), (3, 3)] [(5, 5)] [(7, 7), (6, 6), (3, 3)] rfl rfl rfl ?_
          conv => whnf
          repeat' (first
          | exact True.intro
          | (refine SAnd.mk (PLe.of_eq (by simp only [wrapK]; rw [wrap_id (by first | omega | (simp only; done) | (simp only; omega) | simp) (by first | omega | (simp only; done) | (simp only; omega) | simp)]; simp)) ?_; conv => whnf)
          | (refine SAnd.mk (PLe.refl _) ?_; conv => whnf)
          | (refine SAnd.mk (PLeL.refl _) ?_; conv => whnf)
          | (refine SAnd.mk (PLe.of_eq (by simp)) ?_; conv => whnf)
          | (refine SAnd.mk rfl ?_; conv => whnf)
          | (refine SAnd.mk ⟨rfl, rfl⟩ ?_; conv => whnf)
          | (refine SAnd.mk ⟨rfl, rfl, rfl⟩ ?_; conv => whnf))
      · rintro ⟨⟨n, r, out⟩, hn, hlen, hpf⟩
        simp only at hn hlen hpf
        have hix := indexByte_pure (m := m) ⟨r.toArray⟩ 10
        have e10 : (10 : Int).toNat.toUInt8 = 10 := rfl
        have ert : (⟨r.toArray⟩ : ByteArray).data.toList = r := by simp
        have hrs : (⟨r.toArray⟩ : ByteArray).size = r.length := by simp [ByteArray.size]
        rw [e10, ert] at hix
        refine .seq (codeK_sound good (mu := []) ?_)
        conv => whnf
        refine SBool.mk (fun h => ?_) (fun h => ?_)
        · have hr0 : 0 < r.length := by
            have h' : (0 : Int) < ((⟨r.toArray⟩ : ByteArray).size : Int) := h
            rw [hrs] at h'
            omega
          conv => whnf
          refine .block (.seq (codeK_sound good (mu := []) ?_))
          conv => whnf
          refine AWp.mid ⟨[(0, .p (.v (.func (.yield gl) #[] #[]))), (1, .box 4 0), (3, .p (St ⟨(r.take (cutLine r)).toArray⟩))], [(4, (9, [St ⟨(r.drop (cutLine r)).toArray⟩])), (2, (29, [I 0])), (1, (3, [I 0])), (0, (70, [nilS]))], [(5, (32, 6, cellsG out))], 8, [(19, .clo 175 [.box 4 0]), (5, .box 3 0), (4, .box 2 0), (3, .box 1 0), (2, .box 0 0)], [(7, .loop gl .ready Tryz.f64.ntmps [(19, .clo 175 [.box 4 0]), (5, .box 3 0), (4, .box 2 0), (3, .box 1 0), (2, .box 0 0)] L), (6, .dfr gd), (3, .hold g5 70 (.own 5))], []⟩ ?_ ?_
          · refine codeK_sound good (mu := []) ?_
            conv => whnf
            repeat' (first
              | (refine codeK_sound good (mu := []) ?_; conv => whnf)
              | ((first | rw [wl0] | rw [wl1] | rw [wl2] | rw [wl3] | rw [wl4] | rw [wl5]); conv => whnf)
              | (refine SBool.mk (fun _ => ?_) (fun h => absurd (of_decide_eq_true rfl) h); conv => whnf)
              | (refine SBool.mk (fun h => absurd h (of_decide_eq_false rfl)) (fun _ => ?_); conv => whnf)
              | (refine SBool.mk (fun h => ?_) (fun h => ?_) <;> conv => whnf)
              | (refine SEx.mk _ (by first | exact rfl | exact ⟨of_decide_eq_true rfl, rfl⟩) ?_; conv => whnf)
              | (refine SAll.mk (fun _ => ?_); conv => whnf)
              | (refine SAnd.mk ⟨by intro c hc; simp at hc; first | (subst hc; rfl) | ((repeat' (rcases hc with rfl | hc)) <;> first | rfl | (subst hc; rfl)), by (simp; first | done | omega), by (simp; first | done | omega)⟩ ?_; conv => whnf)
              | (refine SAnd.mk (by first | exact rfl | kernel_rfl | omega | decide) ?_; conv => whnf)
              | fail)
            refine SRound.of good [] (n := 7) (ps := [20]) rfl hLp hLa hLb ?_
            clear hLp hLa hLb
            conv => whnf
            refine SAnd.mk rfl ?_
            conv => whnf
            obtain ⟨t, ht⟩ : ∃ t, t = r.take (cutLine r) := ⟨_, rfl⟩
            rw [← ht]
            have htl : t.length ≤ 4096 := by rw [ht, List.length_take]; omega
            have hcs := cutSuffix_pure (m := m) ⟨t.toArray⟩ ⟨#[10]⟩ (by simp [ByteArray.size]; omega)
            have ett : (⟨t.toArray⟩ : ByteArray).data.toList = t := by simp
            have e10' : (⟨#[10]⟩ : ByteArray).data.toList = [10] := rfl
            rw [ett, e10'] at hcs
            obtain ⟨body, hbody⟩ : ∃ body, body = Lib.trimSuffix t [10] := ⟨_, rfl⟩
            obtain ⟨ended, hend⟩ : ∃ ended, ended = Lib.hasSuffix t [10] := ⟨_, rfl⟩
            rw [← hbody, ← hend] at hcs
            have hbl : body.length ≤ 4096 := by
              rw [hbody]
              unfold Lib.trimSuffix
              split
              · rw [List.length_take]; omega
              · exact htl
            have hsp := split_pure (m := m) ⟨body.toArray⟩ ⟨#[32]⟩ (by simp [ByteArray.size]; omega) (by decide)
            have hwv : Lib.splitB ⟨#[32]⟩ 0 (Lib.countB ⟨body.toArray⟩ ⟨#[32]⟩) ⟨body.toArray⟩ = wordsV body := rfl
            rw [hwv] at hsp
            obtain ⟨w0, wt, hw⟩ : ∃ w0 wt, wordsV body = w0 :: wt := by
              have hl := Lib.splitB_all ⟨#[32]⟩ (by decide) 0 _ ⟨body.toArray⟩ rfl
              rw [hwv] at hl
              cases hc : wordsV body with
              | nil => rw [hc] at hl; simp at hl
              | cons a b => exact ⟨a, b, rfl⟩
            rw [hw] at hsp
            refine codeK_sound goodQ (mu := [31, 33]) ?_
            have hone : (0 : Int) ≤ 1 ∧ (1 : Int) ≤ ((cellsS (w0 :: wt)).length : Int) := ⟨by omega, by simp; omega⟩
            conv => whnf
            repeat' (first
              | (refine codeK_sound good (mu := [31, 33]) ?_; conv => whnf)
              | ((first | rw [wl0] | rw [wl1] | rw [wl2] | rw [wl3] | rw [wl4] | rw [wl5]); conv => whnf)
              | (refine SBool.mk (fun _ => ?_) (fun h => absurd (of_decide_eq_true rfl) h); conv => whnf)
              | (refine SBool.mk (fun h => absurd h (of_decide_eq_false rfl)) (fun _ => ?_); conv => whnf)
              | (refine SBool.mk (fun h => ?_) (fun h => ?_) <;> conv => whnf)
              | (refine SEx.mk _ (by first | exact upQ hcs | exact upQ hsp | exact hone) ?_; conv => whnf)
              | (refine SEx.mk _ (by first | exact rfl | exact ⟨of_decide_eq_true rfl, rfl⟩) ?_; conv => whnf)
              | (refine SAll.mk (fun _ => ?_); conv => whnf)
              | (refine SAnd.mk (by first | exact hone) ?_; conv => whnf)
              | (refine SAnd.mk ⟨by intro c hc; simp at hc; first | (subst hc; rfl) | ((repeat' (rcases hc with rfl | hc)) <;> first | rfl | (subst hc; rfl)), by (simp; first | done | omega), by (simp; first | done | omega)⟩ ?_; conv => whnf)
              | (refine SAnd.mk (by first | exact rfl | kernel_rfl | omega | decide | exact upQ hcs | exact upQ hsp | exact hone) ?_; conv => whnf)
              | fail)
            refine ⟨AWp.le (t := ⟨[(34, .p (I 0)), (12, .box 9 0), (11, .bnd 142 [.box 8 0]), (10, .box 8 0), (9, .p (.seq 1 (cellsS (w0 :: wt)))), (8, .p (Bo ended)), (5, .box 3 0), (4, .box 2 0), (3, .box 1 0), (2, .box 0 0)], [(9, (203, [I 0, I 0, I 0, I 0, I 0, I 0])), (8, (202, [.seq 1 (cellsS wt), Bo false])), (4, (9, [St ⟨(r.drop (cutLine r)).toArray⟩])), (2, (29, [I 0])), (1, (3, [I 0])), (0, (70, [nilS]))], [(5, (32, 6, cellsG out))], 10, [(0, .p (.v (.func (.yield gl) #[] #[]))), (1, .box 4 0), (3, .p (St ⟨t.toArray⟩)), (Tryz.f175.ntmps + 19, .clo 175 [.box 4 0]), (Tryz.f175.ntmps + 5, .box 3 0), (Tryz.f175.ntmps + 4, .box 2 0), (Tryz.f175.ntmps + 3, .box 1 0), (Tryz.f175.ntmps + 2, .box 0 0)], [(7, .loop gl .busy Tryz.f64.ntmps [(19, .clo 175 [.box 4 0]), (5, .box 3 0), (4, .box 2 0), (3, .box 1 0), (2, .box 0 0)] L), (6, .dfr gd), (3, .hold g5 70 (.own 5))], []⟩) ?_ (AWp.post ((takes (m := m) (gd := gd) (gl := gl) (g5 := g5) (L := L) (W := .seq 1 (cellsS (w0 :: wt))) (T := St ⟨t.toArray⟩) (R := St ⟨(r.drop (cutLine r)).toArray⟩) (O := cellsG out) (ended := ended) (wt, false)).mono ?_))⟩
            · skip
              · refine SLe.ofO [(9, 9), (8, 8), (4, 4), (2, 2), (1, 1), (0, 0), (3, 3)] [(5, 5)] [(7, 7), (6, 6), (3, 3)] rfl rfl rfl ?_
                conv => whnf
                repeat' (first
                | exact True.intro
                | (refine SAnd.mk (PLe.of_eq (by simp only [wrapK]; rw [wrap_id (by first | omega | (simp only; done) | (simp only; omega) | simp) (by first | omega | (simp only; done) | (simp only; omega) | simp)]; simp)) ?_; conv => whnf)
                | (refine SAnd.mk (PLe.refl _) ?_; conv => whnf)
                | (refine SAnd.mk (PLeL.refl _) ?_; conv => whnf)
                | (refine SAnd.mk (PLe.of_eq (by simp)) ?_; conv => whnf)
                | (refine SAnd.mk rfl ?_; conv => whnf)
                | (refine SAnd.mk ⟨rfl, rfl⟩ ?_; conv => whnf)
                | (refine SAnd.mk ⟨rfl, rfl, rfl⟩ ?_; conv => whnf))
            · rintro e s' h
              rcases e with _ | _ | i
              · exact h.elim
              · exact h.elim
              rcases i with _ | _ | _ | i
              · exact h.elim
              · exact h.elim
              · refine ⟨⟨[(34, .p (I 3)), (12, .box 9 0), (11, .bnd 142 [.box 8 0]), (10, .box 8 0), (9, .p (.seq 1 (cellsS (w0 :: wt)))), (8, .p (Bo ended)), (5, .box 3 0), (4, .box 2 0), (3, .box 1 0), (2, .box 0 0)], [(9, (203, [I (tkN (wt, false) 0), I (tkN (wt, false) 1), I (tkN (wt, false) 2), I (tkN (wt, false) 3), I (tkN (wt, false) 4), I (tkN (wt, false) 5)])), (8, (202, [.seq 1 (cellsS (tkS (wt, false) 6).1), Bo (tkS (wt, false) 6).2])), (4, (9, [St ⟨(r.drop (cutLine r)).toArray⟩])), (2, (29, [I 0])), (1, (3, [I 0])), (0, (70, [nilS]))], [(5, (32, 6, cellsG out))], 10, [(0, .p (.v (.func (.yield gl) #[] #[]))), (1, .box 4 0), (3, .p (St ⟨t.toArray⟩)), (Tryz.f175.ntmps + 19, .clo 175 [.box 4 0]), (Tryz.f175.ntmps + 5, .box 3 0), (Tryz.f175.ntmps + 4, .box 2 0), (Tryz.f175.ntmps + 3, .box 1 0), (Tryz.f175.ntmps + 2, .box 0 0)], [(7, .loop gl .busy Tryz.f64.ntmps [(19, .clo 175 [.box 4 0]), (5, .box 3 0), (4, .box 2 0), (3, .box 1 0), (2, .box 0 0)] L), (6, .dfr gd), (3, .hold g5 70 (.own 5))], []⟩, h, ?_⟩
                clear h
                have hbad : lineOk t = false → parseV s = ([], (out.length : Int), 25) := fun hno => by
                  unfold parseV
                  rw [if_neg (by omega), ← hpf]
                  obtain ⟨n, rfl⟩ : ∃ k, n = k + 1 := ⟨n - 1, by omega⟩
                  cases r with
                  | nil => simp at hr0
                  | cons c r =>
                    unfold parseF
                    rw [← ht, hno]
                    rfl
                have hmem : t = r.take (cutLine r) := ht
                cases ended
                · skip
                  have hno : lineOk t = false := by
                    unfold lineOk
                    rw [← hbody, ← hend, hw]
                    rfl
                  have hpv := hbad hno
                  conv => whnf
                  repeat' (first
                    | (refine codeK_sound good (mu := []) ?_; conv => whnf)
                    | ((first | rw [wl0] | rw [wl1] | rw [wl2] | rw [wl3] | rw [wl4] | rw [wl5]); conv => whnf)
                    | (refine SBool.mk (fun _ => ?_) (fun h => absurd (of_decide_eq_true rfl) h); conv => whnf)
                    | (refine SBool.mk (fun h => absurd h (of_decide_eq_false rfl)) (fun _ => ?_); conv => whnf)
                    | (refine SBool.mk (fun h => ?_) (fun h => ?_) <;> conv => whnf)
                    | (refine SEx.mk _ (by first | exact neq_string _ _ _ | exact hIn0 _ _) ?_; conv => whnf)
                    | (refine SEx.mk _ (by first | exact rfl | exact ⟨of_decide_eq_true rfl, rfl⟩) ?_; conv => whnf)
                    | (refine SAll.mk (fun _ => ?_); conv => whnf)
                    | (refine SAnd.mk ⟨by intro c hc; simp at hc; first | (subst hc; rfl) | ((repeat' (rcases hc with rfl | hc)) <;> first | rfl | (subst hc; rfl)), by (simp; first | done | omega), by (simp; first | done | omega)⟩ ?_; conv => whnf)
                    | (refine SAnd.mk (by first | exact rfl | kernel_rfl | omega | decide | exact neq_string _ _ _ | exact hIn0 _ _) ?_; conv => whnf)
                    | fail)
                  refine ⟨⟨[(4, .box 2 0), (3, .box 1 0), (2, .box 0 0)], [(2, (29, [I 25])), (1, (3, [I (((cellsG out).length : Nat) : Int)])), (0, (70, [nilS]))], [], 8, [], [(6, .dfr gd)], [gd]⟩, ?_, ?_⟩
                  · skip
                    · refine SLe.ofO [(2, 2), (1, 1), (0, 0)] [] [(6, 6)] rfl rfl rfl ?_
                      conv => whnf
                      repeat' (first
                      | exact True.intro
                      | (refine SAnd.mk (PLe.of_eq (by simp only [wrapK]; rw [wrap_id (by first | omega | (simp only; done) | (simp only; omega) | simp) (by first | omega | (simp only; done) | (simp only; omega) | simp)]; simp)) ?_; conv => whnf)
                      | (refine SAnd.mk (PLe.refl _) ?_; conv => whnf)
                      | (refine SAnd.mk (PLeL.refl _) ?_; conv => whnf)
                      | (refine SAnd.mk (PLe.of_eq (by simp)) ?_; conv => whnf)
                      | (refine SAnd.mk rfl ?_; conv => whnf)
                      | (refine SAnd.mk ⟨rfl, rfl⟩ ?_; conv => whnf)
                      | (refine SAnd.mk ⟨rfl, rfl, rfl⟩ ?_; conv => whnf))
                  · skip
                    conv => whnf
                    repeat' (first
                      | (refine codeK_sound good (mu := []) ?_; conv => whnf)
                      | ((first | rw [wl0] | rw [wl1] | rw [wl2] | rw [wl3] | rw [wl4] | rw [wl5]); conv => whnf)
                      | (refine SBool.mk (fun _ => ?_) (fun h => absurd (of_decide_eq_true rfl) h); conv => whnf)
                      | (refine SBool.mk (fun h => absurd h (of_decide_eq_false rfl)) (fun _ => ?_); conv => whnf)
                      | (refine SBool.mk (fun h => ?_) (fun h => ?_) <;> conv => whnf)
                      | (refine SEx.mk _ (by first | exact rfl | exact ⟨of_decide_eq_true rfl, rfl⟩) ?_; conv => whnf)
                      | (refine SAll.mk (fun _ => ?_); conv => whnf)
                      | (refine SAnd.mk ⟨by intro c hc; simp at hc; first | (subst hc; rfl) | ((repeat' (rcases hc with rfl | hc)) <;> first | rfl | (subst hc; rfl)), by (simp; first | done | omega), by (simp; first | done | omega)⟩ ?_; conv => whnf)
                      | (refine SAnd.mk (by first | exact rfl | kernel_rfl | omega | decide) ?_; conv => whnf)
                      | fail)
                    exact ⟨PLe.of_eq (by rw [hpv]; simp [cellsG])⟩
                · by_cases hw0 : w0 = bSignal
                  · subst hw0
                    obtain ⟨st6, hst6⟩ : ∃ st6, st6 = tkS (wt, false) 6 := ⟨_, rfl⟩
                    rw [← hst6]
                    obtain ⟨ws6, wr6⟩ := st6
                    cases wr6
                    · rcases ws6 with _ | ⟨c6, ws6⟩
                      · have hyes : lineOk t = true := by
                          unfold lineOk
                          rw [← hbody, ← hend, hw]
                          simp [← hst6]
                        have hsg : lineSg t = sgOf (wt, false) := by
                          unfold lineSg
                          rw [← hbody, hw]
                          rfl
                        have hone6 : ∀ c ∈ [[I (tkN (wt, false) 0), I (tkN (wt, false) 1), I (tkN (wt, false) 2), I (tkN (wt, false) 3), I (tkN (wt, false) 4), I (tkN (wt, false) 5)]].flatten, c.one = true := by
                          intro c hc
                          simp only [List.flatten_cons, List.flatten_nil, List.append_nil, List.mem_cons, List.not_mem_nil, or_false] at hc
                          rcases hc with h | h | h | h | h | h
                          all_goals (rw [h]; rfl)
                        have happ : (∀ c ∈ [[I (tkN (wt, false) 0), I (tkN (wt, false) 1), I (tkN (wt, false) 2), I (tkN (wt, false) 3), I (tkN (wt, false) 4), I (tkN (wt, false) 5)]].flatten, c.one = true) ∧ ((cellsG out).length + 1) * 48 ≤ 140737488355328 ∧ (cellsG out).length + 1 ≤ 9223372036854775807 := by
                          refine ⟨hone6, ?_, ?_⟩
                          · simp; omega
                          · simp; omega
                        conv => whnf
                        repeat' (first
                          | (refine codeK_sound good (mu := []) ?_; conv => whnf)
                          | ((first | rw [wl0] | rw [wl1] | rw [wl2] | rw [wl3] | rw [wl4] | rw [wl5]); conv => whnf)
                          | (refine SBool.mk (fun _ => ?_) (fun h => absurd (of_decide_eq_true rfl) h); conv => whnf)
                          | (refine SBool.mk (fun h => absurd h (of_decide_eq_false rfl)) (fun _ => ?_); conv => whnf)
                          | (refine SBool.mk (fun h => ?_) (fun h => ?_) <;> conv => whnf)
                          | (refine SEx.mk _ (by first | exact neq_string _ _ _ | exact hIn0 _ _ | exact happ) ?_; conv => whnf)
                          | (refine SEx.mk _ (by first | exact rfl | exact ⟨of_decide_eq_true rfl, rfl⟩) ?_; conv => whnf)
                          | (refine SAll.mk (fun _ => ?_); conv => whnf)
                          | (refine SAnd.mk (by first | exact happ) ?_; conv => whnf)
                          | (refine SAnd.mk ⟨by intro c hc; simp at hc; first | (subst hc; rfl) | ((repeat' (rcases hc with rfl | hc)) <;> first | rfl | (subst hc; rfl)), by (simp; first | done | omega), by (simp; first | done | omega)⟩ ?_; conv => whnf)
                          | (refine SAnd.mk (by first | exact rfl | kernel_rfl | omega | decide | exact neq_string _ _ _ | exact hIn0 _ _ | exact happ) ?_; conv => whnf)
                          | fail)
                        have hcut1 : 1 ≤ cutLine r := by unfold cutLine; split <;> omega
                        have hdl : (r.drop (cutLine r)).length + 1 ≤ r.length := by rw [List.length_drop]; omega
                        have hgo : parseF (n - 1) (r.drop (cutLine r)) (out ++ [sgOf (wt, false)]) = parseF (s.size + 1) s.data.toList [] := by
                          rw [← hpf]
                          obtain ⟨n, rfl⟩ : ∃ k, n = k + 1 := ⟨n - 1, by omega⟩
                          cases r with
                          | nil => simp at hr0
                          | cons c r =>
                            conv => rhs; unfold parseF
                            rw [← ht, hyes, hsg]
                            rfl
                        refine ⟨⟨⟨n - 1, r.drop (cutLine r), out ++ [sgOf (wt, false)]⟩, by simp only; omega, by simp only [List.length_append, List.length_cons, List.length_nil]; omega, hgo⟩, by simp only; omega, ?_⟩
                        skip
                        · refine SLe.ofO [(4, 4), (2, 2), (1, 1), (0, 0), (3, 3)] [(5, 10)] [(7, 7), (6, 6), (3, 3)] rfl rfl rfl ?_
                          conv => whnf
                          repeat' (first
                          | exact True.intro
                          | (refine SAnd.mk (show _ = (_ : List (List PV)) from by simp [cellsG, sgOf]) ?_; conv => whnf)
                          | (refine SAnd.mk (PLe.of_eq (by simp only [wrapK]; rw [wrap_id (by first | omega | (simp only; done) | (simp only; omega) | simp) (by first | omega | (simp only; done) | (simp only; omega) | simp)]; simp)) ?_; conv => whnf)
                          | (refine SAnd.mk (PLe.refl _) ?_; conv => whnf)
                          | (refine SAnd.mk (PLeL.refl _) ?_; conv => whnf)
                          | (refine SAnd.mk (PLe.of_eq (by simp)) ?_; conv => whnf)
                          | (refine SAnd.mk rfl ?_; conv => whnf)
                          | (refine SAnd.mk ⟨rfl, rfl⟩ ?_; conv => whnf)
                          | (refine SAnd.mk ⟨rfl, rfl, rfl⟩ ?_; conv => whnf))
                      · skip
                        have hno : lineOk t = false := by
                          unfold lineOk
                          rw [← hbody, ← hend, hw]
                          simp [← hst6]
                        have hpv := hbad hno
                        have hlen6 : (0 : Int) < (((cellsS (c6 :: ws6)).length : Nat) : Int) := by simp only [List.length_map, List.length_cons]; omega
                        conv => whnf
                        repeat' (first
                          | (refine codeK_sound good (mu := []) ?_; conv => whnf)
                          | ((first | rw [wl0] | rw [wl1] | rw [wl2] | rw [wl3] | rw [wl4] | rw [wl5]); conv => whnf)
                          | (refine SBool.mk (fun _ => ?_) (fun h => absurd (of_decide_eq_true rfl) h); conv => whnf)
                          | (refine SBool.mk (fun h => absurd h (of_decide_eq_false rfl)) (fun _ => ?_); conv => whnf)
                          | (refine SBool.mk (fun h => ?_) (fun h => ?_) <;> conv => whnf)
                          | (refine SEx.mk _ (by first | exact neq_string _ _ _ | exact hIn0 _ _) ?_; conv => whnf)
                          | (refine SEx.mk _ (by first | exact rfl | exact ⟨of_decide_eq_true rfl, rfl⟩) ?_; conv => whnf)
                          | (refine SAll.mk (fun _ => ?_); conv => whnf)
                          | (refine SAnd.mk ⟨by intro c hc; simp at hc; first | (subst hc; rfl) | ((repeat' (rcases hc with rfl | hc)) <;> first | rfl | (subst hc; rfl)), by (simp; first | done | omega), by (simp; first | done | omega)⟩ ?_; conv => whnf)
                          | (refine SAnd.mk (by first | exact rfl | kernel_rfl | omega | decide | exact neq_string _ _ _ | exact hIn0 _ _) ?_; conv => whnf)
                          | fail)
                        · refine ⟨⟨[(4, .box 2 0), (3, .box 1 0), (2, .box 0 0)], [(2, (29, [I 25])), (1, (3, [I (((cellsG out).length : Nat) : Int)])), (0, (70, [nilS]))], [], 8, [], [(6, .dfr gd)], [gd]⟩, ?_, ?_⟩
                          · skip
                            · refine SLe.ofO [(2, 2), (1, 1), (0, 0)] [] [(6, 6)] rfl rfl rfl ?_
                              conv => whnf
                              repeat' (first
                              | exact True.intro
                              | (refine SAnd.mk (PLe.of_eq (by simp only [wrapK]; rw [wrap_id (by first | omega | (simp only; done) | (simp only; omega) | simp) (by first | omega | (simp only; done) | (simp only; omega) | simp)]; simp)) ?_; conv => whnf)
                              | (refine SAnd.mk (PLe.refl _) ?_; conv => whnf)
                              | (refine SAnd.mk (PLeL.refl _) ?_; conv => whnf)
                              | (refine SAnd.mk (PLe.of_eq (by simp)) ?_; conv => whnf)
                              | (refine SAnd.mk rfl ?_; conv => whnf)
                              | (refine SAnd.mk ⟨rfl, rfl⟩ ?_; conv => whnf)
                              | (refine SAnd.mk ⟨rfl, rfl, rfl⟩ ?_; conv => whnf))
                          · skip
                            conv => whnf
                            repeat' (first
                              | (refine codeK_sound good (mu := []) ?_; conv => whnf)
                              | ((first | rw [wl0] | rw [wl1] | rw [wl2] | rw [wl3] | rw [wl4] | rw [wl5]); conv => whnf)
                              | (refine SBool.mk (fun _ => ?_) (fun h => absurd (of_decide_eq_true rfl) h); conv => whnf)
                              | (refine SBool.mk (fun h => absurd h (of_decide_eq_false rfl)) (fun _ => ?_); conv => whnf)
                              | (refine SBool.mk (fun h => ?_) (fun h => ?_) <;> conv => whnf)
                              | (refine SEx.mk _ (by first | exact rfl | exact ⟨of_decide_eq_true rfl, rfl⟩) ?_; conv => whnf)
                              | (refine SAll.mk (fun _ => ?_); conv => whnf)
                              | (refine SAnd.mk ⟨by intro c hc; simp at hc; first | (subst hc; rfl) | ((repeat' (rcases hc with rfl | hc)) <;> first | rfl | (subst hc; rfl)), by (simp; first | done | omega), by (simp; first | done | omega)⟩ ?_; conv => whnf)
                              | (refine SAnd.mk (by first | exact rfl | kernel_rfl | omega | decide) ?_; conv => whnf)
                              | fail)
                            exact ⟨PLe.of_eq (by rw [hpv]; simp [cellsG])⟩
                        · exact absurd hlen6 h
                    · skip
                      have hno : lineOk t = false := by
                        unfold lineOk
                        rw [← hbody, ← hend, hw]
                        simp [← hst6]
                      have hpv := hbad hno
                      conv => whnf
                      repeat' (first
                        | (refine codeK_sound good (mu := []) ?_; conv => whnf)
                        | ((first | rw [wl0] | rw [wl1] | rw [wl2] | rw [wl3] | rw [wl4] | rw [wl5]); conv => whnf)
                        | (refine SBool.mk (fun _ => ?_) (fun h => absurd (of_decide_eq_true rfl) h); conv => whnf)
                        | (refine SBool.mk (fun h => absurd h (of_decide_eq_false rfl)) (fun _ => ?_); conv => whnf)
                        | (refine SBool.mk (fun h => ?_) (fun h => ?_) <;> conv => whnf)
                        | (refine SEx.mk _ (by first | exact neq_string _ _ _ | exact hIn0 _ _) ?_; conv => whnf)
                        | (refine SEx.mk _ (by first | exact rfl | exact ⟨of_decide_eq_true rfl, rfl⟩) ?_; conv => whnf)
                        | (refine SAll.mk (fun _ => ?_); conv => whnf)
                        | (refine SAnd.mk ⟨by intro c hc; simp at hc; first | (subst hc; rfl) | ((repeat' (rcases hc with rfl | hc)) <;> first | rfl | (subst hc; rfl)), by (simp; first | done | omega), by (simp; first | done | omega)⟩ ?_; conv => whnf)
                        | (refine SAnd.mk (by first | exact rfl | kernel_rfl | omega | decide | exact neq_string _ _ _ | exact hIn0 _ _) ?_; conv => whnf)
                        | fail)
                      refine ⟨⟨[(4, .box 2 0), (3, .box 1 0), (2, .box 0 0)], [(2, (29, [I 25])), (1, (3, [I (((cellsG out).length : Nat) : Int)])), (0, (70, [nilS]))], [], 8, [], [(6, .dfr gd)], [gd]⟩, ?_, ?_⟩
                      · skip
                        · refine SLe.ofO [(2, 2), (1, 1), (0, 0)] [] [(6, 6)] rfl rfl rfl ?_
                          conv => whnf
                          repeat' (first
                          | exact True.intro
                          | (refine SAnd.mk (PLe.of_eq (by simp only [wrapK]; rw [wrap_id (by first | omega | (simp only; done) | (simp only; omega) | simp) (by first | omega | (simp only; done) | (simp only; omega) | simp)]; simp)) ?_; conv => whnf)
                          | (refine SAnd.mk (PLe.refl _) ?_; conv => whnf)
                          | (refine SAnd.mk (PLeL.refl _) ?_; conv => whnf)
                          | (refine SAnd.mk (PLe.of_eq (by simp)) ?_; conv => whnf)
                          | (refine SAnd.mk rfl ?_; conv => whnf)
                          | (refine SAnd.mk ⟨rfl, rfl⟩ ?_; conv => whnf)
                          | (refine SAnd.mk ⟨rfl, rfl, rfl⟩ ?_; conv => whnf))
                      · skip
                        conv => whnf
                        repeat' (first
                          | (refine codeK_sound good (mu := []) ?_; conv => whnf)
                          | ((first | rw [wl0] | rw [wl1] | rw [wl2] | rw [wl3] | rw [wl4] | rw [wl5]); conv => whnf)
                          | (refine SBool.mk (fun _ => ?_) (fun h => absurd (of_decide_eq_true rfl) h); conv => whnf)
                          | (refine SBool.mk (fun h => absurd h (of_decide_eq_false rfl)) (fun _ => ?_); conv => whnf)
                          | (refine SBool.mk (fun h => ?_) (fun h => ?_) <;> conv => whnf)
                          | (refine SEx.mk _ (by first | exact rfl | exact ⟨of_decide_eq_true rfl, rfl⟩) ?_; conv => whnf)
                          | (refine SAll.mk (fun _ => ?_); conv => whnf)
                          | (refine SAnd.mk ⟨by intro c hc; simp at hc; first | (subst hc; rfl) | ((repeat' (rcases hc with rfl | hc)) <;> first | rfl | (subst hc; rfl)), by (simp; first | done | omega), by (simp; first | done | omega)⟩ ?_; conv => whnf)
                          | (refine SAnd.mk (by first | exact rfl | kernel_rfl | omega | decide) ?_; conv => whnf)
                          | fail)
                        exact ⟨PLe.of_eq (by rw [hpv]; simp [cellsG])⟩
                  · skip
                    have hno : lineOk t = false := by
                      unfold lineOk
                      rw [← hbody, ← hend, hw]
                      simp [hw0]
                    have hpv := hbad hno
                    have hneq : ∀ w, (binOp .neq 9 (.string w0) (.string ⟨#[115, 105, 103, 110, 97, 108]⟩)).run (CQ m).P w = .ok (.bool true) w := fun w => by
                      have := neq_string 9 w0 bSignal w
                      rw [show decide (w0 ≠ bSignal) = true from decide_eq_true hw0] at this
                      exact this
                    conv => whnf
                    repeat' (first
                      | (refine codeK_sound good (mu := []) ?_; conv => whnf)
                      | ((first | rw [wl0] | rw [wl1] | rw [wl2] | rw [wl3] | rw [wl4] | rw [wl5]); conv => whnf)
                      | (refine SBool.mk (fun _ => ?_) (fun h => absurd (of_decide_eq_true rfl) h); conv => whnf)
                      | (refine SBool.mk (fun h => absurd h (of_decide_eq_false rfl)) (fun _ => ?_); conv => whnf)
                      | (refine SBool.mk (fun h => ?_) (fun h => ?_) <;> conv => whnf)
                      | (refine SEx.mk _ (by first | exact hneq | exact hIn0 _ _) ?_; conv => whnf)
                      | (refine SEx.mk _ (by first | exact rfl | exact ⟨of_decide_eq_true rfl, rfl⟩) ?_; conv => whnf)
                      | (refine SAll.mk (fun _ => ?_); conv => whnf)
                      | (refine SAnd.mk (by first | exact hneq) ?_; conv => whnf)
                      | (refine SAnd.mk ⟨by intro c hc; simp at hc; first | (subst hc; rfl) | ((repeat' (rcases hc with rfl | hc)) <;> first | rfl | (subst hc; rfl)), by (simp; first | done | omega), by (simp; first | done | omega)⟩ ?_; conv => whnf)
                      | (refine SAnd.mk (by first | exact rfl | kernel_rfl | omega | decide | exact hneq | exact hIn0 _ _) ?_; conv => whnf)
                      | fail)
                    refine ⟨⟨[(4, .box 2 0), (3, .box 1 0), (2, .box 0 0)], [(2, (29, [I 25])), (1, (3, [I (((cellsG out).length : Nat) : Int)])), (0, (70, [nilS]))], [], 8, [], [(6, .dfr gd)], [gd]⟩, ?_, ?_⟩
                    · skip
                      · refine SLe.ofO [(2, 2), (1, 1), (0, 0)] [] [(6, 6)] rfl rfl rfl ?_
                        conv => whnf
                        repeat' (first
                        | exact True.intro
                        | (refine SAnd.mk (PLe.of_eq (by simp only [wrapK]; rw [wrap_id (by first | omega | (simp only; done) | (simp only; omega) | simp) (by first | omega | (simp only; done) | (simp only; omega) | simp)]; simp)) ?_; conv => whnf)
                        | (refine SAnd.mk (PLe.refl _) ?_; conv => whnf)
                        | (refine SAnd.mk (PLeL.refl _) ?_; conv => whnf)
                        | (refine SAnd.mk (PLe.of_eq (by simp)) ?_; conv => whnf)
                        | (refine SAnd.mk rfl ?_; conv => whnf)
                        | (refine SAnd.mk ⟨rfl, rfl⟩ ?_; conv => whnf)
                        | (refine SAnd.mk ⟨rfl, rfl, rfl⟩ ?_; conv => whnf))
                    · skip
                      conv => whnf
                      repeat' (first
                        | (refine codeK_sound good (mu := []) ?_; conv => whnf)
                        | ((first | rw [wl0] | rw [wl1] | rw [wl2] | rw [wl3] | rw [wl4] | rw [wl5]); conv => whnf)
                        | (refine SBool.mk (fun _ => ?_) (fun h => absurd (of_decide_eq_true rfl) h); conv => whnf)
                        | (refine SBool.mk (fun h => absurd h (of_decide_eq_false rfl)) (fun _ => ?_); conv => whnf)
                        | (refine SBool.mk (fun h => ?_) (fun h => ?_) <;> conv => whnf)
                        | (refine SEx.mk _ (by first | exact rfl | exact ⟨of_decide_eq_true rfl, rfl⟩) ?_; conv => whnf)
                        | (refine SAll.mk (fun _ => ?_); conv => whnf)
                        | (refine SAnd.mk ⟨by intro c hc; simp at hc; first | (subst hc; rfl) | ((repeat' (rcases hc with rfl | hc)) <;> first | rfl | (subst hc; rfl)), by (simp; first | done | omega), by (simp; first | done | omega)⟩ ?_; conv => whnf)
                        | (refine SAnd.mk (by first | exact rfl | kernel_rfl | omega | decide) ?_; conv => whnf)
                        | fail)
                      exact ⟨PLe.of_eq (by rw [hpv]; simp [cellsG])⟩
              · exact h.elim
          · clear hLp hLa hLb
            refine codeK_sound good (mu := []) ?_
            have hge := Lib.indexByte_ge r 10
            by_cases hi : 0 ≤ Lib.indexByte r 10
            · have hil := indexByte_lt hi
              have hcut : cutLine r = (Lib.indexByte r 10).toNat + 1 := by unfold cutLine; rw [if_neg (by omega)]
              have hw : wrapK IntKind.i64 (Lib.indexByte r 10 + 1) = ((cutLine r : Nat) : Int) := by
                rw [hcut, show ((((Lib.indexByte r 10).toNat + 1 : Nat)) : Int) = Lib.indexByte r 10 + 1 by omega]
                exact w64 (by omega)
              have hb1 : (0 : Int) ≤ ((cutLine r : Nat) : Int) ∧ ((cutLine r : Nat) : Int) ≤ ((⟨r.toArray⟩ : ByteArray).size : Int) := ⟨by omega, by rw [hrs]; omega⟩
              conv => whnf
              repeat' (first
                | (refine codeK_sound good (mu := []) ?_; conv => whnf)
                | ((first | rw [wl0] | rw [wl1] | rw [wl2] | rw [wl3] | rw [wl4] | rw [wl5]); conv => whnf)
                | (rw [hw]; conv => whnf)
                | (refine SBool.mk (fun _ => ?_) (fun h => absurd (of_decide_eq_true rfl) h); conv => whnf)
                | (refine SBool.mk (fun h => absurd h (of_decide_eq_false rfl)) (fun _ => ?_); conv => whnf)
                | (refine SBool.mk (fun h => ?_) (fun h => ?_) <;> conv => whnf)
                | (refine SEx.mk _ (by first | exact hix | exact hb1) ?_; conv => whnf)
                | (refine SEx.mk _ (by first | exact rfl | exact ⟨of_decide_eq_true rfl, rfl⟩) ?_; conv => whnf)
                | (refine SAll.mk (fun _ => ?_); conv => whnf)
                | (refine SAnd.mk (by first | exact hix | exact hb1) ?_; conv => whnf)
                | (refine SAnd.mk ⟨by intro c hc; simp at hc; first | (subst hc; rfl) | ((repeat' (rcases hc with rfl | hc)) <;> first | rfl | (subst hc; rfl)), by (simp; first | done | omega), by (simp; first | done | omega)⟩ ?_; conv => whnf)
                | (refine SAnd.mk (by first | exact rfl | kernel_rfl | omega | decide | exact hix | exact hb1) ?_; conv => whnf)
                | fail)
              · skip
                · refine SLe.ofO [(4, 4), (2, 2), (1, 1), (0, 0), (3, 3)] [(5, 5)] [(7, 7), (6, 6), (3, 3)] rfl rfl rfl ?_
                  conv => whnf
                  repeat' (first
                  | exact True.intro
                  | (refine SAnd.mk (by rw [← ext_take r (cutLine r)]; exact PLe.refl _) ?_; conv => whnf)
                  | (refine SAnd.mk (by rw [← ext_drop r (cutLine r)]; exact PLeL.refl _) ?_; conv => whnf)
                  | (refine SAnd.mk (PLe.of_eq (by simp only [wrapK]; rw [wrap_id (by first | omega | (simp only; done) | (simp only; omega) | simp) (by first | omega | (simp only; done) | (simp only; omega) | simp)]; simp)) ?_; conv => whnf)
                  | (refine SAnd.mk (PLe.refl _) ?_; conv => whnf)
                  | (refine SAnd.mk (PLeL.refl _) ?_; conv => whnf)
                  | (refine SAnd.mk (PLe.of_eq (by simp)) ?_; conv => whnf)
                  | (refine SAnd.mk rfl ?_; conv => whnf)
                  | (refine SAnd.mk ⟨rfl, rfl⟩ ?_; conv => whnf)
                  | (refine SAnd.mk ⟨rfl, rfl, rfl⟩ ?_; conv => whnf))
              · exact absurd hi h
            · have hcut : cutLine r = r.length := by unfold cutLine; rw [if_pos (by omega)]
              conv => whnf
              repeat' (first
                | (refine codeK_sound good (mu := []) ?_; conv => whnf)
                | ((first | rw [wl0] | rw [wl1] | rw [wl2] | rw [wl3] | rw [wl4] | rw [wl5]); conv => whnf)
                | (refine SBool.mk (fun _ => ?_) (fun h => absurd (of_decide_eq_true rfl) h); conv => whnf)
                | (refine SBool.mk (fun h => absurd h (of_decide_eq_false rfl)) (fun _ => ?_); conv => whnf)
                | (refine SBool.mk (fun h => ?_) (fun h => ?_) <;> conv => whnf)
                | (refine SEx.mk _ (by first | exact hix) ?_; conv => whnf)
                | (refine SEx.mk _ (by first | exact rfl | exact ⟨of_decide_eq_true rfl, rfl⟩) ?_; conv => whnf)
                | (refine SAll.mk (fun _ => ?_); conv => whnf)
                | (refine SAnd.mk (by first | exact hix) ?_; conv => whnf)
                | (refine SAnd.mk ⟨by intro c hc; simp at hc; first | (subst hc; rfl) | ((repeat' (rcases hc with rfl | hc)) <;> first | rfl | (subst hc; rfl)), by (simp; first | done | omega), by (simp; first | done | omega)⟩ ?_; conv => whnf)
                | (refine SAnd.mk (by first | exact rfl | kernel_rfl | omega | decide | exact hix) ?_; conv => whnf)
                | fail)
              · exact absurd h hi
              · skip
                · refine SLe.ofO [(4, 4), (2, 2), (1, 1), (0, 0), (3, 3)] [(5, 5)] [(7, 7), (6, 6), (3, 3)] rfl rfl rfl ?_
                  conv => whnf
                  repeat' (first
                  | exact True.intro
                  | (refine SAnd.mk (by rw [hcut, List.take_length]; exact PLe.refl _) ?_; conv => whnf)
                  | (refine SAnd.mk (by rw [hcut, List.drop_length]; exact PLeL.refl _) ?_; conv => whnf)
                  | (refine SAnd.mk (PLe.of_eq (by simp only [wrapK]; rw [wrap_id (by first | omega | (simp only; done) | (simp only; omega) | simp) (by first | omega | (simp only; done) | (simp only; omega) | simp)]; simp)) ?_; conv => whnf)
                  | (refine SAnd.mk (PLe.refl _) ?_; conv => whnf)
                  | (refine SAnd.mk (PLeL.refl _) ?_; conv => whnf)
                  | (refine SAnd.mk (PLe.of_eq (by simp)) ?_; conv => whnf)
                  | (refine SAnd.mk rfl ?_; conv => whnf)
                  | (refine SAnd.mk ⟨rfl, rfl⟩ ?_; conv => whnf)
                  | (refine SAnd.mk ⟨rfl, rfl, rfl⟩ ?_; conv => whnf))
        · have hr0 : r = [] := by
            have h' : ¬ (0 : Int) < ((⟨r.toArray⟩ : ByteArray).size : Int) := h
            rw [hrs] at h'
            exact List.eq_nil_of_length_eq_zero (by omega)
          subst hr0
          have hpv : parseV s = if checkL out = 0 then (out, 0, 0) else ([], (out.length : Int), checkL out) := by
            unfold parseV
            rw [if_neg (by omega), ← hpf]
            obtain ⟨n, rfl⟩ : ∃ k, n = k + 1 := ⟨n - 1, by simp at hn; omega⟩
            rfl
          clear hLp hLa hLb
          conv => whnf
          refine SAnd.mk rfl ?_
          conv => whnf
          refine ⟨⟨[(5, .box 3 0), (4, .box 2 0), (3, .box 1 0), (2, .box 0 0)], [(2, (29, [I 0])), (1, (3, [I 0])), (0, (70, [nilS]))], [(5, (32, 6, cellsG out))], 8, [], [(6, .dfr gd), (3, .hold g5 70 (.own 5))], [gd]⟩, ?_, ?_⟩
          · skip
            · refine SLe.ofO [(2, 2), (1, 1), (0, 0), (3, 3)] [(5, 5)] [(6, 6), (3, 3)] rfl rfl rfl ?_
              conv => whnf
              repeat' (first
              | exact True.intro
              | (refine SAnd.mk (PLe.of_eq (by simp only [wrapK]; rw [wrap_id (by first | omega | (simp only; done) | (simp only; omega) | simp) (by first | omega | (simp only; done) | (simp only; omega) | simp)]; simp)) ?_; conv => whnf)
              | (refine SAnd.mk (PLe.refl _) ?_; conv => whnf)
              | (refine SAnd.mk (PLeL.refl _) ?_; conv => whnf)
              | (refine SAnd.mk (PLe.of_eq (by simp)) ?_; conv => whnf)
              | (refine SAnd.mk rfl ?_; conv => whnf)
              | (refine SAnd.mk ⟨rfl, rfl⟩ ?_; conv => whnf)
              | (refine SAnd.mk ⟨rfl, rfl, rfl⟩ ?_; conv => whnf))
          · have hol : out.length ≤ 1000000 := by omega
            conv => whnf
            repeat' (first
              | (refine codeK_sound good (mu := []) ?_; conv => whnf)
              | ((first | rw [wl0] | rw [wl1] | rw [wl2] | rw [wl3] | rw [wl4] | rw [wl5]); conv => whnf)
              | (refine SBool.mk (fun _ => ?_) (fun h => absurd (of_decide_eq_true rfl) h); conv => whnf)
              | (refine SBool.mk (fun h => absurd h (of_decide_eq_false rfl)) (fun _ => ?_); conv => whnf)
              | (refine SBool.mk (fun h => ?_) (fun h => ?_) <;> conv => whnf)
              | (refine SEx.mk _ (by first | exact up (checkSignals_pure out hol)) ?_; conv => whnf)
              | (refine SEx.mk _ (by first | exact rfl | exact ⟨of_decide_eq_true rfl, rfl⟩) ?_; conv => whnf)
              | (refine SAll.mk (fun _ => ?_); conv => whnf)
              | (refine SAnd.mk ⟨by intro c hc; simp at hc; first | (subst hc; rfl) | ((repeat' (rcases hc with rfl | hc)) <;> first | rfl | (subst hc; rfl)), by (simp; first | done | omega), by (simp; first | done | omega)⟩ ?_; conv => whnf)
              | (refine SAnd.mk (by first | exact rfl | kernel_rfl | omega | decide | exact up (checkSignals_pure out hol)) ?_; conv => whnf)
              | fail)
            · exact ⟨PLe.of_eq (by simp [hpv, h])⟩
            · exact ⟨PLe.of_eq (by simp [hpv, h])⟩
end Go.Proofs.Ab.Tone2
end
section
/- The program's answers at the document's examples: panels, Parse. -/
set_option maxRecDepth 100000
set_option linter.unusedVariables false
set_option linter.unusedSimpArgs false
namespace Go.Proofs.Ab.Tone2
open Go Go.RowKit Go.Proofs.Ab Go.Proofs.Ab.Tone
theorem g14 : FInt .f32 1096810496 14 := (by decide +kernel : floatOfInt .f32 14 = 1096810496) ▸ FInt.ofInt32 (n := 14) (by decide)
theorem g12 : FInt .f32 1094713344 12 := (by decide +kernel : floatOfInt .f32 12 = 1094713344) ▸ FInt.ofInt32 (n := 12) (by decide)
theorem g10 : FInt .f32 1092616192 10 := (by decide +kernel : floatOfInt .f32 10 = 1092616192) ▸ FInt.ofInt32 (n := 10) (by decide)
theorem g8 : FInt .f32 1090519040 8 := (by decide +kernel : floatOfInt .f32 8 = 1090519040) ▸ FInt.ofInt32 (n := 8) (by decide)
theorem g7 : FInt .f32 1088421888 7 := (by decide +kernel : floatOfInt .f32 7 = 1088421888) ▸ FInt.ofInt32 (n := 7) (by decide)
theorem g6 : FInt .f32 1086324736 6 := (by decide +kernel : floatOfInt .f32 6 = 1086324736) ▸ FInt.ofInt32 (n := 6) (by decide)
def pn (x : Nat) (n : Int) : Pn := ⟨1096810496, 0, 1094713344, 0, 1090519040, 0, x, 0, ⟨14, 0⟩, ⟨12, 0⟩, ⟨8, 0⟩, ⟨n, 0⟩⟩
theorem pnIs {x : Nat} {n : Int} (h : FInt .f32 x n) (hn : n.natAbs ≤ 1000) : (pn x n).Is :=
  ⟨⟨g14, FInt.zero32⟩, ⟨g12, FInt.zero32⟩, ⟨g8, FInt.zero32⟩, ⟨h, FInt.zero32⟩, ⟨show (14 : Int).natAbs ≤ 1000000 by decide, show (0 : Int).natAbs ≤ 1000000 by decide⟩, ⟨show (12 : Int).natAbs ≤ 1000000 by decide, show (0 : Int).natAbs ≤ 1000000 by decide⟩, ⟨show (8 : Int).natAbs ≤ 1000000 by decide, show (0 : Int).natAbs ≤ 1000000 by decide⟩, ⟨by show n.natAbs ≤ 1000000; omega, show (0 : Int).natAbs ≤ 1000000 by decide⟩⟩
abbrev p4c (x : Nat) : List PV := [.v (.complex .f32 1096810496 0), .v (.complex .f32 1094713344 0), .v (.complex .f32 1090519040 0), .v (.complex .f32 x 0)]
theorem kReceived1 {m : Int} : APure (C m) 74 [.agg (p4c 1092616192)] (.tup [sg6 11 0 2 0 0 0, .agg [I 1, I 0], I 0]) := ofEq (Received_pure (pn 1092616192 10) (pnIs g10 (by decide))) (by kernel_rfl)
theorem kReceived2 {m : Int} : APure (C m) 74 [.agg (p4c 1088421888)] (.tup [sg6 0 0 0 0 0 0, .agg [I 0, I 0], I 2]) := ofEq (Received_pure (pn 1088421888 7) (pnIs g7 (by decide))) (by kernel_rfl)
theorem kAveraged {m : Int} : APure (C m) 77 [.seq 4 [p4c 1086324736, p4c 1086324736]] (.tup [sg6 10 0 3 0 1 0, .agg [I 0, I 0], I 0]) := ofEq (Averaged_pure [pn 1086324736 6, pn 1086324736 6] (by decide) (fun x hx => by
  simp at hx
  rw [hx]
  exact pnIs g6 (by decide))) (by kernel_rfl)
theorem kParse {m : Int} : APure (C m) 64 [St textA] (.tup [.seq 6 [l6 10 0 3 0 1 0], I 0, I 0]) := ofEq' (Parse_pure textA) (by kernel_rfl)
end Go.Proofs.Ab.Tone2
end
section
/- The program is awake. -/
set_option maxRecDepth 100000
set_option linter.unusedVariables false
set_option linter.unusedSimpArgs false
namespace Go.Proofs.Ab.Tone2
open Go Go.RowKit Go.Proofs.Ab Go.Proofs.Ab.Tone
theorem w00 : wrapK IntKind.i64 (0 + 0) = 0 := by kernel_rfl
theorem kSame1 {m : Int} : APure (C m) 46 [.seq 1 [[I 5], [I 8], [I 11]], .seq 1 [[I 5], [I 8], [I 11]]] (Bo true) := sameInts_pure [5, 8, 11] [5, 8, 11] (by decide)
theorem kSame2 {m : Int} : APure (C m) 62 [.seq 2 [[I 0, I 2], [I 2, I 3]], .seq 2 [[I 0, I 2], [I 2, I 3]]] (Bo true) := sameSpans_pure [(0, 2), (2, 3)] [(0, 2), (2, 3)] (by decide)
theorem kSame3 {m : Int} : APure (C m) 62 [.seq 2 [[I 1, I 3]], .seq 2 [[I 1, I 3]]] (Bo true) := sameSpans_pure [(1, 3)] [(1, 3)] (by decide)
theorem kPanel : EqAgg Tone.C 120 (p4c 1086324736) (p4c 1086324736) true := by
  have h := eq_panel (pn 1086324736 6) (pn 1086324736 6) (pnIs g6 (by decide)) (pnIs g6 (by decide))
  have e : decide (samePn (pn 1086324736 6) (pn 1086324736 6)) = true := by kernel_rfl
  rw [e] at h
  exact h
section
attribute [local irreducible] APure
set_option maxHeartbeats 8000000 in
theorem awake_pure {m : Int} : APure (C m) 14 [] (Bo true) := by
  have hin1 : 0 ≤ (0 : Int) ∧ ([l6 10 0 3 0 1 0] : List (List PV))[(0 : Int).toNat]? = some (l6 10 0 3 0 1 0) := ⟨by omega, rfl⟩
  have hlen1 : (0 : Int) ≤ 0 := by omega
  refine APure.of_body good [] (fn := Tryz.f14) (by kernel_rfl) (by kernel_rfl) rfl rfl (by kernel_rfl) rfl (by kernel_rfl) ?_
  conv => whnf
  repeat' (first
    | (refine codeK_sound good (mu := []) ?_; conv => whnf)
    | ((first | rw [wl0] | rw [wl1] | rw [wl2] | rw [wl3] | rw [wl4] | rw [wl5]); conv => whnf)
    | (rw [w00]; conv => whnf)
    | (refine SBool.mk (fun _ => ?_) (fun h => absurd (of_decide_eq_true rfl) h); conv => whnf)
    | (refine SBool.mk (fun h => absurd h (of_decide_eq_false rfl)) (fun _ => ?_); conv => whnf)
    | (refine SBool.mk (fun h => ?_) (fun h => ?_) <;> conv => whnf)
    | (refine SEx.mk _ (by first | exact of_pure _ _ _ | exact at_pure _ _ | exact ratio_pure _ _ | exact set_pure | exact kDepths | exact kNeedle | exact kSum | exact kTurned | exact kScaled | exact kNeedle2 | exact kTold1 | exact kTold2 | exact kTold3 | exact kTold4 | exact kFollowed | exact kCaptured1 | exact kCaptured2 | exact kMixed | exact eq_ratio _ _ _ _ | exact eq_signal _ _ _ _ _ _ _ _ _ _ _ _ | exact eq_gauss _ _ _ _ | exact eq_interval _ _ _ _ | exact neq_string _ _ _ | exact eql_string _ _ _ | exact kSame1 | exact kLost | exact kNoisy | exact kAdded | exact kFlagged | exact kCrossings | exact kSampled | exact kReceived1 | exact kReceived2 | exact kAveraged | exact kPrint | exact kParse | exact kSame2 | exact kSame3 | exact kPanel | exact to_pure _ _ | exact span_pure _ _ | exact hlen1 | exact hin1) ?_; conv => whnf)
    | (refine SEx.mk _ (by first | exact rfl | exact ⟨of_decide_eq_true rfl, rfl⟩) ?_; conv => whnf)
    | (refine SAll.mk (fun _ => ?_); conv => whnf)
    | (refine SAnd.mk (by first | exact hlen1 | exact hin1) ?_; conv => whnf)
    | (refine SAnd.mk ⟨by intro c hc; simp at hc; first | (subst hc; rfl) | ((repeat' (rcases hc with rfl | hc)) <;> first | rfl | (subst hc; rfl)), by (simp; first | done | omega), by (simp; first | done | omega)⟩ ?_; conv => whnf)
    | (refine SAnd.mk (by first | exact rfl | kernel_rfl | omega | decide | exact of_pure _ _ _ | exact at_pure _ _ | exact ratio_pure _ _ | exact set_pure | exact kDepths | exact kNeedle | exact kSum | exact kTurned | exact kScaled | exact kNeedle2 | exact kTold1 | exact kTold2 | exact kTold3 | exact kTold4 | exact kFollowed | exact kCaptured1 | exact kCaptured2 | exact kMixed | exact eq_ratio _ _ _ _ | exact eq_signal _ _ _ _ _ _ _ _ _ _ _ _ | exact eq_gauss _ _ _ _ | exact eq_interval _ _ _ _ | exact neq_string _ _ _ | exact eql_string _ _ _ | exact kSame1 | exact kLost | exact kNoisy | exact kAdded | exact kFlagged | exact kCrossings | exact kSampled | exact kReceived1 | exact kReceived2 | exact kAveraged | exact kPrint | exact kParse | exact kSame2 | exact kSame3 | exact kPanel | exact to_pure _ _ | exact span_pure _ _ | exact hlen1 | exact hin1) ?_; conv => whnf)
    | fail)
  exact ⟨PLe.refl _⟩
end
end Go.Proofs.Ab.Tone2
end
section
/- What comes in, read as data, stands for pure values; a law's contract becomes the row's. -/
set_option linter.unusedVariables false
set_option linter.unusedSimpArgs false
namespace Go.Proofs.Ab
open Go Go.RowKit

/-- The shape of a cell: a whole number, a truth value, a string, a slice of rows. -/
inductive Sh where
  | int (k : IntKind) | bool | str | sl (el : List Sh)
  deriving Inhabited
inductive Fit : Sh → PV → Prop
  | int (k : IntKind) (n : Int) (h : (Lit.int k n).wf = true) : Fit (.int k) (.v (.int k n))
  | bool (b : Bool) : Fit .bool (Bo b)
  | str (s : ByteArray) (h : s.size ≤ maxLen) : Fit .str (St s)
  | sl (el : List Sh) (xs : List (List PV)) (h : xs.length ≤ maxLen) (hl : ∀ x ∈ xs, x.length = el.length)
      (hx : ∀ x ∈ xs, ∀ (j : Nat) (c : PV) (s : Sh), x[j]? = some c → el[j]? = some s → Fit s c) : Fit (.sl el) (.seq el.length xs)
def FitL (sh : List Sh) (ps : List PV) : Prop := ps.length = sh.length ∧ ∀ (j : Nat) (c : PV) (s : Sh), ps[j]? = some c → sh[j]? = some s → Fit s c
theorem FitL.nil : FitL [] [] := ⟨rfl, fun j c s h => by simp at h⟩
theorem FitL.one {s : Sh} {c : PV} (h : Fit s c) : FitL [s] [c] := ⟨rfl, fun j c' s' hc hs => by
  cases j with
  | zero => simp at hc hs; subst hc; subst hs; exact h
  | succ j => simp at hc⟩
theorem FitL.append {a b : List Sh} {ps qs : List PV} (h : FitL a ps) (k : FitL b qs) : FitL (a ++ b) (ps ++ qs) := by
  refine ⟨by simp [h.1, k.1], fun j c s hc hs => ?_⟩
  by_cases hj : j < a.length
  · rw [List.getElem?_append_left (by rw [h.1]; exact hj)] at hc
    rw [List.getElem?_append_left hj] at hs
    exact h.2 j c s hc hs
  · rw [List.getElem?_append_right (by rw [h.1]; omega)] at hc
    rw [List.getElem?_append_right (by omega)] at hs
    rw [h.1] at hc
    exact k.2 _ c s hc hs
theorem FitL.uncons {s : Sh} {sh : List Sh} {ps : List PV} (h : FitL (s :: sh) ps) : ∃ c ps', ps = c :: ps' ∧ Fit s c ∧ FitL sh ps' := by
  cases ps with
  | nil => have := h.1; simp at this
  | cons c ps => exact ⟨c, ps, rfl, h.2 0 c s rfl rfl, by have := h.1; simpa using this, fun j c' s' hc hs => h.2 (j + 1) c' s' (by simpa using hc) (by simpa using hs)⟩
theorem FitL.unnil {ps : List PV} (h : FitL [] ps) : ps = [] := List.eq_nil_of_length_eq_zero (by simpa using h.1)
theorem Fit.int_inv {k : IntKind} {c : PV} (h : Fit (.int k) c) : ∃ n, c = .v (.int k n) ∧ (Lit.int k n).wf = true := by
  cases h with
  | int _ n h => exact ⟨n, rfl, h⟩
theorem Fit.sl_inv {el : List Sh} {c : PV} (h : Fit (.sl el) c) : ∃ xs, c = .seq el.length xs ∧ xs.length ≤ maxLen ∧ ∀ x ∈ xs, FitL el x := by
  cases h with
  | sl _ xs h hl hx => exact ⟨xs, rfl, h, fun x hm => ⟨hl x hm, hx x hm⟩⟩

def catF (g : Nat → Option (List Sh)) (size : Nat → Nat) : List (Nat × Nat) → Nat → Option (List Sh)
  | [], _ => some []
  | (o, t) :: r, k => match g t with
    | some l => bif Nat.beq o k && Nat.beq (size t) l.length then (match catF g size r (k + l.length) with | some l' => some (l ++ l') | none => none) else none
    | none => none
/-- The shape of a type's cells. -/
def shapeF (P : Program) : Nat → TypeId → Option (List Sh)
  | 0, _ => none
  | n + 1, t => match P.underlying t with
    | some .bool => some [.bool]
    | some (.int k) => some [.int k]
    | some .string => some [.str]
    | some (.slice e) => match shapeF P n e with
      | some el => bif Nat.beq (P.cellsOf e) el.length && !Nat.beq el.length 0 then some [.sl el] else none
      | none => none
    | some (.struct fs) => match catF (shapeF P n) P.cellsOf (fs.toList.map fun f => (f.offset, f.type)) 0 with
      | some l => bif Nat.beq (P.cellsOf t) l.length then some l else none
      | none => none
    | some (.array m e) => match catF (shapeF P n) P.cellsOf ((List.range m).map fun i => (i * P.cellsOf e, e)) 0 with
      | some l => bif Nat.beq (P.cellsOf t) l.length then some l else none
      | none => none
    | _ => none

theorem list_of {α : Type} {p : Nat → α → Prop} : ∀ {n : Nat}, (∀ i, i < n → ∃ y, p i y) → ∃ l : List α, l.length = n ∧ ∀ i y, l[i]? = some y → p i y
  | 0, _ => ⟨[], rfl, fun i y h => by simp at h⟩
  | n + 1, h => by
    obtain ⟨l, hl, hp⟩ := list_of (n := n) fun i hi => h i (by omega)
    obtain ⟨y, hy⟩ := h n (by omega)
    refine ⟨l ++ [y], by simp [hl], fun i z hz => ?_⟩
    by_cases hi : i < n
    · rw [List.getElem?_append_left (by omega)] at hz
      exact hp i z hz
    · rw [List.getElem?_append_right (by omega)] at hz
      have h0 : i = n := by
        have := (List.getElem?_eq_some_iff.1 hz).1
        simp at this
        omega
      subst h0
      rw [hl] at hz
      simp at hz
      exact hz ▸ hy
theorem RepL.flatten {w : World} {ok : Nat → Prop} : ∀ {xs : List (List PV)} {us : List (List Value)}, us.length = xs.length → (∀ (i : Nat) (x : List PV) (u : List Value), xs[i]? = some x → us[i]? = some u → RepL w ok x u) → RepL w ok xs.flatten us.flatten
  | [], [], _, _ => RepL.nil
  | x :: xs, u :: us, hl, h => by
    simp only [List.flatten_cons]
    exact (h 0 x u rfl rfl).append (RepL.flatten (by simpa using hl) fun i x' u' hx hu => h (i + 1) x' u' (by simpa using hx) (by simpa using hu))
  | [], _ :: _, hl, _ => by simp at hl
  | _ :: _, [], hl, _ => by simp at hl

section
variable {H : Type} {enc : TypeId × Value → H} {P : Program} {w : World} {spare : Nat → Bool} {held : Bool}
theorem cells_some {a : Addr} {n : Nat} {us : List Value} (h : w.cells? 0 a n = some us) : us.length = n ∧ ∀ j u, us[j]? = some u → w.cell? (a.add j) = some u := by
  unfold World.cells? at h
  rw [if_pos (Nat.zero_le _)] at h
  refine ⟨by simpa using mapM_some_length h, fun j u hu => ?_⟩
  have hj : j < n := by
    have h1 := mapM_some_length h
    have h2 := (List.getElem?_eq_some_iff.1 hu).1
    simp at h1
    omega
  rw [← hu]
  exact mapM_some_get h j j (by simp [hj])
theorem add_add (a : Addr) (m n : Nat) : (a.add m).add n = a.add (m + n) := by
  unfold Addr.add
  by_cases hm : m = 0 <;> by_cases hn : n = 0 <;> simp [hm, hn, Nat.add_assoc]
theorem cells_flat {a : Addr} {c : Nat} : ∀ {us : List (List Value)} {s : Nat}, (∀ i u, us[i]? = some u → w.cells? 0 (a.add ((s + i) * c)) c = some u) → ∀ j u, us.flatten[j]? = some u → w.cell? (a.add (s * c + j)) = some u
  | [], s, h, j, u, hu => by simp at hu
  | v :: us, s, h, j, u, hu => by
    have h0 := cells_some (by have := h 0 v rfl; simpa using this)
    rw [List.flatten_cons] at hu
    by_cases hj : j < v.length
    · rw [List.getElem?_append_left hj] at hu
      have := h0.2 j u hu
      rwa [add_add] at this
    · rw [List.getElem?_append_right (by omega)] at hu
      have := cells_flat (us := us) (s := s + 1) (fun i x hx => by
        have := h (i + 1) x (by simpa using hx)
        rwa [show s + (i + 1) = s + 1 + i by omega] at this) (j - v.length) u hu
      rw [h0.1] at this hj
      rw [Nat.add_mul, Nat.one_mul] at this
      rwa [show s * c + c + (j - c) = s * c + j by omega] at this
theorem cell_spot {a : Addr} {v : Value} (h : w.cell? a = some v) : a.spot = none ∧ a.block < w.heap.size := by
  unfold World.cell? at h
  cases hh : w.heap[a.block]? with
  | none => rw [hh] at h; cases h
  | some o =>
    rw [hh] at h
    refine ⟨?_, (Array.getElem?_eq_some_iff.1 hh).1⟩
    cases o with
    | cells c t f =>
      simp only at h
      cases hs : a.spot with
      | none => rfl
      | some k => rw [hs] at h; simp at h
    | _ => cases h
theorem add_plain {a : Addr} (h : a.spot = none) (j : Nat) : a.add j = ⟨a.block, a.off + j, none⟩ := by
  unfold Addr.add
  by_cases hj : j = 0
  · subst hj; rw [if_pos rfl]; cases a; simp at h; simp [h]
  · rw [if_neg hj]

theorem open_cat {g : Nat → Option (List Sh)} {size : Nat → Nat} {ok : Nat → Prop} {cs : List Value} : ∀ {l : List (Nat × Nat)} {k : Nat} {sh : List Sh}, catF g size l k = some sh →
    (∀ (i o t : Nat), l[i]? = some (o, t) → ∀ s, g t = some s → ∃ ps, FitL s ps ∧ RepL w ok ps ((cs.drop o).take (size t))) → ∃ ps, FitL sh ps ∧ RepL w ok ps ((cs.drop k).take sh.length)
  | [], k, sh, h, _ => by
    simp only [catF, Option.some.injEq] at h
    subst h
    exact ⟨[], FitL.nil, by simp; exact RepL.nil⟩
  | (o, t) :: l, k, sh, h, hr => by
    unfold catF at h
    cases hg : g t with
    | none => rw [hg] at h; cases h
    | some s =>
      rw [hg] at h
      simp only at h
      cases hb : (Nat.beq o k && Nat.beq (size t) s.length) with
      | false => rw [hb] at h; cases h
      | true =>
        rw [hb] at h
        simp only [cond_true] at h
        rw [Bool.and_eq_true] at hb
        have h1 := Nat.eq_of_beq_eq_true hb.1
        have h2 := Nat.eq_of_beq_eq_true hb.2
        cases hc : catF g size l (k + s.length) with
        | none => rw [hc] at h; cases h
        | some s' =>
          rw [hc] at h
          simp only [Option.some.injEq] at h
          subst h
          obtain ⟨ps, hf, hrep⟩ := hr 0 o t rfl s hg
          obtain ⟨qs, hf', hrep'⟩ := open_cat hc fun i o' t' hi => hr (i + 1) o' t' (by simpa using hi)
          refine ⟨ps ++ qs, hf.append hf', ?_⟩
          rw [h1, h2] at hrep
          rw [List.length_append, List.take_add, List.drop_drop]
          exact hrep.append hrep'

theorem open_shape : ∀ {n : Nat} {t : TypeId} {sh : List Sh} {fuel : Nat} {cs : List Value} {x : DataW H × List MemPlace}, shapeF P n t = some sh → DataW.trod enc P w 0 spare held fuel t cs = some x →
    ∃ ps, FitL sh ps ∧ RepL w (fun b => b < w.heap.size) ps cs
  | 0, t, sh, fuel, cs, x, hs, h => by cases hs
  | n + 1, t, sh, fuel, cs, x, hs, h => by
    unfold shapeF at hs
    split at hs
    · rename_i hu
      obtain ⟨b, rfl, _⟩ := DataW.trod_bool hu h
      cases hs
      exact ⟨[Bo b], .one (.bool b), RepL.cons (.v _) .nil⟩
    · rename_i k hu
      obtain ⟨m, rfl, _, hw⟩ := DataW.trod_int hu h
      cases hs
      exact ⟨[.v (.int k m)], .one (.int k m hw), RepL.cons (.v _) .nil⟩
    · rename_i hu
      obtain ⟨s, rfl, _, hw⟩ := DataW.trod_string hu h
      cases hs
      exact ⟨[St s], .one (.str s hw), RepL.cons (.v _) .nil⟩
    · rename_i e hu
      cases he : shapeF P n e with
      | none => rw [he] at hs; cases hs
      | some el =>
        rw [he] at hs
        simp only at hs
        cases hb : (Nat.beq (P.cellsOf e) el.length && !Nat.beq el.length 0) with
        | false => rw [hb] at hs; cases hs
        | true =>
          rw [hb] at hs
          simp only [cond_true, Option.some.injEq] at hs
          subst hs
          rw [Bool.and_eq_true] at hb
          have h1 := Nat.eq_of_beq_eq_true hb.1
          have h2 : el.length ≠ 0 := fun e0 => by rw [e0] at hb; exact absurd hb.2 (by decide)
          rcases DataW.trod_slice hu h with ⟨rfl, _⟩ | ⟨a, len, cap, elems, rest, m, _, rfl, _, _, hlc, hcm, hlen, hel, _, _⟩
          · refine ⟨[.seq el.length []], .one (.sl el [] (Nat.zero_le _) (by simp) (by simp)), RepL.cons ?_ .nil⟩
            exact Rep.nil_seq (.v _)
          · have each : ∀ i, i < len → ∃ y : List PV × List Value, FitL el y.1 ∧ w.cells? 0 (a.add ((0 + i) * P.cellsOf e)) (P.cellsOf e) = some y.2 ∧ RepL w (fun b => b < w.heap.size) y.1 y.2 := by
              intro i hi
              have h3 := hel i hi
              rw [List.getElem?_eq_getElem (by omega)] at h3
              obtain ⟨cs', h4, h5⟩ := Option.bind_eq_some_iff.1 h3
              obtain ⟨ps, hf, hr⟩ := open_shape he h5
              exact ⟨(ps, cs'), hf, by rw [Nat.zero_add]; exact h4, hr⟩
            obtain ⟨l, hl, hp⟩ := list_of each
            have hfl : ∀ i x, (l.map Prod.fst)[i]? = some x → FitL el x := fun i x hx => by
              rw [List.getElem?_map] at hx
              cases hy : l[i]? with
              | none => rw [hy] at hx; cases hx
              | some y => rw [hy] at hx; simp at hx; subst hx; exact (hp i y hy).1
            have hfm : ∀ x ∈ l.map Prod.fst, FitL el x := fun x hx => by
              obtain ⟨i, hi⟩ := List.getElem?_of_mem hx
              exact hfl i x hi
            have hcells : ∀ i u, (l.map Prod.snd)[i]? = some u → w.cells? 0 (a.add ((0 + i) * P.cellsOf e)) (P.cellsOf e) = some u := fun i u hx => by
              rw [List.getElem?_map] at hx
              cases hy : l[i]? with
              | none => rw [hy] at hx; cases hx
              | some y => rw [hy] at hx; simp at hx; subst hx; exact (hp i y hy).2.1
            have hrep : RepL w (fun b => b < w.heap.size) (l.map Prod.fst).flatten (l.map Prod.snd).flatten := by
              refine RepL.flatten (by simp) fun i x u hx hu => ?_
              rw [List.getElem?_map] at hx hu
              cases hy : l[i]? with
              | none => rw [hy] at hx; cases hx
              | some y => rw [hy] at hx hu; simp at hx hu; subst hx; subst hu; exact (hp i y hy).2.2
            have hflat := cells_flat (us := l.map Prod.snd) (s := 0) hcells
            refine ⟨[.seq el.length (l.map Prod.fst)], .one (.sl el _ (by simp [hl]; omega) (fun x hx => (hfm x hx).1) (fun x hx => (hfm x hx).2)), RepL.cons ?_ .nil⟩
            refine .seq el.length (l.map Prod.fst) (some a) len cap (l.map Prod.snd).flatten (by simp [hl]) hlc hcm (fun x hx => (hfm x hx).1) hrep.1 hrep.2 (fun hp0 => ?_)
            have hlen0 : (l.map Prod.snd).flatten.length = (l.map Prod.fst).flatten.length := hrep.1
            have hpos : 0 < (l.map Prod.snd).flatten.length := by
              rw [hlen0]
              cases hq : l.map Prod.fst with
              | nil => have : (l.map Prod.fst).length = 0 := by rw [hq]; rfl
                       simp [hl] at this; omega
              | cons x xs =>
                have := (hfm x (by rw [hq]; exact List.mem_cons_self)).1
                rw [List.flatten_cons, List.length_append]
                omega
            have hc0 := hflat 0 _ (List.getElem?_eq_getElem hpos)
            rw [Nat.zero_mul, Nat.zero_add] at hc0
            obtain ⟨hs, hblk⟩ := cell_spot hc0
            have e0 : a.add 0 = a := by simp [Addr.add]
            rw [e0] at hs hblk
            refine ⟨a.block, a.off, by cases a; simp at hs; simp [hs], hblk, fun j u hu => ?_⟩
            have := hflat j u hu
            rwa [Nat.zero_mul, Nat.zero_add, add_plain hs] at this
    · rename_i fs hu
      cases hc : catF (shapeF P n) P.cellsOf (fs.toList.map fun f => (f.offset, f.type)) 0 with
      | none => rw [hc] at hs; cases hs
      | some l =>
        rw [hc] at hs
        simp only at hs
        cases hb : Nat.beq (P.cellsOf t) l.length with
        | false => rw [hb] at hs; cases hs
        | true =>
          rw [hb] at hs
          simp only [cond_true, Option.some.injEq] at hs
          subst hs
          have h1 := Nat.eq_of_beq_eq_true hb
          obtain ⟨xs, m, _, _, hlen, hxs, hel⟩ := DataW.trod_struct hu h
          obtain ⟨ps, hf, hr⟩ := open_cat (w := w) (ok := fun b => b < w.heap.size) (cs := cs) hc fun i o t' hi s hg => by
            rw [List.getElem?_map] at hi
            cases hy : fs.toList[i]? with
            | none => rw [hy] at hi; cases hi
            | some f =>
              rw [hy] at hi
              simp at hi
              obtain ⟨rfl, rfl⟩ := hi
              have h3 := hel i f (by simpa using hy)
              have hi' : i < xs.length := by
                have := (List.getElem?_eq_some_iff.1 hy).1
                simp at this
                omega
              rw [List.getElem?_eq_getElem hi'] at h3
              exact open_shape hg h3
          rw [List.drop_zero, ← h1, ← hlen, List.take_length] at hr
          exact ⟨ps, hf, hr⟩
    · rename_i m e hu
      cases hc : catF (shapeF P n) P.cellsOf ((List.range m).map fun i => (i * P.cellsOf e, e)) 0 with
      | none => rw [hc] at hs; cases hs
      | some l =>
        rw [hc] at hs
        simp only at hs
        cases hb : Nat.beq (P.cellsOf t) l.length with
        | false => rw [hb] at hs; cases hs
        | true =>
          rw [hb] at hs
          simp only [cond_true, Option.some.injEq] at hs
          subst hs
          have h1 := Nat.eq_of_beq_eq_true hb
          obtain ⟨xs, k, _, _, hlen, hxs, hel⟩ := DataW.trod_array hu h
          obtain ⟨ps, hf, hr⟩ := open_cat (w := w) (ok := fun b => b < w.heap.size) (cs := cs) hc fun i o t' hi s hg => by
            rw [List.getElem?_map] at hi
            cases hy : (List.range m)[i]? with
            | none => rw [hy] at hi; cases hi
            | some f =>
              rw [hy] at hi
              simp at hi
              obtain ⟨hi1, hi2⟩ := hi
              have h4 := List.getElem?_eq_some_iff.1 hy
              obtain ⟨h5, h6⟩ := h4
              simp at h5 h6
              subst h6
              have h3 := hel i h5
              rw [List.getElem?_eq_getElem (by omega)] at h3
              subst hi1; subst hi2
              exact open_shape hg h3
          rw [List.drop_zero, ← h1, ← hlen, List.take_length] at hr
          exact ⟨ps, hf, hr⟩
    · cases hs
end
/-! ### The row's post out of a contract -/
section
variable {H : Type} {enc : TypeId × Value → H} {P : Program}
theorem trodAll_stays (hl : laidOutB P = true) {W W' : World} (hb : Below W.heap.size W W') : ∀ {ts : List TypeId} {vs : List Value} {ds : List (DataW H)} {ps : List MemPlace},
    (∀ t ∈ ts, P.readableRec t = true ∧ t < P.types.size) → DataW.TrodAll enc P W 0 (fun _ => true) true ts vs ds ps → (∀ x ∈ ps, x.block < W.heap.size) →
    DataW.TrodAll enc P W' 0 (fun b => decide (b < W.heap.size)) true ts vs ds ps
  | [], [], [], _, _, h, _ => h
  | t :: ts, v :: vs, d :: ds, ps, hr, h, hlt => by
    obtain ⟨p, q, h1, h2, rfl⟩ := h
    exact ⟨p, q, Below.trod hl (hr t List.mem_cons_self).1 (hr t List.mem_cons_self).2 h1 hb fun x hx => hlt x (List.mem_append_left _ hx),
      trodAll_stays hl hb (fun t ht => hr t (List.mem_cons_of_mem _ ht)) h2 fun x hx => hlt x (List.mem_append_right _ hx), rfl⟩
  | [], [], _ :: _, _, _, h, _ => h.elim
  | [], _ :: _, _, _, _, h, _ => h.elim
  | _ :: _, [], _, _, _, h, _ => h.elim
  | _ :: _, _ :: _, [], _, _, h, _ => h.elim
/-- A parameter's shape: whether it is a struct or an array, and its cells. -/
def paramF (P : Program) (n : Nat) (t : TypeId) : Option (Bool × List Sh) := match P.underlying t with
  | some (.struct _) | some (.array _ _) => (shapeF P n t).map fun s => (true, s)
  | some .bool | some (.int _) | some .string | some (.slice _) => (shapeF P n t).map fun s => (false, s)
  | _ => none
def FitP : Bool × List Sh → PV → Prop
  | (true, sh), p => ∃ xs, p = .agg xs ∧ FitL sh xs
  | (false, sh), p => FitL sh [p]
theorem open_param {w : World} {spare : Nat → Bool} {held : Bool} {r : Go.Reach} {base n : Nat} {t : TypeId} {v : Value} {d : DataW H} {ps : List MemPlace} {s : Bool × List Sh}
    (hs : paramF P n t = some s) (hval : Value.okWide P w r base t v) (hd : DataW.Trod enc P w 0 spare held t v d ps) : ∃ p, FitP s p ∧ Rep w (fun b => b < w.heap.size) p v := by
  obtain ⟨fuel, h⟩ := hd
  have one : ∀ {sh : List Sh}, shapeF P n t = some sh → s = (false, sh) → v.cells.toList = [v] → ∃ p, FitP s p ∧ Rep w (fun b => b < w.heap.size) p v := fun {sh} h1 h2 h3 => by
    obtain ⟨xs, hf, hr⟩ := open_shape h1 h
    rw [h3] at hr
    have hl := hr.1
    match xs, hl, hf, hr with
    | [x], _, hf, hr =>
      subst h2
      exact ⟨x, hf, hr.2 0 x v rfl rfl⟩
    | [], hl, _, _ => simp at hl
    | _ :: _ :: _, hl, _, _ => simp at hl
  have agg : ∀ {sh : List Sh}, shapeF P n t = some sh → s = (true, sh) → (∃ cs, v = .agg cs) → ∃ p, FitP s p ∧ Rep w (fun b => b < w.heap.size) p v := fun {sh} h1 h2 ⟨cs, h3⟩ => by
    subst h3
    obtain ⟨xs, hf, hr⟩ := open_shape h1 h
    subst h2
    refine ⟨.agg xs, ⟨xs, rfl, hf⟩, ?_⟩
    have hr' : RepL w (fun b => b < w.heap.size) xs cs.toList := hr
    have := Rep.agg (w := w) (ok := fun b => b < w.heap.size) xs cs.toList hr'.1 hr'.2
    simpa using this
  unfold paramF at hs
  split at hs <;> try simp only [Option.map_eq_some_iff] at hs
  · rename_i fs hu
    obtain ⟨sh, h1, h2⟩ := hs
    obtain ⟨cs, e, _⟩ := WideShapes.okWide_struct hu hval
    exact agg h1 h2.symm ⟨cs, e⟩
  · rename_i m e hu
    obtain ⟨sh, h1, h2⟩ := hs
    simp only [Value.okWide, hu] at hval
    obtain ⟨cs, e, _⟩ := hval
    exact agg h1 h2.symm ⟨cs, e⟩
  · rename_i hu
    obtain ⟨sh, h1, h2⟩ := hs
    obtain ⟨b, rfl⟩ := WideShapes.okWide_bool hu hval
    exact one h1 h2.symm rfl
  · rename_i k hu
    obtain ⟨sh, h1, h2⟩ := hs
    obtain ⟨b, rfl⟩ := WideShapes.okWide_int hu hval
    exact one h1 h2.symm rfl
  · rename_i hu
    obtain ⟨sh, h1, h2⟩ := hs
    obtain ⟨b, rfl⟩ := WideShapes.okWide_string hu hval
    exact one h1 h2.symm rfl
  · rename_i e hu
    obtain ⟨sh, h1, h2⟩ := hs
    obtain ⟨a, l, c, rfl⟩ := WideShapes.okWide_slice hu hval
    exact one h1 h2.symm rfl
  · cases hs
def FitPs (ss : List (Bool × List Sh)) (ps : List PV) : Prop := ps.length = ss.length ∧ ∀ (i : Nat) (s : Bool × List Sh) (p : PV), ss[i]? = some s → ps[i]? = some p → FitP s p
theorem FitPs.uncons {s : Bool × List Sh} {ss : List (Bool × List Sh)} {ps : List PV} (h : FitPs (s :: ss) ps) : ∃ p ps', ps = p :: ps' ∧ FitP s p ∧ FitPs ss ps' := by
  cases ps with
  | nil => have := h.1; simp at this
  | cons p ps => exact ⟨p, ps, rfl, h.2 0 s p rfl rfl, by have := h.1; simpa using this, fun i s' p' hs hp => h.2 (i + 1) s' p' (by simpa using hs) (by simpa using hp)⟩
theorem FitPs.unnil {ps : List PV} (h : FitPs [] ps) : ps = [] := List.eq_nil_of_length_eq_zero (by simpa using h.1)
/-- What a list of arguments stands for, by its types' shapes. -/
theorem open_params {w : World} {spare : Nat → Bool} {held : Bool} {r : Go.Reach} {base n : Nat} : ∀ {ts : List TypeId} {vs : List Value} {ds : List (DataW H)} {ps : List MemPlace} {ss : List (Bool × List Sh)},
    DataW.TrodAll enc P w 0 spare held ts vs ds ps → (∀ (i : Nat) (t : TypeId) (v : Value), ts[i]? = some t → vs[i]? = some v → Value.okWide P w r base t v) → ts.map (paramF P n) = ss.map some → ∃ xs, FitPs ss xs ∧ RepL w (fun b => b < w.heap.size) xs vs
  | [], [], [], _, [], h, _, _ => ⟨[], ⟨rfl, fun i s p h => by simp at h⟩, RepL.nil⟩
  | t :: ts, v :: vs, d :: ds, ps, s :: ss, h, hv, he => by
    obtain ⟨p, q, h1, h2, rfl⟩ := h
    simp only [List.map_cons, List.cons.injEq] at he
    obtain ⟨x, hf, hr⟩ := open_param he.1 (hv 0 t v rfl rfl) h1
    obtain ⟨xs, hf', hr'⟩ := open_params h2 (fun i t v ht hv' => hv (i + 1) t v (by simpa using ht) (by simpa using hv')) he.2
    refine ⟨x :: xs, ⟨by simp [hf'.1], fun i s' p' hs hp => ?_⟩, RepL.cons hr hr'⟩
    cases i with
    | zero => simp at hs hp; subst hs; subst hp; exact hf
    | succ i => exact hf'.2 i s' p' (by simpa using hs) (by simpa using hp)
  | [], [], [], _, _ :: _, _, _, he => by simp at he
  | _ :: _, _ :: _, _ :: _, _, [], _, _, he => by simp at he
  | [], [], _ :: _, _, _, h, _, _ => h.elim
  | [], _ :: _, _, _, _, h, _, _ => h.elim
  | _ :: _, [], _, _, _, h, _, _ => h.elim
  | _ :: _, _ :: _, [], _, _, h, _, _ => h.elim
/-- A law that returns true, whatever it is handed, and turns nothing that was there. -/
theorem law_calls {C : Cx} {f : FuncId} {fn : Func} {s : ChangeSpec} {apart fresh handsOn : Bool} {W : World} {args : Array Value} {ds gs : List (DataW H)} {before : List MemPlace} {xs : List PV} {tb : TypeId}
    (hl : laidOutB C.P = true) (hr : ∀ t ∈ fn.params.toList, C.P.readableRec t = true ∧ t < C.P.types.size) (hres : fn.resultTypes = #[tb]) (htb : C.P.underlying tb = some .bool)
    (hv : s.vars = []) (hs : (s.fn H ds).results = [.lit (.bool true)] ∧ (s.fn H ds).args = ds ∧ (s.fn H ds).vars = [])
    (hW : DataW.Whole enc C.P fn.params.toList s.vars apart W args.toList ds gs before)
    (hc : APure C f xs (Bo true)) (hg : GlobOk C W (fun b => b < W.heap.size)) (hx : RepL W (fun b => b < W.heap.size) xs args.toList) :
    Calls C.P f args W fun e W' => ∃ v, e = .returned v ∧ s.post enc C.P fn apart fresh handsOn false W args v W' := by
  have h := hc.2 W (fun b => b < W.heap.size) args.toList (fun b hb => hb) hg hx
  rw [show args.toList.toArray = args by simp] at h
  refine h.mono fun e W' ⟨u, he, hb, hu⟩ => ⟨u, he, ?_⟩
  have hu' : u = .bool true := v_inv hu
  subst hu'
  have hW' := hW
  obtain ⟨p, q, hA, hV, rfl, _, _⟩ := hW
  rw [hv] at hV
  have hg0 : gs = [] ∧ q = [] := by
    cases gs with
    | nil => exact ⟨rfl, hV⟩
    | cons g r => exact hV.elim
  obtain ⟨rfl, rfl⟩ := hg0
  have hlt := hW'.lt
  refine ⟨ds, [], p ++ [], [], p, [], hW', ?_, ?_, ?_, hb.frame _, fun h => by cases h⟩
  · rw [List.append_nil, hs.1, hres]
    exact ChangeShapes.trodAll_mk1 (RowKit.shut_bool htb true)
  · rw [List.append_nil, hs.2.1]
    exact trodAll_stays hl hb hr hA fun x hx => hlt x (List.mem_append_left _ hx)
  · rw [List.append_nil, hs.2.2, hv]
    rfl
end

/-! ### The variables that are listed, or shaped alone -/
def Sh.num : Sh → Bool
  | .int _ => true
  | _ => false
/-- The numbers of a datum of structs, arrays and numbers. -/
def leavesF {H : Type} : Nat → DataW H → List Value
  | _, .lit (.int k n) => [.int k n]
  | m + 1, .agg ds => (ds.map (leavesF m)).flatten
  | _, _ => []
section
variable {H : Type} {enc : TypeId × Value → H} {P : Program} {w : World} {spare : Nat → Bool} {held : Bool}
theorem leaves_cat {g : Nat → Option (List Sh)} {size : Nat → Nat} {cs : List Value} {lv : DataW H → List Value} : ∀ {l : List (Nat × Nat)} {k : Nat} {sh : List Sh} {ds : List (DataW H)}, catF g size l k = some sh → ds.length = l.length → k + sh.length ≤ cs.length → sh.all Sh.num = true →
    (∀ (i o t : Nat) (d : DataW H), l[i]? = some (o, t) → ds[i]? = some d → ∀ s, g t = some s → s.all Sh.num = true → (cs.drop o).take (size t) = lv d) → (cs.drop k).take sh.length = (ds.map lv).flatten
  | [], k, sh, ds, h, hl, _, _, _ => by
    simp only [catF, Option.some.injEq] at h
    subst h
    have : ds = [] := List.eq_nil_of_length_eq_zero (by simpa using hl)
    subst this
    simp
  | (o, t) :: l, k, sh, [], h, hl, _, _, _ => by simp at hl
  | (o, t) :: l, k, sh, d :: ds, h, hl, hle, hn, hr => by
    unfold catF at h
    cases hg : g t with
    | none => rw [hg] at h; cases h
    | some s =>
      rw [hg] at h
      simp only at h
      cases hb : (Nat.beq o k && Nat.beq (size t) s.length) with
      | false => rw [hb] at h; cases h
      | true =>
        rw [hb] at h
        simp only [cond_true] at h
        rw [Bool.and_eq_true] at hb
        have h1 := Nat.eq_of_beq_eq_true hb.1
        have h2 := Nat.eq_of_beq_eq_true hb.2
        cases hc : catF g size l (k + s.length) with
        | none => rw [hc] at h; cases h
        | some s' =>
          rw [hc] at h
          simp only [Option.some.injEq] at h
          subst h
          rw [List.all_append, Bool.and_eq_true] at hn
          rw [List.length_append] at hle
          have e1 := hr 0 o t d rfl rfl s hg hn.1
          have e2 := leaves_cat (ds := ds) hc (by simpa using hl) (by omega) hn.2 fun i o' t' d' hi hd => hr (i + 1) o' t' d' (by simpa using hi) (by simpa using hd)
          rw [h1, h2] at e1
          rw [List.length_append, List.take_add, List.drop_drop, e1, e2]
          simp
theorem shape_len : ∀ {n : Nat} {t : TypeId} {sh : List Sh} {fuel : Nat} {cs : List Value} {x : DataW H × List MemPlace}, shapeF P n t = some sh → DataW.trod enc P w 0 spare held fuel t cs = some x → cs.length = sh.length := fun h1 h2 => by
  obtain ⟨ps, hf, hr⟩ := open_shape h1 h2
  rw [hr.1, hf.1]
/-- A datum of numbers is read off its own cells. -/
theorem leaves_of : ∀ {n : Nat} {t : TypeId} {sh : List Sh} {fuel : Nat} {cs : List Value} {x : DataW H × List MemPlace}, shapeF P n t = some sh → sh.all Sh.num = true → DataW.trod enc P w 0 spare held fuel t cs = some x → cs = leavesF n x.1
  | 0, t, sh, fuel, cs, x, hs, _, h => by cases hs
  | n + 1, t, sh, fuel, cs, x, hs, hn, h => by
    have hlen := shape_len hs h
    unfold shapeF at hs
    split at hs
    · cases hs; simp [Sh.num] at hn
    · rename_i k hu
      obtain ⟨m, rfl, rfl, _⟩ := DataW.trod_int hu h
      rfl
    · cases hs; simp [Sh.num] at hn
    · rename_i e hu
      exfalso
      split at hs
      · rename_i el he
        cases hb : (Nat.beq (P.cellsOf e) el.length && !Nat.beq el.length 0) with
        | false => rw [hb] at hs; cases hs
        | true => rw [hb] at hs; cases hs; simp [Sh.num] at hn
      · cases hs
    · rename_i fs hu
      cases hc : catF (shapeF P n) P.cellsOf (fs.toList.map fun f => (f.offset, f.type)) 0 with
      | none => rw [hc] at hs; cases hs
      | some l =>
        rw [hc] at hs
        simp only at hs
        cases hb : Nat.beq (P.cellsOf t) l.length with
        | false => rw [hb] at hs; cases hs
        | true =>
          rw [hb] at hs
          simp only [cond_true, Option.some.injEq] at hs
          subst hs
          obtain ⟨xs, m, _, rfl, _, hxs, hel⟩ := DataW.trod_struct hu h
          have := leaves_cat (cs := cs) (lv := leavesF n) (ds := xs.map (·.1)) hc (by simp [hxs]) (by omega) hn fun i o t' d hi hd s hg hsn => by
            rw [List.getElem?_map] at hi hd
            cases hy : fs.toList[i]? with
            | none => rw [hy] at hi; cases hi
            | some f =>
              rw [hy] at hi
              simp at hi
              obtain ⟨rfl, rfl⟩ := hi
              have h3 := hel i f (by simpa using hy)
              cases hz : xs[i]? with
              | none => rw [hz] at hd; cases hd
              | some z =>
                rw [hz] at hd h3
                simp at hd
                subst hd
                exact leaves_of hg hsn h3
          rw [List.drop_zero, ← hlen, List.take_length] at this
          exact this
    · rename_i m e hu
      cases hc : catF (shapeF P n) P.cellsOf ((List.range m).map fun i => (i * P.cellsOf e, e)) 0 with
      | none => rw [hc] at hs; cases hs
      | some l =>
        rw [hc] at hs
        simp only at hs
        cases hb : Nat.beq (P.cellsOf t) l.length with
        | false => rw [hb] at hs; cases hs
        | true =>
          rw [hb] at hs
          simp only [cond_true, Option.some.injEq] at hs
          subst hs
          obtain ⟨xs, k, _, rfl, _, hxs, hel⟩ := DataW.trod_array hu h
          have := leaves_cat (cs := cs) (lv := leavesF n) (ds := xs.map (·.1)) hc (by simp [hxs]) (by omega) hn fun i o t' d hi hd s hg hsn => by
            rw [List.getElem?_map] at hi hd
            cases hy : (List.range m)[i]? with
            | none => rw [hy] at hi; cases hi
            | some f =>
              rw [hy] at hi
              simp at hi
              obtain ⟨hi1, hi2⟩ := hi
              obtain ⟨h5, h6⟩ := List.getElem?_eq_some_iff.1 hy
              simp at h5 h6
              subst h6
              have h3 := hel i h5
              subst hi1; subst hi2
              cases hz : xs[i]? with
              | none => rw [hz] at hd; cases hd
              | some z =>
                rw [hz] at hd h3
                simp at hd
                subst hd
                exact leaves_of hg hsn h3
          rw [List.drop_zero, ← hlen, List.take_length] at this
          exact this
    · cases hs
theorem laid_get {l : List (String × DataW Unit)} : ∀ {ps : List MemPlace}, DataW.LaidVars P w l ps → ∀ {n : String} {d : DataW Unit}, (n, d) ∈ l →
    ∃ g t cs fuel p, P.globalNamed n = some g ∧ (P.globals[g]?).map (·.type) = some t ∧ w.var? P n = some cs ∧ DataW.trod (fun _ => ()) P w 0 (fun _ => true) false fuel t cs.toList = some (d, p) := by
  induction l with
  | nil => intro ps _ n d h; simp at h
  | cons a r ih =>
    intro ps h n d hm
    obtain ⟨n0, d0⟩ := a
    obtain ⟨g, t, cs, fuel, p, q, h1, h2, h3, h4, h5, _⟩ := h
    rcases List.mem_cons.1 hm with e | hm
    · cases e
      exact ⟨g, t, cs, fuel, p, h1, h2, h3, h4⟩
    · exact ih h5 hm
/-- The whole block of a listed variable of numbers. -/
theorem laid_block {l : List (String × DataW Unit)} (h : laidMet P l w) {n : String} {d : DataW Unit} (hm : (n, d) ∈ l) {g t k : Nat} {sh : List Sh} (hg : P.globalNamed n = some g) (ht : (P.globals[g]?).map (·.type) = some t)
    (hs : shapeF P k t = some sh) (hn : sh.all Sh.num = true) : ∃ t' f, w.heap[g]? = some (.cells (leavesF k d).toArray t' f) := by
  obtain ⟨ps, hv, _, _⟩ := h
  obtain ⟨g', t', cs, fuel, p, h1, h2, h3, h4⟩ := laid_get hv hm
  obtain rfl := Option.some.inj (hg.symm.trans h1)
  obtain rfl := Option.some.inj (ht.symm.trans h2)
  have h5 := leaves_of hs hn h4
  simp only [World.var?, hg, Option.bind_some] at h3
  cases hh : w.heap[g]? with
  | none => rw [hh] at h3; cases h3
  | some o =>
    rw [hh] at h3
    cases o with
    | cells c t' f =>
      simp only [Option.some.injEq] at h3
      subst h3
      refine ⟨t', f, ?_⟩
      rw [← show c.toList = leavesF k d from h5]
    | _ => cases h3
/-- A variable of one whole number, whatever it holds. -/
theorem shaped_int {g t u : Nat} {zero : Array Value} (h : w.ShapedOpen P) (hg : g < P.globals.size) (hz : ((begin P (fun _ _ => 0) default).world.heap[g]?).bind Obj.row? = some (zero, t)) (hs : zero.size = 1)
    (hb : P.buildable t = true) (hts : P.cellTypes P.depth t = some [u]) (hu : P.underlying u = some (.int .i64)) : ∃ m t' f, w.heap[g]? = some (.cells #[.int .i64 m] t' f) := by
  obtain ⟨cs, h1, h2, h3⟩ := h.1 g zero t hg hz
  obtain ⟨ts, h4, _, h5⟩ := h3 hb
  obtain rfl := Option.some.inj (hts.symm.trans h4)
  rw [hs] at h2
  obtain ⟨u', h6, h7⟩ := h5 0 cs[0] (by simp [h2])
  simp at h6
  subst h6
  have h8 : ∃ m, cs[0] = .int .i64 m := by
    generalize hx : cs[0] = x at h7
    unfold Cell.ok at h7
    rw [hu] at h7
    cases x <;> simp_all
  obtain ⟨m, h8⟩ := h8
  refine ⟨m, t, (0, 0), ?_⟩
  rw [h1]
  have : cs = #[.int .i64 m] := by
    rw [← h8]
    apply Array.ext
    · simp [h2]
    · intro i hi hi'
      have : i = 0 := by omega
      subst this
      simp
  rw [this]
end
end Go.Proofs.Ab
end
section
/- The frame of the rows: what the listed variables give; a law's contract becomes the row's. -/
set_option maxRecDepth 100000
set_option linter.unusedVariables false
set_option linter.unusedSimpArgs false
namespace Go.Proofs.Ab.Tone2
open Go Go.RowKit Go.Proofs.Ab Go.Proofs.Ab.Tone Go.Proofs.YtkphoimochkndaaGreatDoor
theorem own : ownKnob Tryz.prog.godebug = none := by kernel_rfl
theorem laidOut : laidOutB Tryz.prog = true := by kernel_rfl
/-- What the rows list. -/
abbrev listed : List (String × DataW Unit) := Rows.toneDepthsRow.laid
theorem glob_of {W : World} (hl : laidMetH Tryz.prog listed W) (hs : W.ShapedOpen Tryz.prog) : ∃ m, GlobOk (C m) W (fun b => b < W.heap.size) := by
  rw [MakeChecks.laidMetH_plain _ _ _ (by kernel_rfl)] at hl
  obtain ⟨t0, f0, h0⟩ := laid_block (n := "glideslope/tone.silent") (d := Rows.laid_glideslope_tone_silent) (g := 0) (k := 3) hl (by simp [listed, Rows.toneDepthsRow]) (by kernel_rfl) (t := 23) (by kernel_rfl) (sh := [.int .i64, .int .i64]) (by kernel_rfl) rfl
  have e0 : (leavesF 3 (Rows.laid_glideslope_tone_silent : DataW Unit)).toArray = #[.int .i64 0, .int .i64 0] := by kernel_rfl
  rw [e0] at h0
  obtain ⟨t2, f2, h2⟩ := laid_block (n := "internal/strconv.uint64pow10") (d := Rows.laid_internal_strconv_uint64pow10) (g := 2) (k := 3) hl (by simp [listed, Rows.toneDepthsRow]) (by kernel_rfl) (t := 291) (by kernel_rfl) (sh := (List.range 20).map fun _ => .int .u64) (by kernel_rfl) rfl
  have e2 : (leavesF 3 (Rows.laid_internal_strconv_uint64pow10 : DataW Unit)).toArray = (Lib.pow10Tab.map fun z => Value.int .u64 z).toArray := by kernel_rfl
  rw [e2] at h2
  obtain ⟨m, t1, f1, h1⟩ := shaped_int (g := 1) (u := 3) hs (of_decide_eq_true (by kernel_rfl)) (zero := #[.int .i64 0]) (t := 3) (by kernel_rfl) (by kernel_rfl) (by kernel_rfl) (by kernel_rfl) (by kernel_rfl)
  have lt : ∀ {g : Nat} {o : Obj}, W.heap[g]? = some o → g < W.heap.size := fun h => (Array.getElem?_eq_some_iff.1 h).1
  refine ⟨m, fun g cs hg => ?_, fun g a hg => ?_⟩
  · have hg : look [(0, [I 0, I 0]), (1, [I m])] g = some cs := hg
    by_cases e : (0 : Nat) = g
    · subst e
      obtain rfl : [I 0, I 0] = cs := Option.some.inj hg
      refine .ref _ [.int .i64 0, .int .i64 0] 0 0 (lt h0) rfl (fun j c u hc hu => ?_) (fun j u hu => ?_)
      · match j, hc, hu with
        | 0, hc, hu => simp at hc hu; subst hc; subst hu; exact .v _
        | 1, hc, hu => simp at hc hu; subst hc; subst hu; exact .v _
        | j + 2, hc, hu => simp at hc
      · rw [← hu]; simp [World.cell?, h0]
    · rw [look_cons_ne e] at hg
      by_cases e1 : (1 : Nat) = g
      · subst e1
        obtain rfl : [I m] = cs := Option.some.inj hg
        refine .ref _ [.int .i64 m] 1 0 (lt h1) rfl (fun j c u hc hu => ?_) (fun j u hu => ?_)
        · match j, hc, hu with
          | 0, hc, hu => simp at hc hu; subst hc; subst hu; exact .v _
          | j + 1, hc, hu => simp at hc
        · rw [← hu]; simp [World.cell?, h1]
      · rw [look_cons_ne e1] at hg
        cases hg
  · have hg : look [(2, (Lib.pow10Tab.map fun z => Value.int .u64 z).toArray)] g = some a := hg
    by_cases e : (2 : Nat) = g
    · subst e
      obtain rfl : _ = a := Option.some.inj hg
      exact ⟨lt h2, t2, f2, h2⟩
    · rw [look_cons_ne e] at hg
      cases hg
theorem trodAll_len {H : Type} {enc : TypeId × Value → H} {P : Program} {w : World} {base : Nat} {spare : Nat → Bool} {held : Bool} : ∀ {ts : List TypeId} {vs : List Value} {ds : List (DataW H)} {ps : List MemPlace}, DataW.TrodAll enc P w base spare held ts vs ds ps → ds.length = ts.length
  | [], [], [], _, h => rfl
  | t :: ts, v :: vs, d :: ds, ps, h => by
    obtain ⟨p, q, _, h2, _⟩ := h
    simp [trodAll_len h2]
  | [], [], _ :: _, _, h => h.elim
  | [], _ :: _, _, _, h => h.elim
  | _ :: _, [], _, _, h => h.elim
  | _ :: _, _ :: _, [], _, h => h.elim
/-- A start that meets the condition. -/
theorem witness {os : Os} {f : FuncId} {fn : Func} {s : ChangeSpec} {H : Type} {enc : TypeId × Value → H} (args : Array Value)
    (hok : Input.okWideB Tryz.prog ((World.laidAll Tryz.prog os listed).forCall (fun _ _ => 0) ⟨#[], args, []⟩) f ⟨#[], args, []⟩ = true)
    (hpre : s.preB enc Tryz.prog fn [] false ((World.laidAll Tryz.prog os listed).forCall (fun _ _ => 0) ⟨#[], args, []⟩).memory args 8 = true)
    (hsz : s.sizedB enc Tryz.prog fn false ((World.laidAll Tryz.prog os listed).forCall (fun _ _ => 0) ⟨#[], args, []⟩).memory args 8 = true)
    (hsh : ((World.laidAll Tryz.prog os listed).forCall (fun _ _ => 0) ⟨#[], args, []⟩).Shaped Tryz.prog)
    (hl : laidMet Tryz.prog listed ((World.laidAll Tryz.prog os listed).forCall (fun _ _ => 0) ⟨#[], args, []⟩).memory) :
    ∃ (w : World) (tape : Tape) (i : Input), w.os = os ∧ (w.forCall tape i).Shaped Tryz.prog ∧ i.vars = [] ∧ Input.okWide Tryz.prog (w.forCall tape i) .any w.heap.size f i ∧
      ((s.pre enc Tryz.prog fn [] false (w.forCall tape i).memory i.args ∧ laidMetH Tryz.prog listed (w.forCall tape i).memory) ∧ sizedMet enc Tryz.prog fn (OpenSpec.ofChange s) false (w.forCall tape i).memory i.args) ∧ ({} : Assume).holds Tryz.prog (lone (Frame.enter Tryz.prog f i.args .normal) [] (w.forCall tape i)) :=
  ChangeSpec.witness_shaped (C := Tryz.checked) (X := fun w _ => laidMetH Tryz.prog listed w) false (World.laidAll Tryz.prog os listed) args 8 (World.laidAll_os _ _ _) hsh hok hpre hsz
    (by rw [MakeChecks.laidMetH_plain _ _ _ (by kernel_rfl)]; exact hl)
theorem lifted_of {os : Os} (started : os.Started) {H : Type} {enc : TypeId × Value → H} {f : FuncId} {fn : Func} {s : ChangeSpec} {ss : List (Bool × List Sh)} (noInit : Tryz.prog.inits.idxOf? f = none) (hfn : Tryz.prog.funcs[f]? = some fn)
    (hw : ∃ (w : World) (tape : Tape) (i : Input), w.os = os ∧ (w.forCall tape i).Shaped Tryz.prog ∧ i.vars = [] ∧ Input.okWide Tryz.prog (w.forCall tape i) .any w.heap.size f i ∧
      ((s.pre enc Tryz.prog fn [] false (w.forCall tape i).memory i.args ∧ laidMetH Tryz.prog listed (w.forCall tape i).memory) ∧ sizedMet enc Tryz.prog fn (OpenSpec.ofChange s) false (w.forCall tape i).memory i.args) ∧ ({} : Assume).holds Tryz.prog (lone (Frame.enter Tryz.prog f i.args .normal) [] (w.forCall tape i)))
    (hr : ∀ t ∈ fn.params.toList, Tryz.prog.readableRec t = true ∧ t < Tryz.prog.types.size) (hres : fn.resultTypes = #[4]) (hts : fn.params.toList.map (paramF Tryz.prog 8) = ss.map some)
    (hv : s.vars = []) (hs : ∀ ds : List (DataW H), ds.length = fn.params.toList.length → (s.fn H ds).results = [.lit (.bool true)] ∧ (s.fn H ds).args = ds ∧ (s.fn H ds).vars = [])
    (law : ∀ (m : Int) (xs : List PV), FitPs ss xs → APure (C m) f xs (Bo true)) :
    ReturnsInHanded {} Tryz.checked os f .any (fun w args => (s.pre enc Tryz.prog fn [] false w args ∧ laidMetH Tryz.prog listed w) ∧ sizedMet enc Tryz.prog fn (OpenSpec.ofChange s) false w args) (s.post enc Tryz.prog fn false true false false) := by
  refine returnsInHanded_of_calls (C := Tryz.checked) own started noInit hw ?_
  intro w tape i _ hshaped _ hok hpre _
  obtain ⟨_, _, _, fn', hfn', _, _, _, _, hval⟩ := hok
  obtain rfl : fn' = fn := Option.some.inj (hfn'.symm.trans hfn)
  obtain ⟨⟨⟨ds, gs, before, hwh, hc⟩, hx⟩, hz⟩ := hpre
  have hW := DataW.Whole.of_heap (w' := w.forCall tape i) (by rfl) hwh
  have hx' : laidMetH Tryz.prog listed (w.forCall tape i) := laidMetH.of_heap (by rfl) hx
  obtain ⟨m, hG⟩ := glob_of hx' hshaped
  have hW' := hW
  obtain ⟨p, q, hA, _, _, _, _⟩ := hW'
  obtain ⟨xs, hf, hrep⟩ := open_params (P := Tryz.prog) (n := 8) hA (fun j t v ht hv => hval j t v (by simpa using ht) (by simpa using hv)) hts
  have := law_calls (C := C m) (fresh := true) (handsOn := false) laidOut hr hres (by kernel_rfl) hv (hs ds (trodAll_len hA)) hW (law m xs hf) hG hrep
  refine this.mono fun e W' ⟨v, he, hp⟩ => ?_
  subst he
  exact ChangeSpec.post_blind hp
abbrev sigSh : List Sh := [.int .i64, .int .i64, .int .i64, .int .i64, .int .i64, .int .i64]
theorem fitL_sig {xs : List PV} (h : FitL sigSh xs) : ∃ s : Sg, xs = sc s := by
  obtain ⟨c1, xs, rfl, h1, h⟩ := h.uncons
  obtain ⟨c2, xs, rfl, h2, h⟩ := h.uncons
  obtain ⟨c3, xs, rfl, h3, h⟩ := h.uncons
  obtain ⟨c4, xs, rfl, h4, h⟩ := h.uncons
  obtain ⟨c5, xs, rfl, h5, h⟩ := h.uncons
  obtain ⟨c6, xs, rfl, h6, h⟩ := h.uncons
  obtain rfl := h.unnil
  obtain ⟨n1, rfl, _⟩ := h1.int_inv
  obtain ⟨n2, rfl, _⟩ := h2.int_inv
  obtain ⟨n3, rfl, _⟩ := h3.int_inv
  obtain ⟨n4, rfl, _⟩ := h4.int_inv
  obtain ⟨n5, rfl, _⟩ := h5.int_inv
  obtain ⟨n6, rfl, _⟩ := h6.int_inv
  exact ⟨⟨⟨n1, n2⟩, ⟨n3, n4⟩, ⟨n5, n6⟩⟩, rfl⟩
theorem fit_sig {x : PV} (h : FitP (true, sigSh) x) : ∃ s : Sg, x = .agg (sc s) := by
  obtain ⟨xs, rfl, h⟩ := h
  obtain ⟨s, rfl⟩ := fitL_sig h
  exact ⟨s, rfl⟩
theorem rows_of {el : List Sh} {α : Type} {f : α → List PV} (hf : ∀ x, FitL el x → ∃ a, x = f a) : ∀ {xs : List (List PV)}, (∀ x ∈ xs, FitL el x) → ∃ l : List α, xs = l.map f
  | [], _ => ⟨[], rfl⟩
  | x :: xs, h => by
    obtain ⟨a, ha⟩ := hf x (h x List.mem_cons_self)
    obtain ⟨l, hl⟩ := rows_of hf (xs := xs) fun y hy => h y (List.mem_cons_of_mem _ hy)
    exact ⟨a :: l, by rw [ha, hl]; rfl⟩
end Go.Proofs.Ab.Tone2
end
