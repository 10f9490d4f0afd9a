/- The machine, the contracts and the walks on which every Area law rests: a part of the proof. -/
import Derived.Test.YtlgkijilmpjdmaaGreatDoorK1
import Derived.OrdersIn
import Derived.RangeFuncCalls
import Derived.Orders
import Derived.LoopNIn
import Derived.TacticsIn
section
/- Each operation's step; a region in the text's order. -/
set_option linter.unusedVariables false
set_option linter.unusedSimpArgs false
namespace Go.Proofs.Ab
open Go Go.RowKit

def memN : List Nat → Nat → Bool
  | [], _ => false
  | m :: r, n => bif Nat.beq m n then true else memN r n
def inMu (mu : List Nat) : Option Nat → Bool
  | some d => memN mu d
  | none => false
/-- Box n has new cells. -/
def setBxK : List (Nat × (Nat × List PV)) → Nat → (Nat × List PV) → (List (Nat × (Nat × List PV)) → Prop) → Prop
  | [], _, _, _ => False
  | (m, y) :: r, n, x, k => bif Nat.beq m n then k ((m, x) :: r) else setBxK r n x fun l => k ((m, y) :: l)
theorem setBxK_sound : ∀ {l : List (Nat × (Nat × List PV))} {n : Nat} {x : Nat × List PV} {k : List (Nat × (Nat × List PV)) → Prop}, setBxK l n x k → ∃ l', k l' ∧ look l' n = some x ∧ ∀ m, m ≠ n → look l' m = look l m
  | [], n, x, k, h => h.elim
  | (m, y) :: r, n, x, k, h => by
    unfold setBxK at h
    cases hb : Nat.beq m n with
    | true =>
      rw [hb] at h
      obtain rfl := Nat.eq_of_beq_eq_true hb
      exact ⟨_, h, look_cons_self, fun i hi => by rw [look_cons_ne (Ne.symm hi), look_cons_ne (Ne.symm hi)]⟩
    | false =>
      rw [hb] at h
      obtain ⟨l', hk, h1, h2⟩ := setBxK_sound h
      have hne : m ≠ n := fun e => by rw [e, Nat.beq_refl] at hb; cases hb
      refine ⟨_, hk, by rw [look_cons_ne hne]; exact h1, fun i hi => ?_⟩
      by_cases e : m = i
      · subst e; rw [look_cons_self, look_cons_self]
      · rw [look_cons_ne e, look_cons_ne e]; exact h2 i hi

structure SAll {α : Type} (p : α → Prop) : Prop where
  h : ∀ x, p x
def setObK : List (Nat × Ob) → Nat → Ob → (List (Nat × Ob) → Prop) → Prop
  | [], _, _, _ => False
  | (m, y) :: r, n, x, k => bif Nat.beq m n then k ((m, x) :: r) else setObK r n x fun l => k ((m, y) :: l)
theorem setObK_sound : ∀ {l : List (Nat × Ob)} {n : Nat} {x : Ob} {k : List (Nat × Ob) → Prop}, setObK l n x k → ∃ l', k l' ∧ look l' n = some x ∧ ∀ m, m ≠ n → look l' m = look l m
  | [], n, x, k, h => h.elim
  | (m, y) :: r, n, x, k, h => by
    unfold setObK at h
    cases hb : Nat.beq m n with
    | true =>
      rw [hb] at h
      obtain rfl := Nat.eq_of_beq_eq_true hb
      exact ⟨_, h, look_cons_self, fun i hi => by rw [look_cons_ne (Ne.symm hi), look_cons_ne (Ne.symm hi)]⟩
    | false =>
      rw [hb] at h
      obtain ⟨l', hk, h1, h2⟩ := setObK_sound h
      have hne : m ≠ n := fun e => by rw [e, Nat.beq_refl] at hb; cases hb
      refine ⟨_, hk, by rw [look_cons_ne hne]; exact h1, fun i hi => ?_⟩
      by_cases e : m = i
      · subst e; rw [look_cons_self, look_cons_self]
      · rw [look_cons_ne e, look_cons_ne e]; exact h2 i hi
def setRwK : List (Nat × (Nat × Nat × List (List PV))) → Nat → (Nat × Nat × List (List PV)) → (List (Nat × (Nat × Nat × List (List PV))) → Prop) → Prop
  | [], _, _, _ => False
  | (m, y) :: r, n, x, k => bif Nat.beq m n then k ((m, x) :: r) else setRwK r n x fun l => k ((m, y) :: l)
theorem setRwK_sound : ∀ {l : List (Nat × (Nat × Nat × List (List PV)))} {n : Nat} {x : Nat × Nat × List (List PV)} {k : List (Nat × (Nat × Nat × List (List PV))) → Prop}, setRwK l n x k → ∃ l', k l' ∧ look l' n = some x ∧ ∀ m, m ≠ n → look l' m = look l m
  | [], n, x, k, h => h.elim
  | (m, y) :: r, n, x, k, h => by
    unfold setRwK at h
    cases hb : Nat.beq m n with
    | true =>
      rw [hb] at h
      obtain rfl := Nat.eq_of_beq_eq_true hb
      exact ⟨_, h, look_cons_self, fun i hi => by rw [look_cons_ne (Ne.symm hi), look_cons_ne (Ne.symm hi)]⟩
    | false =>
      rw [hb] at h
      obtain ⟨l', hk, h1, h2⟩ := setRwK_sound h
      have hne : m ≠ n := fun e => by rw [e, Nat.beq_refl] at hb; cases hb
      refine ⟨_, hk, by rw [look_cons_ne hne]; exact h1, fun i hi => ?_⟩
      by_cases e : m = i
      · subst e; rw [look_cons_self, look_cons_self]
      · rw [look_cons_ne e, look_cons_ne e]; exact h2 i hi
def Ob.isSi : Ob → Bool
  | .siter _ _ _ => true
  | _ => false
/-- A string's next letter. -/
def nextK (nt : Nat) (s : AS) (dst : Option Nat) (x : SV) (K : AS → Prop) : Prop :=
  match x with
  | .p (.v (.pointer (some ⟨g, 0, _⟩))) => nameK Ob.isSi s.ob fun n => lookK s.ob n fun y => match y with
    | .siter g' b pos => SAnd (g' = g) <| SBool (pos < b.size)
        (SEx (fun cw : Nat × Nat => Utf8.decode b pos = cw) fun cw => setObK s.ob n (.siter g' b (pos + cw.2)) fun ob => setOb s ob fun s' => putFK nt s' dst (.p (.tup [Bo true, I pos, .v (.int .i32 cw.1)])) K)
        (putFK nt s dst (.p (.tup [Bo false])) K)
    | _ => False
  | _ => False
def mpPut : List (ByteArray × Value) → ByteArray → Value → List (ByteArray × Value)
  | [], k, v => [(k, v)]
  | p :: r, k, v => if k = p.1 then (k, v) :: r else p :: mpPut r k v
/-- A map with strings for keys, written. -/
def mapUpK (C : Cx) (s : AS) (t : Nat) (m y x : SV) (K : AS → Prop) : Prop :=
  match m, y, x with
  | .p (.v (.map (some g))), .p (.v (.string key)), .p (.v v) => mpK s.ob fun n g' es => SAnd (g' = g) <| lookK C.tab t fun ti => match ti.kind with
    | .map kt _ => lookK C.tab kt fun tk => (match tk.kind with
      | .string => setObK s.ob n (.mp g' (mpPut es key v)) fun ob => setOb s ob K
      | _ => False)
    | _ => False
  | _, _, _ => False
/-- make([]T, n): an element is one cell. -/
def makeSlK (C : Cx) (nt : Nat) (s : AS) (dst : Option Nat) (t : Nat) (x y : SV) (K : AS → Prop) : Prop :=
  match x, y with
  | .p (.v (.int _ n)), .p (.v (.int _ m)) => lookK C.tab t fun ti => match ti.kind with
    | .slice e => lookK C.tab e fun te => (match te.zero with
      | [z] => bif Nat.beq te.size 1 then SAnd (m = n ∧ 0 ≤ n ∧ te.bytes * n ≤ 281474976710656 ∧ n ≤ 9223372036854775807) (addRw s s.rw (e, 1, List.replicate n.toNat [.v z]) fun s' m => putFK nt s' dst (.own m) K) else False
      | _ => False)
    | _ => False
  | _, _ => False
def setRw (s : AS) (rw : List (Nat × (Nat × Nat × List (List PV)))) (K : AS → Prop) : Prop := match s with | ⟨f, b, _, n, v, o, d⟩ => K ⟨f, b, rw, n, v, o, d⟩
theorem setRw_eq {s : AS} {rw : List (Nat × (Nat × Nat × List (List PV)))} {K : AS → Prop} : setRw s rw K = K { s with rw := rw } := rfl
/-- copy(x, y): x a row of the frame's own; an element is one cell. -/
def copyK (C : Cx) (nt : Nat) (s : AS) (dst : Option Nat) (t : Nat) (x y : SV) (K : AS → Prop) : Prop :=
  lookK C.tab t fun ti => match ti.kind with
    | .slice e => lookK C.tab e fun te => bif Nat.beq te.size 1 then (match x, y with
      | .own m, .p (.seq sz ys) => lookK s.rw m fun r => bif Nat.beq r.2.1 1 && Nat.beq sz 1 then
          SAnd (∀ c ∈ ys.flatten, c.one = true) (setRwK s.rw m (r.1, r.2.1, ys.take r.2.2.length ++ r.2.2.drop ys.length) fun rw => setRw s rw fun s' => putFK nt s' dst (.p (I (min ys.length r.2.2.length : Nat))) K) else False
      | _, _ => False) else False
    | _ => False
/-- A literal that will be appended to: a row of the frame's own. -/
def buildOwnK (C : Cx) (nt : Nat) (s : AS) (dst : Option Nat) (t n : Nat) (is : List Nat) (xs : List SV) (K : AS → Prop) : Prop :=
  lookK C.tab t fun ti => match ti.kind with
    | .slice e => lookK C.tab e fun te => bif Nat.beq n is.length && Nat.ble (n * te.size) 16777216 && Nat.blt 0 te.size then elemsK te.size 0 is xs fun l => addRw s s.rw (e, te.size, l) fun s' m => putFK nt s' dst (.own m) K else False
    | _ => False
/-- Zero cells with their numbers. -/
def numK : Nat → List Value → (Nat → List (Nat × SV) → Prop) → Prop
  | j, [], k => k j []
  | j, z :: zs, k => numK (j + 1) zs fun n sn => k n ((j, .p (.v z)) :: sn)
theorem numK_sound : ∀ {zs : List Value} {j : Nat} {k : Nat → List (Nat × SV) → Prop}, numK j zs k → ∃ sn, k (j + zs.length) sn ∧ ∀ t v, look sn t = some v → j ≤ t ∧ ∃ c, (zs.map PV.v)[t - j]? = some c ∧ v = .p c
  | [], j, k, h => ⟨[], h, fun t v hv => by cases hv⟩
  | z :: zs, j, k, h => by
    obtain ⟨sn, hk, hs⟩ := numK_sound (zs := zs) (j := j + 1) (k := fun n sn => k n ((j, .p (.v z)) :: sn)) h
    refine ⟨(j, .p (.v z)) :: sn, by rw [List.length_cons, show j + (zs.length + 1) = j + 1 + zs.length by omega]; exact hk, fun t v hv => ?_⟩
    by_cases e : j = t
    · subst e
      rw [look_cons_self] at hv
      injection hv with hv
      exact ⟨Nat.le_refl _, .v z, by simp, hv.symm⟩
    · rw [look_cons_ne e] at hv
      obtain ⟨h1, c, h2, h3⟩ := hs t v hv
      refine ⟨by omega, c, ?_, h3⟩
      rw [show t - j = (t - (j + 1)) + 1 by omega]
      simpa using h2
/-- A variable that will hold a row. -/
def allocHK (nt : Nat) (s : AS) (dst : Option Nat) (t : Nat) (ti : TI) (K : AS → Prop) : Prop := match ti.zero with
  | [z] => SAll fun g : Nat => match s with | ⟨f, b, r, n, v, o, d⟩ => putFK nt ⟨f, b, r, n + 1, v, (n, .hold g t (.p (.v z))) :: o, d⟩ dst (.box n 0) K
  | zs => numK 0 zs fun nc sn => SAll fun g : Nat => match s with | ⟨f, b, r, n, v, o, d⟩ => putFK nt ⟨f, b, r, n + 1, v, (n, .hst g t nc sn) :: o, d⟩ dst (.box n 0) K
/-- What such a variable may hold. -/
def rowB : SV → Bool
  | .own _ => true
  | .p (.seq _ _) => true
  | .p (.v (.slice _ _ _)) => true
  | _ => false
def ownK (s : AS) (x : SV) (k : Prop) : Prop := match x with
  | .own m => lookK s.rw m fun _ => k
  | _ => k
/-- Cells off .. written. -/
def putsK : List (Nat × SV) → Nat → List PV → (List (Nat × SV) → Prop) → Prop
  | sn, _, [], k => k sn
  | sn, off, d :: ds, k => eraseK sn off fun sn' => putsK ((off, .p d) :: sn') (off + 1) ds k
theorem putsK_sound : ∀ {ds : List PV} {sn : List (Nat × SV)} {off : Nat} {k : List (Nat × SV) → Prop}, putsK sn off ds k → ∃ sn', k sn' ∧ ∀ t v, look sn' t = some v → (off ≤ t ∧ ∃ d, ds[t - off]? = some d ∧ v = .p d) ∨ ((t < off ∨ off + ds.length ≤ t) ∧ look sn t = some v)
  | [], sn, off, k, h => ⟨sn, h, fun t v hv => .inr ⟨by simp only [List.length_nil]; omega, hv⟩⟩
  | d :: ds, sn, off, k, h => by
    obtain ⟨sn1, h, h1⟩ := eraseK_sound h
    obtain ⟨sn2, hk, h2⟩ := putsK_sound (ds := ds) h
    refine ⟨sn2, hk, fun t v hv => ?_⟩
    rcases h2 t v hv with ⟨h3, d', h4, h5⟩ | ⟨h3, h4⟩
    · refine .inl ⟨by omega, d', ?_, h5⟩
      rw [show t - off = (t - (off + 1)) + 1 by omega]
      simpa using h4
    · by_cases e : off = t
      · subst e
        rw [look_cons_self] at h4
        injection h4 with h4
        exact .inl ⟨Nat.le_refl _, d, by simp, h4.symm⟩
      · rw [look_cons_ne e] at h4
        refine .inr ⟨by simp only [List.length_cons]; omega, h1 t (Ne.symm e) v h4⟩
/-- A store into a variable whose cells may hold rows. -/
def storeHsK (s : AS) (g T nc n off : Nat) (sn : List (Nat × SV)) (ti : TI) (x : SV) (K : AS → Prop) : Prop := match x with
  | .own m => lookK s.rw m fun _ => bif Nat.beq ti.size 1 && Nat.blt off nc then eraseK sn off fun sn' => setObK s.ob n (.hst g T nc ((off, .own m) :: sn')) fun ob => setOb s ob K else False
  | x => cellsK x fun ds => onesK ds <| bif Nat.beq ds.length ti.size && Nat.blt 0 ti.size && Nat.ble (off + ti.size) nc then putsK sn off ds fun sn' => setObK s.ob n (.hst g T nc sn') fun ob => setOb s ob K else False
def storeHK (C : Cx) (s : AS) (t n off : Nat) (x : SV) (K : AS → Prop) (no : Prop) : Prop :=
  lookE s.ob n (fun o => match o with
    | .hold g T _ => bif rowB x && Nat.beq off 0 then ownK s x <| lookK C.tab t fun ti => bif Nat.beq ti.size 1 then setObK s.ob n (.hold g T x) fun ob => setOb s ob K else False else False
    | .hst g T nc sn => lookK C.tab t fun ti => storeHsK s g T nc n off sn ti x K
    | _ => no) no
def storeK (C : Cx) (s : AS) (t : Nat) (p x : SV) (K : AS → Prop) : Prop :=
  match p with
  | .box n off => storeHK C s t n off x K (lookK C.tab t fun ti => cellsK x fun ds => onesK ds <| bif Nat.beq ds.length ti.size && Nat.blt 0 ti.size then lookK s.bx n fun y => putK y.2 off ds fun l => setBxK s.bx n (y.1, l) fun bx => setBx s bx K else False)
  | .rowp m off => lookK C.tab t fun ti => cellsK x fun ds => onesK ds <| bif Nat.beq ds.length ti.size && Nat.blt 0 ti.size then lookK s.rw m fun y =>
      SEx (fun xs => xs.flatten = y.2.2.flatten.take off ++ ds ++ y.2.2.flatten.drop (off + ds.length) ∧ off + ds.length ≤ y.2.2.flatten.length ∧ xs.length = y.2.2.length ∧ ∀ x ∈ xs, x.length = y.2.1) fun xs =>
        setRwK s.rw m (y.1, y.2.1, xs) fun rw => setRw s rw K else False
  | _ => False
/-- append(x, y...): x a row of the frame's own, or nil. -/
def appendK (C : Cx) (nt : Nat) (s : AS) (dst : Option Nat) (t : Nat) (x y : SV) (K : AS → Prop) : Prop :=
  lookK C.tab t fun ti => match ti.kind with
    | .slice e => lookK C.tab e fun te => bif Nat.blt 0 te.size && Nat.beq te.zero.length te.size then (match y with
      | .p (.v (.slice none 0 0)) => (match x with
        | .own n => lookK s.rw n fun r => bif Nat.beq r.1 e then putFK nt s dst (.own n) K else False
        | .p (.v (.slice none 0 0)) => putFK nt s dst (.p nilS) K
        | _ => False)
      | .p (.seq sz ys) => bif Nat.beq sz te.size then (match x with
        | .own n => lookK s.rw n fun r => bif Nat.beq r.1 e && Nat.beq r.2.1 te.size then
            SAnd ((∀ c ∈ ys.flatten, c.one = true) ∧ (r.2.2.length + ys.length) * te.bytes ≤ 140737488355328 ∧ r.2.2.length + ys.length ≤ 9223372036854775807)
              (strikeK s.rw n fun rw => addRw s rw (e, te.size, r.2.2 ++ ys) fun s' m => putFK nt s' dst (.own m) K) else False
        | .p (.v (.slice none 0 0)) =>
            SAnd ((∀ c ∈ ys.flatten, c.one = true) ∧ ys.length * te.bytes ≤ 140737488355328 ∧ ys.length ≤ 9223372036854775807)
              (addRw s s.rw (e, te.size, ys) fun s' m => putFK nt s' dst (.own m) K)
        | _ => False) else False
      | _ => False) else False
    | _ => False
/-- A slot, if it is told. -/
def lookD (l : List (Nat × SV)) (t : Nat) (k : SV → Prop) (no : Prop) : Prop :=
  match l with
  | [] => no
  | (n, x) :: r => bif Nat.beq n t then k x else lookD r t k no
theorem lookD_sound {t : Nat} {k : SV → Prop} {no : Prop} : ∀ {l : List (Nat × SV)}, lookD l t k no → (∃ x, look l t = some x ∧ k x) ∨ no
  | [], h => .inr h
  | (n, x) :: r, h => by
    unfold lookD at h
    unfold look
    cases hb : Nat.beq n t with
    | true => rw [hb] at h; exact .inl ⟨x, rfl, h⟩
    | false => rw [hb] at h; exact lookD_sound h
/-- Rows among a call's operands are written no more. -/
def sealOpsK (s : AS) : List Operand → (AS → Prop) → Prop
  | [], K => K s
  | A :: As, K => match A with
    | .tmp t => lookD s.fr t (fun x => match x with
      | .own n => sealK s n fun s' => sealOpsK s' As K
      | _ => sealOpsK s As K) (sealOpsK s As K)
    | _ => sealOpsK s As K
/-- A row that is stored into a plain variable is written no more. -/
def sealStK (s : AS) (A x : Operand) (K : AS → Prop) : Prop := match A with
  | .tmp t => lookD s.fr t (fun p => match p with
    | .box n _ => lookE s.bx n (fun _ => sealOpsK s [x] K) (K s)
    | _ => K s) (K s)
  | _ => K s
/-- Boxes among the operands are written no more. -/
def freezeOpsK (s : AS) : List Operand → (AS → Prop) → Prop
  | [], K => K s
  | A :: As, K => match A with
    | .tmp t => lookD s.fr t (fun x => match x with
      | .box n _ => freezeK s n fun s' => freezeOpsK s' As K
      | _ => freezeOpsK s As K) (freezeOpsK s As K)
    | _ => freezeOpsK s As K
/-! ### Calls that may write what the frame owns: the callee is stepped through where it is called -/
/-- Function f, called with xs from state s, returns; what it gives and the state then: K. -/
structure ACall (C : Cx) (nt : Nat) (s : AS) (f : FuncId) (xs : List SV) (K : SV → AS → Prop) : Prop where
  body : HasBody C f
  h : ∀ (B : Nat) (ok0 : Base) (w0 : World) (a : Act) (w : World) (E : Env) (us : List Value) (R : Value → World → Prop), Sat C nt s B ok0 w0 a w E → SRepL w E xs us →
    (∀ v s' u w' E', K v s' → Sat C nt s' B ok0 w0 a w' E' → SRep w' E' v u → R u w') → Calls C.P f us.toArray w (fun e w' => ∃ u, e = .returned u ∧ R u w')
def capK : List Cap → (List SV → Prop) → Prop
  | [], k => k []
  | .p x :: r, k => capK r fun l => k (.p x :: l)
  | .box n off :: r, k => capK r fun l => k (.box n off :: l)
def svK : List PV → (List SV → Prop) → Prop
  | [], k => k []
  | x :: r, k => svK r fun l => k (.p x :: l)
def apS : List SV → List SV → (List SV → Prop) → Prop
  | [], d, k => k d
  | c :: cs, d, k => apS cs d fun l => k (c :: l)
theorem apS_sound : ∀ {cs d : List SV} {k : List SV → Prop}, apS cs d k → k (cs ++ d)
  | [], d, k, h => h
  | c :: cs, d, k, h => apS_sound (cs := cs) (d := d) (k := fun l => k (c :: l)) h
theorem svK_sound : ∀ {cs : List PV} {k : List SV → Prop}, svK cs k → k (cs.map SV.p)
  | [], k, h => h
  | c :: cs, k, h => svK_sound (cs := cs) (k := fun l => k (.p c :: l)) h
def capSV : Cap → SV
  | .p x => .p x
  | .box n off => .box n off
theorem capK_sound : ∀ {cs : List Cap} {k : List SV → Prop}, capK cs k → k (cs.map capSV)
  | [], k, h => h
  | .p x :: cs, k, h => capK_sound (cs := cs) (k := fun l => k (.p x :: l)) h
  | .box n off :: cs, k, h => capK_sound (cs := cs) (k := fun l => k (.box n off :: l)) h
def inlK (C : Cx) (nt : Nat) (o : Oper) (s : AS) (ys : List SV) (K : AS → Prop) : Prop :=
  match ys with
  | .clo g cs :: xs => capK cs fun l => apS xs l fun zs => ACall C nt s g zs fun v s' => putFK nt s' o.dst v K
  | .p (.fn g cs) :: xs => svK cs fun l => apS xs l fun zs => ACall C nt s g zs fun v s' => putFK nt s' o.dst v K
  | .bnd g cs :: xs => capK cs fun l => apS l xs fun zs => ACall C nt s g zs fun v s' => putFK nt s' o.dst v K
  | _ => False
def isClo : List SV → Bool
  | .clo _ _ :: _ => true
  | .bnd _ _ :: _ => true
  | _ => false
def cloK : List SV → (List Cap → Prop) → Prop
  | [], k => k []
  | .p x :: r, k => cloK r fun l => k (.p x :: l)
  | .box n off :: r, k => cloK r fun l => k (.box n off :: l)
  | _ :: _, _ => False
theorem cloK_sound : ∀ {xs : List SV} {k : List Cap → Prop}, cloK xs k → ∃ cs, k cs ∧ xs = cs.map capSV
  | [], k, h => ⟨[], h, rfl⟩
  | .p x :: r, k, h => let ⟨cs, hk, e⟩ := cloK_sound (xs := r) (k := fun l => k (.p x :: l)) h; ⟨_, hk, by simp [e, capSV]⟩
  | .box n off :: r, k, h => let ⟨cs, hk, e⟩ := cloK_sound (xs := r) (k := fun l => k (.box n off :: l)) h; ⟨_, hk, by simp [e, capSV]⟩
  | .own _ :: _, _, h => h.elim
  | .rowp _ _ :: _, _, h => h.elim
  | .clo _ _ :: _, _, h => h.elim
  | .bnd _ _ :: _, _, h => h.elim
theorem capRep_iff {w : World} {E : Env} {c : Cap} {u : Value} : CapRep w E c u ↔ SRep w E (capSV c) u := by cases c <;> exact Iff.rfl
def valueK (C : Cx) (nt : Nat) (o : Oper) (s : AS) (K : AS → Prop) : Prop :=
  opersK C s o.op.operands.toList fun xs => vop C s o xs fun v => putFK nt s o.dst v K
/-- One operation. (mu: the slots whose boxes will be written, and whose literals appended to.) -/
def stepK (C : Cx) (nt : Nat) (mu : List Nat) (o : Oper) (s : AS) (K : AS → Prop) : Prop :=
  match o.op with
  | .alloc t => lookK C.tab t fun ti => bif inMu mu (o.dst.map (· + 1000)) then allocHK nt s o.dst t ti K else zeroK ti.zero fun z => addBx s (t, z) fun s' n => putFK nt s' o.dst (.box n 0) K
  | .store t A x => (match o.dst with
    | none => sealStK s A x fun s' => operK C s' A fun p => operK C s' x fun v => storeK C s' t p v K
    | some _ => False)
  | .box t A => bif inMu mu o.dst then
      operK C s A fun x => cellsK x fun cs => addBx s (t, cs) fun s' n => putFK nt s' o.dst (.box n 0) K else valueK C nt o s K
  | .call { callee := .builtin .append, args := ⟨[X, Y]⟩, argTypes := ⟨[t, t']⟩ } => bif Nat.beq t t' then operK C s X fun x => operK C s Y fun y => appendK C nt s o.dst t x y K else False
  | .call { callee := .builtin .copy, args := ⟨[X, Y]⟩, argTypes := ⟨[t, _]⟩ } => operK C s X fun x => operK C s Y fun y => copyK C nt s o.dst t x y K
  | .range t A => operK C s A fun x => lookK C.tab t fun ti => (match ti.kind with
    | .string => (match x with
      | .p (.v (.string b)) => SAll fun g : Nat => addOb s (.siter g b 0) fun s' => putFK nt s' o.dst (.p (.v (.pointer (some ⟨g, 0, none⟩)))) K
      | _ => False)
    | _ => False)
  | .next A true => operK C s A fun x => nextK nt s o.dst x K
  | .makeMap _ none => SAll fun g : Nat => addOb s (.mp g []) fun s' => putFK nt s' o.dst (.p (.v (.map (some g)))) K
  | .mapUpdate t M A X => (match o.dst with
    | none => operK C s M fun m => operK C s A fun y => operK C s X fun x => mapUpK C s t m y x K
    | some _ => False)
  | .insert t M A X => (match o.dst with
    | none => operK C s M fun m => operK C s A fun y => operK C s X fun x => mapUpK C s t m y x K
    | some _ => False)
  | .makeSlice t L M => operK C s L fun x => operK C s M fun y => makeSlK C nt s o.dst t x y K
  | .buildSlice t n parts => bif inMu mu (o.dst.map (· + 1000)) then opersK C s o.op.operands.toList fun xs => buildOwnK C nt s o.dst t n (parts.toList.map (·.1)) xs K else valueK C nt o s K
  | .call { callee := .value _, args := args, .. } => bif inMu mu o.dst then opersK C s o.op.operands.toList fun ys => inlK C nt o s ys K
      else sealOpsK s args.toList fun s' => opersK C s' o.op.operands.toList fun ys => bif isClo ys then inlK C nt o s' ys K else vop C s' o ys fun v => putFK nt s' o.dst v K
  | .slice _ A none none none => freezeOpsK s [A] fun s' => valueK C nt o s' K
  | .makeFunc (.func g) ⟨[]⟩ caps => bif inMu mu o.dst then opersK C s caps.toList fun xs => cloK xs fun cs => putFK nt s o.dst (.clo g cs) K else freezeOpsK s caps.toList fun s' => valueK C nt o s' K
  | .makeFunc (.func g) bs ⟨[]⟩ => bif inMu mu o.dst then opersK C s bs.toList fun xs => cloK xs fun cs => putFK nt s o.dst (.bnd g cs) K else False
  | .makeFunc _ _ caps => freezeOpsK s caps.toList fun s' => valueK C nt o s' K
  | _ => valueK C nt o s K

/-- What is asked of a step: it can be carried out, and what it comes to is a state that K holds of. -/
def Steps1 (C : Cx) (nt : Nat) (o : Oper) (s : AS) (K : AS → Prop) : Prop :=
  ∀ (B : Nat) (ok0 : Base) (w0 : World) (a : Act) (w : World) (E : Env) (next : Act → World → Prop) (Q : Exit → Act → World → Prop), Sat C nt s B ok0 w0 a w E →
    (∀ s' a' w' E', K s' → Sat C nt s' B ok0 w0 a' w' E' → next a' w') → o.wp C.P a w next Q

section
variable {C : Cx} {nt : Nat} {s : AS} {o : Oper} {K : AS → Prop}

theorem valueK_sound (hC : C.Good) (h : valueK C nt o s K) : Steps1 C nt o s K := by
  obtain ⟨xs, h, hxs⟩ := opersK_sound (nt := nt) h
  obtain ⟨v, hv, h⟩ := vop_sound hC h
  obtain ⟨s', hk, _, _, _, hput⟩ := putFK_sound (C := C) h
  intro B ok0 w0 a w E next Q hS hn
  exact wp_of_vok hv hS (hxs hS) (fun w' E' u hS' hu _ => hn s' _ w' E' hk (hput hS' hu))

theorem sealOpsK_sound : ∀ {As : List Operand} {s : AS} {K : AS → Prop}, sealOpsK s As K → ∃ s', K s' ∧ ∀ {B : Nat} {ok0 : Base} {w0 : World} {a : Act} {w : World} {E : Env}, Sat C nt s B ok0 w0 a w E → ∃ E', Sat C nt s' B ok0 w0 a w E'
  | [], s, K, h => ⟨s, h, fun h => ⟨_, h⟩⟩
  | A :: As, s, K, h => by
    cases A with
    | tmp t =>
      rcases lookD_sound h with ⟨x, hx, h⟩ | h
      case inr => exact sealOpsK_sound (As := As) h
      cases x with
      | own n =>
        obtain ⟨s1, h, h1⟩ := sealK_sound (C := C) (nt := nt) h
        obtain ⟨s2, h, h2⟩ := sealOpsK_sound h
        exact ⟨s2, h, fun hS => let ⟨_, hS'⟩ := h1 hS; h2 hS'⟩
      | p x => exact sealOpsK_sound (As := As) h
      | box n off => exact sealOpsK_sound (As := As) h
      | rowp n off => exact sealOpsK_sound (As := As) h
      | clo _ _ => exact sealOpsK_sound (As := As) h
      | bnd _ _ => exact sealOpsK_sound (As := As) h
    | const v => exact sealOpsK_sound (As := As) h
    | func f => exact sealOpsK_sound (As := As) h
    | global g => exact sealOpsK_sound (As := As) h
theorem sealStK_sound {A x : Operand} {s : AS} {K : AS → Prop} (h : sealStK s A x K) : ∃ s', K s' ∧ ∀ {B : Nat} {ok0 : Base} {w0 : World} {a : Act} {w : World} {E : Env}, Sat C nt s B ok0 w0 a w E → ∃ E', Sat C nt s' B ok0 w0 a w E' := by
  have no : K s → ∃ s', K s' ∧ ∀ {B : Nat} {ok0 : Base} {w0 : World} {a : Act} {w : World} {E : Env}, Sat C nt s B ok0 w0 a w E → ∃ E', Sat C nt s' B ok0 w0 a w E' := fun h => ⟨s, h, fun hS => ⟨_, hS⟩⟩
  unfold sealStK at h
  split at h
  · rcases lookD_sound h with ⟨y, _, h⟩ | h
    · split at h
      · rcases lookE_sound h with ⟨_, _, h⟩ | h
        · exact sealOpsK_sound h
        · exact no h
      · exact no h
    · exact no h
  · exact no h
theorem freezeOpsK_sound : ∀ {As : List Operand} {s : AS} {K : AS → Prop}, freezeOpsK s As K → ∃ s', K s' ∧ ∀ {B : Nat} {ok0 : Base} {w0 : World} {a : Act} {w : World} {E : Env}, Sat C nt s B ok0 w0 a w E → ∃ E', Sat C nt s' B ok0 w0 a w E'
  | [], s, K, h => ⟨s, h, fun h => ⟨_, h⟩⟩
  | A :: As, s, K, h => by
    cases A with
    | tmp t =>
      rcases lookD_sound h with ⟨x, hx, h⟩ | h
      case inr => exact freezeOpsK_sound (As := As) h
      cases x with
      | box n off =>
        obtain ⟨s1, h, h1⟩ := freezeK_sound (C := C) (nt := nt) h
        obtain ⟨s2, h, h2⟩ := freezeOpsK_sound h
        exact ⟨s2, h, fun hS => let ⟨_, hS'⟩ := h1 hS; h2 hS'⟩
      | p x => exact freezeOpsK_sound (As := As) h
      | own n => exact freezeOpsK_sound (As := As) h
      | rowp n off => exact freezeOpsK_sound (As := As) h
      | clo _ _ => exact freezeOpsK_sound (As := As) h
      | bnd _ _ => exact freezeOpsK_sound (As := As) h
    | const v => exact freezeOpsK_sound (As := As) h
    | func f => exact freezeOpsK_sound (As := As) h
    | global g => exact freezeOpsK_sound (As := As) h

theorem newBox_sound {t : Nat} {cs : List PV} {us : World → Env → Act → List Value} (hr : ∀ B ok0 w0 a w E, Sat C nt s B ok0 w0 a w E → RepL w E.ok cs (us w E a))
    (hrun : ∀ B ok0 w0 a w E, Sat C nt s B ok0 w0 a w E → (execOp a.eval o).run C.P w = .ok (.value (.pointer (some ⟨w.heap.size, 0, none⟩))) (w.alloc (.cells (us w E a).toArray t)))
    (h : putFK nt { s with bx := (s.nx, (t, cs)) :: s.bx, nx := s.nx + 1 } o.dst (.box s.nx 0) K) : Steps1 C nt o s K := by
  obtain ⟨s', hk, _, _, _, hput⟩ := putFK_sound (C := C) h
  intro B ok0 w0 a w E next Q hS hn
  obtain ⟨E', hle, hs, hS'⟩ := hS.newBox t (hr B ok0 w0 a w E hS)
  unfold Oper.wp
  rw [hrun B ok0 w0 a w E hS]
  exact hn s' _ _ E' hk (hput hS' hs)

theorem run_storeVar {P : Program} {t : Nat} {ti : TI} (ht : TI.Ok P t ti) (w : World) (g off : Nat) (T : Nat) (v : Value) (cur : Array Value) (hg : w.heap[g]? = some (.cells cur T (0, 0))) (hv : v.cells.size = ti.size) (hfit : off + v.cells.size ≤ cur.size) (h1 : ∀ u ∈ v.cells.toList, u.oneCell' = true) :
    (storeVar t ⟨g, off, none⟩ v).run P w = .ok () (w.setRow g (cur.toList.take off ++ v.cells.toList ++ cur.toList.drop (off + v.cells.size)).toArray) := by
  have := run_storeCells_at P g off T v.cells.toList 0 cur w hg (by simpa using hfit) h1
  simp only [Nat.add_zero, Array.length_toList] at this
  simp [storeVar, ht.sizeOf_run, hv, this]

/-- A store into a row. -/
theorem Sat.storeRow {B : Nat} {ok0 : Base} {w0 : World} {a : Act} {w : World} {E : Env} (h : Sat C nt s B ok0 w0 a w E) {m e sz : Nat} {xs xs' : List (List PV)} (hm : look s.rw m = some (e, sz, xs)) {g len cap : Nat} (hv : E.ν m = some (.slice (some ⟨g, 0, none⟩) len cap))
    {us ds : List Value} {off : Nat} {cur : Array Value} (hcur : w.heap[g]? = some (.cells cur e (0, 0))) (hus : w.ownsRow B e sz (.slice (some ⟨g, 0, none⟩) len cap) xs.length us) (hok : ∀ k, (Value.slice (some ⟨g, 0, none⟩) len cap).ownBlock = some k → ¬ E.ok k)
    (hfit : off + ds.length ≤ us.length) (hr : RepL w E.ok xs'.flatten (us.take off ++ ds ++ us.drop (off + ds.length))) (hlen : xs'.length = xs.length) (hsz : ∀ x ∈ xs', x.length = sz) {rw' : List (Nat × (Nat × Nat × List (List PV)))}
    (hself : look rw' m = some (e, sz, xs')) (hother : ∀ k, k ≠ m → look rw' k = look s.rw k) :
    Sat C nt { s with rw := rw' } B ok0 w0 a (w.setRow g (cur.toList.take off ++ ds ++ cur.toList.drop (off + ds.length)).toArray) E := by
  generalize hcs : (cur.toList.take off ++ ds ++ cur.toList.drop (off + ds.length)).toArray = cs
  have hgok : ¬ E.ok g := hok g rfl
  have hoth : ∀ k, k ≠ g → (w.setRow g cs).heap[k]? = w.heap[k]? := fun k hk => setRow_other w g k _ hk
  have hh : ∀ b, E.ok b → (w.setRow g cs).heap[b]? = w.heap[b]? := fun b hk => hoth b (fun e => hgok (e ▸ hk))
  have hle : E.Le E := ⟨fun _ h => h, fun _ _ h => h, fun _ _ h => h⟩
  have hsize : (w.setRow g cs).heap.size = w.heap.size := by simp [World.setRow]
  have hB : B ≤ g := (hus.lt g rfl).1
  have hgrow : w.grownBy (w.setRow g cs) (some g) := ⟨rfl, rfl, rfl, by simp [World.setRow], fun k hk hk2 => hoth k (fun e => hk2 (by rw [e]))⟩
  have look_of : ∀ k x, look rw' k = some x → ∃ y, look s.rw k = some y := fun k x hk => by
    by_cases e2 : k = m
    · subst e2; exact ⟨_, hm⟩
    · rw [hother k e2] at hk; exact ⟨_, hk⟩
  have hgb : ∀ n x, look s.bx n = some x → E.β n ≠ some g := fun n x hn hg => h.br n m _ _ g _ hn hm hg hv rfl
  have hown : (w.setRow g cs).ownsRow B e sz (.slice (some ⟨g, 0, none⟩) len cap) xs'.length (us.take off ++ ds ++ us.drop (off + ds.length)) := by
    rw [hlen]
    rcases hus.2 with ⟨h1, _⟩ | ⟨g', cap', cur', h1, h2, h3, h4, h5, h6, h7⟩
    · cases h1
    · injection h1 with h1 h1' h1''
      injection h1 with h1
      injection h1 with h1
      subst h1; subst h1''
      rw [hcur] at h3
      injection h3 with h3
      injection h3 with h3
      subst h3
      have hul := hus.1
      have hcl : cur.toList.length = cap * sz := by simpa using h6
      have hnc : xs.length * sz ≤ cap * sz := Nat.mul_le_mul_right _ h4
      refine ⟨by simp; omega, .inr ⟨g, cap, cs, by rw [h1'], h2, setRow_heap w g _ _ e (0, 0) hcur, h4, h5, ?_, ?_⟩⟩
      · rw [← hcs]
        simp
        simp at hcl
        omega
      · rw [← hcs]
        simp only [List.toList_toArray]
        apply List.ext_getElem?
        intro j
        have hu : ∀ j, us[j]? = if j < xs.length * sz then cur.toList[j]? else none := fun j => by rw [← h7, List.getElem?_take]
        simp only [List.getElem?_take, List.getElem?_append, List.length_append, List.length_take, List.getElem?_drop, hu]
        repeat' split
        all_goals first
          | rfl
          | (exfalso; omega)
          | (congr 1; omega)
          | skip
        all_goals (try omega)
  refine ⟨h.defs, h.size, fun t v hv => ⟨(h.fr t v hv).1, (h.fr t v hv).2.ext hle hh⟩, ⟨?_, ?_, obs_ext h.mem.ob hle hh (fun _ _ _ _ _ hn => hn) (fun i o hi x hx => (hoth _ (fun e => h.od.ro m i _ o _ hm hi hv (by simp [Value.ownBlock, e]))).trans hx)⟩, h.bb, ?_, ?_, h.fresh, fun b hk => by rw [hsize]; exact h.ok_lt b hk, h.ok_from, h.ok_all, h.hB, ?_, h.glob.ext (fun _ h => h) hh, fun t v hv => (h.svs t v hv).ext hle hh, ⟨h.od.oo, h.od.bo, fun k i x y v hk hi hv2 => let ⟨y', hy'⟩ := look_of k x hk; h.od.ro k i y' y v hy' hi hv2⟩⟩
  · intro n T cs2 hn
    obtain ⟨g2, us2, hg2, hB2, hok2, hgg2, hr2⟩ := h.mem.bx n T cs2 hn
    exact ⟨g2, us2, hg2, hB2, hok2, (hoth g2 (fun e => hgb n _ hn (e ▸ hg2))).trans hgg2, hr2.ext (fun _ h => h) hh⟩
  · intro k e2 sz2 ys hk
    by_cases e3 : k = m
    · subst e3
      rw [hself] at hk
      injection hk with hk
      injection hk with h1 h2
      injection h2 with h2 h3
      subst h1; subst h2; subst h3
      exact ⟨_, _, hv, hown, hsz, hr.ext (fun _ h => h) hh, hok⟩
    · rw [hother k e3] at hk
      obtain ⟨v2, us2, hv2, ho2, hsz2, hr2, hok2⟩ := h.mem.rw k e2 sz2 ys hk
      refine ⟨v2, us2, hv2, ho2.kept hgrow ?_, hsz2, hr2.ext (fun _ h => h) hh, hok2⟩
      cases hb : v2.ownBlock with
      | none => exact .inl rfl
      | some b => exact .inr (fun he => e3 (h.rr k m _ _ b v2 _ hk hm hv2 hv hb he.symm))
  · intro n k x y b v2 hn hk hb hv2
    obtain ⟨y', hy'⟩ := look_of k y hk
    exact h.br n k x y' b v2 hn hy' hb hv2
  · intro n k x y b v2 v3 hn hk hv2 hv3 hb hb'
    obtain ⟨x', hx'⟩ := look_of n x hn
    obtain ⟨y', hy'⟩ := look_of k y hk
    exact h.rr n k x' y' b v2 v3 hx' hy' hv2 hv3 hb hb'
  · exact h.below.trans ⟨rfl, rfl, rfl, by simp [World.setRow], fun k hk => hoth k (by omega)⟩

theorem storeR_sound (hC : C.Good) {t : Nat} {A X : Operand} (ho : o.op = .store t A X) {m off : Nat} {x : SV} (hp : ∀ {B : Nat} {ok0 : Base} {w0 : World} {a : Act} {w : World} {E : Env}, Sat C nt s B ok0 w0 a w E → SRep w E (.rowp m off) (a.eval A))
    (hx : ∀ {B : Nat} {ok0 : Base} {w0 : World} {a : Act} {w : World} {E : Env}, Sat C nt s B ok0 w0 a w E → SRep w E x (a.eval X)) (h : storeK C s t (.rowp m off) x K) (hdst : o.dst = none) : Steps1 C nt o s K := by
  obtain ⟨ti, hl, h⟩ := lookK_sound h
  have ht := tab_ok hC.tab hl
  obtain ⟨ds, h, hds⟩ := cellsK_all h
  obtain ⟨hones, h⟩ := onesK_sound h
  cases hb : Nat.beq ds.length ti.size && Nat.blt 0 ti.size with
  | false => rw [hb] at h; exact h.elim
  | true =>
    rw [hb] at h
    rw [Bool.and_eq_true] at hb
    have hlen := Nat.eq_of_beq_eq_true hb.1
    obtain ⟨⟨e, sz, xs⟩, hn, h⟩ := lookK_sound h
    obtain ⟨xs', ⟨h1, h2, h3, h4⟩, h⟩ := h
    obtain ⟨rw', hk, hself, hother⟩ := setRwK_sound h
    rw [setRw_eq] at hk
    intro B ok0 w0 a w E next Q hS hnext
    obtain ⟨g, len, cap, hg, he⟩ := hp hS
    have hxr := hx hS
    have hcr := hds w E _ hxr
    obtain ⟨v, us, hv, hown, hsz, hr, hok⟩ := hS.mem.rw m e sz xs hn
    rw [hg] at hv
    injection hv with hv
    subst hv
    obtain ⟨cur, hcur, hcs⟩ : ∃ cur, w.heap[g]? = some (.cells cur e (0, 0)) ∧ us.length ≤ cur.size := by
      rcases hown.2 with ⟨h1, _⟩ | ⟨g', cap', cur', h1, _, h3, h4, _, h6, h7⟩
      · cases h1
      · injection h1 with h1 h1' h1''
        injection h1 with h1
        injection h1 with h1
        subst h1
        refine ⟨cur', h3, ?_⟩
        have := Nat.mul_le_mul_right sz h4
        have := hown.1
        omega
    have e1 : (a.eval X).cells.size = ds.length := by have := hcr.1; simpa using this
    have hul : us.length = xs.flatten.length := hr.1
    have hone : ∀ u ∈ (a.eval X).cells.toList, u.oneCell' = true := by
      intro u hu
      obtain ⟨j, hj⟩ := List.getElem?_of_mem hu
      have hjl : j < ds.length := by have := (List.getElem?_eq_some_iff.1 hj).1; rw [← hcr.1]; exact this
      exact (hcr.2 j ds[j] u (List.getElem?_eq_getElem hjl) hj).oneCell (hones _ (List.getElem_mem hjl))
    have hrun := run_storeVar ht w g off e (a.eval X) cur hcur (by rw [e1, hlen]) (by rw [e1]; simp only at h2; omega) hone
    have hS' := hS.storeRow (ds := (a.eval X).cells.toList) (off := off) (xs' := xs') hn hg hcur hown hok (by simp only [Array.length_toList]; rw [e1]; simp only at h2; omega) (by
      rw [h1]
      simp only [Array.length_toList, e1]
      exact ((hr.take off).append hcr).append (hr.drop _)) h3 h4 hself hother
    unfold Oper.wp execOp
    rw [ho]
    simp only [Instr.storeAt, Instr.sureAddr, he, Sem.run_bind, Sem.run_pure, Result.andThen_ok, hrun]
    simp only [Array.length_toList] at hS'
    refine hnext _ _ _ E hk ?_
    have : a.put o.dst undef = a := by rw [hdst]; rfl
    rw [this]
    exact hS'
theorem setRow_put {w : World} {g : Nat} {cs cur : Array Value} {T : Nat} (h : w.heap[g]? = some (.cells cur T (0, 0))) : w.setRow g cs = w.putObj g (.cells cs T (0, 0)) := by
  have hlt := (Array.getElem?_eq_some_iff.1 h).1
  have key : (w.setRow g cs).heap = (w.putObj g (.cells cs T (0, 0))).heap := by
    apply Array.ext_getElem?
    intro i
    by_cases e : i = g
    · subst e
      rw [setRow_heap w i _ _ T (0, 0) h, World.putObj_heap_same hlt]
    · rw [setRow_other w g i _ e, World.putObj_heap_other e]
  unfold World.setRow World.putObj at key ⊢
  simp only at key ⊢
  rw [key]
/-- What is read after a store. -/
theorem getD_put {us vs : List Value} {off t : Nat} (hfit : off + vs.length ≤ us.length) : (us.take off ++ vs ++ us.drop (off + vs.length)).toArray.getD t undef = if off ≤ t ∧ t < off + vs.length then vs.toArray.getD (t - off) undef else us.toArray.getD t undef := by
  have e1 : (us.take off ++ vs ++ us.drop (off + vs.length)).toArray.getD t undef = ((us.take off ++ vs ++ us.drop (off + vs.length))[t]?).getD undef := by
    simp [Array.getD_eq_getD_getElem?]
  have e2 : vs.toArray.getD (t - off) undef = (vs[t - off]?).getD undef := by simp [Array.getD_eq_getD_getElem?]
  have e3 : us.toArray.getD t undef = (us[t]?).getD undef := by simp [Array.getD_eq_getD_getElem?]
  rw [e1, e2, e3]
  have hl : (us.take off).length = off := by rw [List.length_take]; omega
  by_cases h1 : t < off
  · rw [if_neg (by omega), List.append_assoc, List.getElem?_append_left (by omega), List.getElem?_take, if_pos h1]
  · by_cases h2 : t < off + vs.length
    · rw [if_pos ⟨by omega, h2⟩, List.append_assoc, List.getElem?_append_right (by omega), List.getElem?_append_left (by omega), hl]
    · rw [if_neg (by omega), List.getElem?_append_right (by simp only [List.length_append]; omega), List.getElem?_drop]
      congr 2
      simp only [List.length_append]
      omega
theorem storeHst_sound (hC : C.Good) {t : Nat} {A X : Operand} (ho : o.op = .store t A X) {n off g T nc : Nat} {sn : List (Nat × SV)} {x : SV} (hp : ∀ {B : Nat} {ok0 : Base} {w0 : World} {a : Act} {w : World} {E : Env}, Sat C nt s B ok0 w0 a w E → SRep w E (.box n off) (a.eval A))
    (hx : ∀ {B : Nat} {ok0 : Base} {w0 : World} {a : Act} {w : World} {E : Env}, Sat C nt s B ok0 w0 a w E → SRep w E x (a.eval X)) (hy : look s.ob n = some (.hst g T nc sn)) {ti : TI} (hl : look C.tab t = some ti)
    (h : storeHsK s g T nc n off sn ti x K) (hdst : o.dst = none) : Steps1 C nt o s K := by
  have ht := tab_ok hC.tab hl
  have core : ∀ (sn' : List (Nat × SV)) (ob : List (Nat × Ob)), K { s with ob := ob } → look ob n = some (.hst g T nc sn') → (∀ m, m ≠ n → look ob m = look s.ob m) →
      (∀ {B : Nat} {ok0 : Base} {w0 : World} {a : Act} {w : World} {E : Env}, Sat C nt s B ok0 w0 a w E → ∃ vs : List Value, (a.eval X).cells.toList = vs ∧ vs.length = ti.size ∧ off + vs.length ≤ nc ∧ (∀ u ∈ vs, u.oneCell' = true) ∧
        ∀ t v, look sn' t = some v → (off ≤ t ∧ t < off + vs.length ∧ SRep w E v (vs.toArray.getD (t - off) undef)) ∨ ((t < off ∨ off + vs.length ≤ t) ∧ look sn t = some v)) → Steps1 C nt o s K := by
    intro sn' ob hk hself hother hv
    intro B ok0 w0 a w E next Q hS hnext
    obtain ⟨vs, hvs, hvl, hfit, hones, hsn'⟩ := hv hS
    obtain ⟨g', hg', he⟩ := hp hS
    obtain ⟨_, _, q, hq, hh, us, hus, rfl, hsn⟩ := hS.mem.ob n _ hy
    have hg2 : E.β n = some g := hh rfl
    rw [hg2] at hg'
    injection hg' with hg'
    subst hg'
    have hq' : w.heap[g]? = some (.cells us.toArray T (0, 0)) := hq
    have hcs : (a.eval X).cells.size = vs.length := by rw [← hvs]; simp
    have hrun := run_storeVar ht w g off T (a.eval X) us.toArray hq' (by rw [hcs, hvl]) (by rw [hcs]; simpa [hus] using hfit) (by rw [hvs]; exact hones)
    rw [setRow_put hq', hvs, hcs] at hrun
    have e1 : us.toArray.toList.take off ++ vs ++ us.toArray.toList.drop (off + vs.length) = us.take off ++ vs ++ us.drop (off + vs.length) := by simp
    rw [e1] at hrun
    have hS' := hS.setOb (o := .cells (us.take off ++ vs ++ us.drop (off + vs.length)).toArray T (0, 0)) hy (ob' := ob) (fun y hy2 => by rw [hself] at hy2; injection hy2 with hy2; rw [← hy2]; rfl) (fun y hy2 => by
      rw [hself] at hy2
      injection hy2 with hy2
      rw [← hy2]
      refine ⟨rfl, _, ?_, rfl, fun t v hv => ?_⟩
      · simp only [List.length_append, List.length_take, List.length_drop]
        omega
      · rw [getD_put (by omega)]
        rcases hsn' t v hv with ⟨h1, h2, h3⟩ | ⟨h1, h2⟩
        · rw [if_pos ⟨h1, h2⟩]
          exact ⟨by omega, h3⟩
        · rw [if_neg (by omega)]
          exact hsn t v h2) (fun m hm y hy2 => by rw [hother m hm] at hy2; exact hy2)
    unfold Oper.wp execOp
    rw [ho]
    simp only [Instr.storeAt, Instr.sureAddr, he, Sem.run_bind, Sem.run_pure, Result.andThen_ok, hrun]
    refine hnext _ _ _ E hk ?_
    have : a.put o.dst undef = a := by rw [hdst]; rfl
    rw [this]
    exact hS'
  have gen : (cellsK x fun ds => onesK ds <| bif Nat.beq ds.length ti.size && Nat.blt 0 ti.size && Nat.ble (off + ti.size) nc then putsK sn off ds fun sn' => setObK s.ob n (.hst g T nc sn') fun ob => setOb s ob K else False) → Steps1 C nt o s K := by
    intro h
    obtain ⟨ds, h, hds⟩ := cellsK_all h
    obtain ⟨hones, h⟩ := onesK_sound h
    cases hb : Nat.beq ds.length ti.size && Nat.blt 0 ti.size && Nat.ble (off + ti.size) nc with
    | false => rw [hb] at h; exact h.elim
    | true =>
      rw [hb] at h
      simp only [Bool.and_eq_true] at hb
      have hlen := Nat.eq_of_beq_eq_true hb.1.1
      have hfit : off + ti.size ≤ nc := Nat.le_of_ble_eq_true hb.2
      obtain ⟨sn', h, hsn'⟩ := putsK_sound h
      obtain ⟨ob, h, hself, hother⟩ := setObK_sound h
      rw [setOb_eq] at h
      refine core sn' ob h hself hother (fun {B ok0 w0 a w E} hS => ?_)
      have hcr := hds w E _ (hx hS)
      refine ⟨_, rfl, by rw [hcr.1, hlen], by rw [hcr.1, hlen]; exact hfit, fun u hu => ?_, fun t v hv => ?_⟩
      · obtain ⟨j, hj⟩ := List.getElem?_of_mem hu
        have hjl : j < ds.length := by have := (List.getElem?_eq_some_iff.1 hj).1; rw [← hcr.1]; exact this
        exact (hcr.2 j ds[j] u (List.getElem?_eq_getElem hjl) hj).oneCell (hones _ (List.getElem_mem hjl))
      · rcases hsn' t v hv with ⟨h1, d, h2, rfl⟩ | ⟨h1, h2⟩
        · have hjl : t - off < ds.length := (List.getElem?_eq_some_iff.1 h2).1
          have hjl' : t - off < (a.eval X).cells.toList.length := by rw [hcr.1]; exact hjl
          refine .inl ⟨h1, by rw [hcr.1]; omega, ?_⟩
          have hget : (a.eval X).cells.toList.toArray.getD (t - off) undef = (a.eval X).cells.toList[t - off] := by simp [Array.getD] at hjl' ⊢; simp [hjl']
          rw [hget]
          exact hcr.2 (t - off) d _ h2 (List.getElem?_eq_getElem hjl')
        · exact .inr ⟨by rw [hcr.1]; exact h1, h2⟩
  cases x with
  | own m =>
    obtain ⟨y, hym, h⟩ := lookK_sound h
    cases hb : Nat.beq ti.size 1 && Nat.blt off nc with
    | false => rw [hb] at h; exact h.elim
    | true =>
      rw [hb] at h
      rw [Bool.and_eq_true] at hb
      have hsz := Nat.eq_of_beq_eq_true hb.1
      have hoff : off < nc := by simpa [Nat.blt_eq] using hb.2
      obtain ⟨sn', h, hsn'⟩ := eraseK_sound h
      obtain ⟨ob, h, hself, hother⟩ := setObK_sound h
      rw [setOb_eq] at h
      refine core _ ob h hself hother (fun {B ok0 w0 a w E} hS => ?_)
      have hxr : E.ν m = some (a.eval X) := hx hS
      have hX : ∃ A2 l c, a.eval X = .slice A2 l c := by
        obtain ⟨v2, us2, hv2, ho2, _⟩ := hS.mem.rw m y.1 y.2.1 y.2.2 hym
        rw [hv2] at hxr
        injection hxr with hxr
        rw [← hxr]
        rcases ho2.2 with ⟨e, _⟩ | ⟨g3, cap, cur, e, _⟩
        · exact ⟨_, _, _, e⟩
        · exact ⟨_, _, _, e⟩
      obtain ⟨A2, l2, c2, hX⟩ := hX
      refine ⟨[a.eval X], by rw [hX]; rfl, by simp [hsz], by simp; omega, fun u hu => by simp at hu; rw [hu, hX]; rfl, fun t v hv => ?_⟩
      by_cases e : off = t
      · subst e
        rw [look_cons_self] at hv
        injection hv with hv
        subst hv
        refine .inl ⟨Nat.le_refl _, by simp, ?_⟩
        rw [Nat.sub_self]
        exact hxr
      · rw [look_cons_ne e] at hv
        refine .inr ⟨by simp; omega, hsn' t (Ne.symm e) v hv⟩
  | p _ => exact gen h
  | box _ _ => exact gen h
  | rowp _ _ => exact gen h
  | clo _ _ => exact gen h
  | bnd _ _ => exact gen h
theorem storeH_sound (hC : C.Good) {t : Nat} {A X : Operand} (ho : o.op = .store t A X) {n off : Nat} {x : SV} {no : Prop} (hp : ∀ {B : Nat} {ok0 : Base} {w0 : World} {a : Act} {w : World} {E : Env}, Sat C nt s B ok0 w0 a w E → SRep w E (.box n off) (a.eval A))
    (hx : ∀ {B : Nat} {ok0 : Base} {w0 : World} {a : Act} {w : World} {E : Env}, Sat C nt s B ok0 w0 a w E → SRep w E x (a.eval X)) (h : storeHK C s t n off x K no) (hdst : o.dst = none) : Steps1 C nt o s K ∨ no := by
  unfold storeHK at h
  rcases lookE_sound h with ⟨y, hy, h2⟩ | h2
  case inr => exact .inr h2
  clear h
  split at h2
  case h_2 =>
    obtain ⟨ti, hl, h2⟩ := lookK_sound h2
    exact .inl (storeHst_sound hC ho hp hx hy hl h2 hdst)
  case h_3 => exact .inr h2
  left
  rename_i g T z
  have h := h2
  clear h2
  cases hb : rowB x && Nat.beq off 0 with
  | false => rw [hb] at h; exact h.elim
  | true =>
    rw [hb] at h
    rw [Bool.and_eq_true] at hb
    obtain rfl := Nat.eq_of_beq_eq_true hb.2
    have hown : (∀ m, x = .own m → ∃ y, look s.rw m = some y) ∧ (lookK C.tab t fun ti => bif Nat.beq ti.size 1 then setObK s.ob n (.hold g T x) fun ob => setOb s ob K else False) := by
      have h := h
      simp only [cond_true] at h
      unfold ownK at h
      split at h
      · obtain ⟨y, hy, h⟩ := lookK_sound h
        exact ⟨fun m e => by injection e with e; subst e; exact ⟨y, hy⟩, h⟩
      · rename_i hno
        exact ⟨fun m e => absurd e (hno m), h⟩
    clear h
    obtain ⟨hown, h⟩ := hown
    obtain ⟨ti, hl, h⟩ := lookK_sound h
    have ht := tab_ok hC.tab hl
    cases hs : Nat.beq ti.size 1 with
    | false => rw [hs] at h; exact h.elim
    | true =>
      rw [hs] at h
      have hsz := Nat.eq_of_beq_eq_true hs
      obtain ⟨ob, h, hself, hother⟩ := setObK_sound h
      rw [setOb_eq] at h
      intro B ok0 w0 a w E next Q hS hnext
      obtain ⟨g', hg', he⟩ := hp hS
      obtain ⟨_, _, q, hq, hh, v, hv, rfl⟩ := hS.mem.ob n _ hy
      have hg2 : E.β n = some g := hh rfl
      rw [hg2] at hg'
      injection hg' with hg'
      subst hg'
      have hq' : w.heap[g]? = some (.cells #[v] T (0, 0)) := hq
      have hxr := hx hS
      have hone : ∃ A2 l c, a.eval X = .slice A2 l c := by
        have hb1 := hb.1
        clear hs hself
        cases x with
        | own m =>
          obtain ⟨y, hym⟩ := hown m rfl
          obtain ⟨v2, us2, hv2, ho2, _⟩ := hS.mem.rw m y.1 y.2.1 y.2.2 hym
          have hxr : E.ν m = some (a.eval X) := hxr
          rw [hv2] at hxr
          injection hxr with hxr
          rw [← hxr]
          rcases ho2.2 with ⟨e, _⟩ | ⟨g3, cap, cur, e, _⟩
          · exact ⟨_, _, _, e⟩
          · exact ⟨_, _, _, e⟩
        | p y =>
          cases y with
          | seq sz l =>
            obtain ⟨A2, cap, us, e, _⟩ := seq_inv hxr
            exact ⟨A2, _, cap, e⟩
          | v u =>
            cases u with
            | slice A2 l c => exact ⟨A2, l, c, v_inv hxr⟩
            | _ => cases hb1
          | _ => cases hb1
        | _ => cases hb1
      obtain ⟨A2, l2, c2, hX⟩ := hone
      have hcs : (a.eval X).cells = #[a.eval X] := by rw [hX]; rfl
      have hrun := run_storeVar ht w g 0 T (a.eval X) #[v] hq' (by rw [hcs, hsz]; rfl) (by rw [hcs]; simp) (by rw [hcs]; intro u hu; simp at hu; rw [hu, hX]; rfl)
      have e1 : (((#[v] : Array Value).toList.take 0 ++ (a.eval X).cells.toList ++ (#[v] : Array Value).toList.drop (0 + (a.eval X).cells.size)).toArray) = #[a.eval X] := by rw [hcs]; rfl
      rw [e1, setRow_put hq'] at hrun
      have hS' := hS.setOb (o := .cells #[a.eval X] T (0, 0)) hy (ob' := ob) (fun y hy2 => by rw [hself] at hy2; injection hy2 with hy2; rw [← hy2]; rfl) (fun y hy2 => by
        rw [hself] at hy2
        injection hy2 with hy2
        rw [← hy2]
        exact ⟨rfl, _, hxr, rfl⟩) (fun m hm y hy2 => by rw [hother m hm] at hy2; exact hy2)
      unfold Oper.wp execOp
      rw [ho]
      simp only [Instr.storeAt, Instr.sureAddr, he, Sem.run_bind, Sem.run_pure, Result.andThen_ok, hrun]
      refine hnext _ _ _ E h ?_
      have : a.put o.dst undef = a := by rw [hdst]; rfl
      rw [this]
      exact hS'
theorem storeK_sound (hC : C.Good) {t : Nat} {A X : Operand} (ho : o.op = .store t A X) (h : operK C s A fun p => operK C s X fun v => storeK C s t p v K) (hdst : o.dst = none) : Steps1 C nt o s K := by
  obtain ⟨p, h, hp⟩ := operK_sound (nt := nt) h
  obtain ⟨x, h, hx⟩ := operK_sound (nt := nt) h
  cases p with
  | p _ => exact h.elim
  | own _ => exact h.elim
  | rowp m off => exact storeR_sound hC ho hp hx h hdst
  | clo _ _ => exact h.elim
  | bnd _ _ => exact h.elim
  | box n off =>
    rcases storeH_sound hC ho hp hx h hdst with h | h
    · exact h
    obtain ⟨ti, hl, h⟩ := lookK_sound h
    have ht := tab_ok hC.tab hl
    obtain ⟨ds, h, hds⟩ := cellsK_all h
    obtain ⟨hones, h⟩ := onesK_sound h
    cases hb : Nat.beq ds.length ti.size && Nat.blt 0 ti.size with
    | false => rw [hb] at h; exact h.elim
    | true =>
      rw [hb] at h
      rw [Bool.and_eq_true] at hb
      have hlen := Nat.eq_of_beq_eq_true hb.1
      have hpos : 0 < ti.size := by simpa [Nat.blt_eq] using hb.2
      obtain ⟨⟨T, cs⟩, hn, h⟩ := lookK_sound h
      obtain ⟨hfit, l, h, hl2⟩ := putK_sound h
      obtain ⟨bx, hk, hself, hother⟩ := setBxK_sound h
      rw [setBx_eq] at hk
      have hd0 : ds ≠ [] := fun e => by rw [e] at hlen; simp at hlen; omega
      rw [if_neg hd0] at hl2
      have hfit := hfit.resolve_left hd0
      intro B ok0 w0 a w E next Q hS hnext
      obtain ⟨g, hg, he⟩ := hp hS
      have hxr := hx hS
      have hcr := hds w E _ hxr
      obtain ⟨g', us, hg', hBg, hok, hgg, hr⟩ := hS.mem.bx n T cs hn
      rw [hg] at hg'
      injection hg' with hg'
      subst hg'
      have e1 : (a.eval X).cells.size = ds.length := by have := hcr.1; simpa using this
      have h1 : ∀ u ∈ (a.eval X).cells.toList, u.oneCell' = true := by
        intro u hu
        obtain ⟨j, hj⟩ := List.getElem?_of_mem hu
        have hjl : j < ds.length := by have := (List.getElem?_eq_some_iff.1 hj).1; rw [← hcr.1]; exact this
        exact (hcr.2 j ds[j] u (List.getElem?_eq_getElem hjl) hj).oneCell (hones _ (List.getElem_mem hjl))
      have hrun := run_storeVar ht w g off T (a.eval X) us.toArray hgg (by rw [e1, hlen]) (by have := hr.1; simp only [List.size_toArray]; simp only at hfit; omega) h1
      have hS' := hS.store (us' := us.take off ++ (a.eval X).cells.toList ++ us.drop (off + (a.eval X).cells.size)) hn hg (cs' := l) (by
        rw [hl2, e1]
        exact ((hr.take off).append hcr).append (hr.drop _)) hself hother
      unfold Oper.wp execOp
      rw [ho]
      have he' : a.eval A = .pointer (some ⟨g, off, none⟩) := he
      simp only [Instr.storeAt, Instr.sureAddr, he', Sem.run_bind, Sem.run_pure, Result.andThen_ok, hrun]
      refine hnext _ _ _ E hk ?_
      have : a.put o.dst undef = a := by rw [hdst]; rfl
      rw [this]
      exact hS'
end
end Go.Proofs.Ab
end
section
/- append; each operation's step; a region in the text's order. -/
set_option linter.unusedVariables false
set_option linter.unusedSimpArgs false
namespace Go.Proofs.Ab
open Go Go.RowKit

section
variable {C : Cx} {nt : Nat} {s : AS} {o : Oper} {K : AS → Prop}

theorem run_append_none {P : Program} {w : World} {base t ty e : Nat} {i : TypeInfo} {size : Nat} (ht : P.underlying t = some (.slice e)) (hi : P.info? e = some i) {v : Value} {n : Nat} {xs : List Value} (hown : w.ownsRow base e size v n xs) (c : Nat) :
    (Builtin.append_ #[t, t] ty #[v, .slice none 0 c]).run P w = .ok v w := by
  rcases hown.2 with ⟨rfl, rfl⟩ | ⟨g, cap, cur, rfl, _, _, hnc, _⟩
  · simp [Builtin.append_, run_underlying ht, sizeOf, typeInfo, hi, Builtin.lenOf, Builtin.firstCells]
  · simp [Builtin.append_, run_underlying ht, sizeOf, typeInfo, hi, Builtin.lenOf, Builtin.firstCells, hnc, storeCells]

/-- What append does to a row: the same state's row, longer. -/
theorem append_coreAt (hC : C.Good) {B : Nat} {ok0 : Base} {w0 : World} {a : Act} {w : World} {E : Env} (hS : Sat C nt s B ok0 w0 a w E) {N nx' : Nat} (hN : E.ν N = none) (hNx : N < nx') (hsn : s.nx ≤ nx') {t e : Nat} {te : TI} (hd : C.P.underlying t = some (.slice e)) (hte : TI.Ok C.P e te)
    (hpos : 0 < te.size) (hz0 : te.zero.length = te.size) {xs ys : List (List PV)} {v uy : Value} {us : List Value} (hown : w.ownsRow B e te.size v xs.length us) (hsz : ∀ x ∈ xs, x.length = te.size) (hr : RepL w E.ok xs.flatten us)
    (hy : Rep w E.ok (.seq te.size ys) uy) (hone : ∀ c ∈ ys.flatten, c.one = true) (hby : (xs.length + ys.length) * te.bytes ≤ 140737488355328) (h63 : xs.length + ys.length ≤ 9223372036854775807)
    (hvok : ∀ g, v.ownBlock = some g → ¬ E.ok g) (hbx : ∀ n x g, look s.bx n = some x → E.β n = some g → v.ownBlock ≠ some g) (hvob : ∀ m y, look s.ob m = some y → v.ownBlock ≠ some y.blk) {rw' : List (Nat × (Nat × Nat × List (List PV)))}
    (hrw' : ∀ m x, look rw' m = some x → look s.rw m = some x ∧ ∀ k, E.ν m = some k → k.ownBlock = none ∨ k.ownBlock ≠ v.ownBlock) (ty : Nat) (cs : Array Bool) :
    ∃ v' w' E', (builtin .append #[t, t] ty cs #[v, uy]).run C.P w = .ok (.value v') w' ∧ SRep w' E' (.own N) v' ∧ E.Le E' ∧ (∀ b, E.ok b → w'.heap[b]? = w.heap[b]?) ∧ (∀ m, E'.β m = E.β m) ∧ (∀ m, m ≠ N → E'.ν m = E.ν m) ∧ Sat C nt { s with rw := (N, (e, te.size, xs ++ ys)) :: rw', nx := nx' } B ok0 w0 a w' E' := by
  obtain ⟨A, cap, news, rfl, hcap, hm, hszy, hry, hA⟩ := seq_inv hy
  obtain ⟨i, z, hi, hisz, hiby, hiz, hzc⟩ := hte.info
  have hzs : z.cells.size = te.size := by rw [← hz0, ← hzc]; simp
  have hszall : ∀ x ∈ xs ++ ys, x.length = te.size := fun x hx => by
    rcases List.mem_append.1 hx with hx | hx
    · exact hsz x hx
    · exact hszy x hx
  have hvB : ∀ g, v.ownBlock = some g → B ≤ g := fun g hg => (hown.lt g hg).1
  have fin : ∀ (v' : Value) (w' : World), (Builtin.append_ #[t, t] ty #[v, .slice A ys.length cap]).run C.P w = .ok v' w' → w'.ownsRow B e te.size v' (xs ++ ys).length (us ++ news) → w.grownBy w' v.ownBlock →
      (v'.ownBlock = v.ownBlock ∨ ∃ b, v'.ownBlock = some b ∧ w.heap.size ≤ b) → ∃ v' w' E', (builtin .append #[t, t] ty cs #[v, .slice A ys.length cap]).run C.P w = .ok (.value v') w' ∧ SRep w' E' (.own N) v' ∧ E.Le E' ∧ (∀ b, E.ok b → w'.heap[b]? = w.heap[b]?) ∧ (∀ m, E'.β m = E.β m) ∧ (∀ m, m ≠ N → E'.ν m = E.ν m) ∧ Sat C nt { s with rw := (N, (e, te.size, xs ++ ys)) :: rw', nx := nx' } B ok0 w0 a w' E' := by
    intro v' w' hrun hown' hg hat
    obtain ⟨E', hle, hs, hh, hβ, hν, hS'⟩ := hS.rowAt hN hNx hsn (v := v) hrw' hbx hvok hvB hg hown' hszall (by rw [List.flatten_append]; exact hr.append hry) hat hvob
    exact ⟨v', w', E', by simp [builtin, hrun], hs, hle, hh, hβ, hν, hS'⟩
  cases A with
  | none =>
    have h0 : ys.length = 0 := by
      rcases Nat.eq_zero_or_pos ys.length with h0 | h0
      · exact h0
      · obtain ⟨b, off, he, _⟩ := hA h0
        cases he
    have hys : ys = [] := List.eq_nil_of_length_eq_zero h0
    subst hys
    have hn : news = [] := hry.unnil
    subst hn
    refine fin v w (run_append_none hd hi hown cap) (by simpa using hown) ⟨rfl, rfl, rfl, Nat.le_refl _, fun _ _ _ => rfl⟩ (.inl rfl)
  | some ad =>
    have hnl : news.length = ys.length * te.size := by rw [hry.1, flat_length hszy]
    obtain ⟨v', w', hrun, hown', hg, _, hat⟩ := run_append_own_at (P := C.P) w B t ty e i z te.size te.bytes hd hi hiz hisz hiby hzs hpos v xs.length us hown ad ys.length cap news hnl (fun j u hu => by
      rcases Nat.eq_zero_or_pos ys.length with h0 | h0
      · rw [h0, Nat.zero_mul] at hnl
        rw [List.eq_nil_of_length_eq_zero hnl] at hu
        simp at hu
      · obtain ⟨b, off, he, hok, hc⟩ := hA h0
        injection he with he
        subst he
        rw [addr_add]
        exact hc j u hu) (fun u hu => by
      obtain ⟨j, hj⟩ := List.getElem?_of_mem hu
      have hjl : j < ys.flatten.length := by have := (List.getElem?_eq_some_iff.1 hj).1; rw [← hry.1]; exact this
      exact (hry.2 j _ u (List.getElem?_eq_getElem hjl) hj).oneCell (hone _ (List.getElem_mem hjl))) (by simp only [maxLen]; omega) hby hS.size_le
    refine fin v' w' hrun (by rw [List.length_append]; exact hown') hg ?_
    rcases hat with hat | hat
    · exact .inl hat
    · exact .inr ⟨_, hat, Nat.le_refl _⟩

theorem append_core (hC : C.Good) {B : Nat} {ok0 : Base} {w0 : World} {a : Act} {w : World} {E : Env} (hS : Sat C nt s B ok0 w0 a w E) {t e : Nat} {te : TI} (hd : C.P.underlying t = some (.slice e)) (hte : TI.Ok C.P e te)
    (hpos : 0 < te.size) (hz0 : te.zero.length = te.size) {xs ys : List (List PV)} {v uy : Value} {us : List Value} (hown : w.ownsRow B e te.size v xs.length us) (hsz : ∀ x ∈ xs, x.length = te.size) (hr : RepL w E.ok xs.flatten us)
    (hy : Rep w E.ok (.seq te.size ys) uy) (hone : ∀ c ∈ ys.flatten, c.one = true) (hby : (xs.length + ys.length) * te.bytes ≤ 140737488355328) (h63 : xs.length + ys.length ≤ 9223372036854775807)
    (hvok : ∀ g, v.ownBlock = some g → ¬ E.ok g) (hbx : ∀ n x g, look s.bx n = some x → E.β n = some g → v.ownBlock ≠ some g) (hvob : ∀ m y, look s.ob m = some y → v.ownBlock ≠ some y.blk) {rw' : List (Nat × (Nat × Nat × List (List PV)))}
    (hrw' : ∀ m x, look rw' m = some x → look s.rw m = some x ∧ ∀ k, E.ν m = some k → k.ownBlock = none ∨ k.ownBlock ≠ v.ownBlock) (ty : Nat) (cs : Array Bool) :
    ∃ v' w' E', (builtin .append #[t, t] ty cs #[v, uy]).run C.P w = .ok (.value v') w' ∧ SRep w' E' (.own s.nx) v' ∧ Sat C nt { s with rw := (s.nx, (e, te.size, xs ++ ys)) :: rw', nx := s.nx + 1 } B ok0 w0 a w' E' := by
  obtain ⟨v', w', E', h1, h2, _, _, _, _, h3⟩ := append_coreAt hC hS (hS.fresh s.nx (Nat.le_refl _)).2 (Nat.lt_succ_self _) (Nat.le_succ _) hd hte hpos hz0 hown hsz hr hy hone hby h63 hvok hbx hvob hrw' ty cs
  exact ⟨v', w', E', h1, h2, h3⟩

theorem appendK_sound (hC : C.Good) {X Y : Operand} {t : Nat} (ho : o.op = .call { callee := .builtin .append, args := #[X, Y], argTypes := #[t, t] }) (h : operK C s X fun x => operK C s Y fun y => appendK C nt s o.dst t x y K) : Steps1 C nt o s K := by
  obtain ⟨x, h, hx⟩ := operK_sound (nt := nt) h
  obtain ⟨y, h, hy⟩ := operK_sound (nt := nt) h
  unfold appendK at h
  obtain ⟨ti, hl, h⟩ := lookK_sound h
  have ht := tab_ok hC.tab hl
  split at h
  case h_2 => exact h.elim
  rename_i e hki
  have hd := ht.slice_run hki
  obtain ⟨te, hle, h⟩ := lookK_sound h
  have hte := tab_ok hC.tab hle
  cases hb : Nat.blt 0 te.size && Nat.beq te.zero.length te.size with
  | false => rw [hb] at h; exact h.elim
  | true =>
    rw [hb] at h
    have hq := h
    simp only [cond_true] at hq
    rw [Bool.and_eq_true] at hb
    have hpos : 0 < te.size := by simpa [Nat.blt_eq] using hb.1
    have hz0 := Nat.eq_of_beq_eq_true hb.2
    have exec : ∀ (a : Act) (w : World), ∃ cs : Array Bool, (execOp a.eval o).run C.P w = (builtin .append #[t, t] o.type cs #[a.eval X, a.eval Y]).run C.P w := by
      intro a w
      unfold execOp
      rw [ho]
      have hm : (#[X, Y] : Array Operand).map a.eval = #[a.eval X, a.eval Y] := by simp
      simp only [resolve, invoke, Sem.run_bind, Sem.run_pure, Result.andThen_ok, hm]
      exact ⟨_, rfl⟩
    obtain ⟨i, z, hi, hisz, hiby, hiz, hzc⟩ := hte.info
    have keep : ∀ (xv : SV), (∀ (B : Nat) (ok0 : Base) (w0 : World) (a : Act) (w : World) (E : Env), Sat C nt s B ok0 w0 a w E → SRep w E xv (a.eval X) ∧ a.eval Y = .slice none 0 0 ∧ ∃ n sz us, w.ownsRow B e sz (a.eval X) n us) → putFK nt s o.dst xv K → Steps1 C nt o s K := by
      intro xv hxv hp
      obtain ⟨s', hk, _, _, _, hput⟩ := putFK_sound (C := C) hp
      intro B ok0 w0 a w E next Q hS hnext
      obtain ⟨h1, h2, n, sz, us, h3⟩ := hxv B ok0 w0 a w E hS
      obtain ⟨cs, hex⟩ := exec a w
      unfold Oper.wp
      rw [hex, h2]
      have : (builtin .append #[t, t] o.type cs #[a.eval X, .slice none 0 0]).run C.P w = .ok (.value (a.eval X)) w := by
        simp [builtin, run_append_none hd hi h3 0]
      rw [this]
      exact hnext s' _ _ E hk (hput hS h1)
    clear h
    have keepOwn : ∀ n, x = .own n → (lookK s.rw n fun r => bif Nat.beq r.1 e then putFK nt s o.dst (.own n) K else False) → y = .p nilS → Steps1 C nt o s K := by
      intro n hxn h1 hyn
      subst hxn; subst hyn
      obtain ⟨⟨e', sz, xs⟩, hn, h2⟩ := lookK_sound h1
      cases hb2 : Nat.beq e' e with
      | false => simp only [hb2] at h2; exact h2.elim
      | true =>
        simp only [hb2, cond_true] at h2
        have he := Nat.eq_of_beq_eq_true hb2
        refine keep (.own n) (fun B ok0 w0 a w E hS => ?_) h2
        have hxr : E.ν n = some (a.eval X) := hx hS
        obtain ⟨v, us, hv, hown, _⟩ := hS.mem.rw n e' sz xs hn
        rw [hxr] at hv
        injection hv with hv
        rw [← hv, he] at hown
        exact ⟨hxr, v_inv (hy hS), _, _, _, hown⟩
    have goOwn : ∀ n ys, x = .own n → y = .p (.seq te.size ys) → (lookK s.rw n fun r => bif Nat.beq r.1 e && Nat.beq r.2.1 te.size then
            SAnd ((∀ c ∈ ys.flatten, c.one = true) ∧ (r.2.2.length + ys.length) * te.bytes ≤ 140737488355328 ∧ r.2.2.length + ys.length ≤ 9223372036854775807)
              (strikeK s.rw n fun rw => addRw s rw (e, te.size, r.2.2 ++ ys) fun s' m => putFK nt s' o.dst (.own m) K) else False) → Steps1 C nt o s K := by
      intro n ys hxn hyn h1
      subst hxn; subst hyn
      obtain ⟨⟨e', sz', xs⟩, hn, h2⟩ := lookK_sound h1
      cases hb3 : Nat.beq e' e && Nat.beq sz' te.size with
      | false => simp only [hb3] at h2; exact h2.elim
      | true =>
        simp only [hb3, cond_true] at h2
        rw [Bool.and_eq_true] at hb3
        have he := Nat.eq_of_beq_eq_true hb3.1
        have hs' := Nat.eq_of_beq_eq_true hb3.2
        rw [he, hs'] at hn
        obtain ⟨⟨hone, hby, h63⟩, h3⟩ := h2
        obtain ⟨rw', h4, hrw⟩ := strikeK_sound h3
        obtain ⟨s', hk, _, _, _, hput⟩ := putFK_sound (C := C) h4
        intro B ok0 w0 a w E next Q hS hnext
        obtain ⟨v, us, hv, hown, hsz, hr, hok⟩ := hS.mem.rw n e te.size xs hn
        have hxr : E.ν n = some (a.eval X) := hx hS
        rw [hv] at hxr
        injection hxr with hxr
        obtain ⟨cs, hex⟩ := exec a w
        obtain ⟨v', w', E', hrun, hs, hS'⟩ := append_core hC hS hd hte hpos hz0 hown hsz hr (hy hS) hone hby h63 hok (fun m x g hm hg => hS.br m n x _ g v hm hn hg hv) (fun m y hm => hS.od.ro n m _ y v hn hm hv) (rw' := rw') (fun m x hm => by
          obtain ⟨h1, h2⟩ := hrw m x hm
          refine ⟨h1, fun k hk2 => ?_⟩
          cases hkb : k.ownBlock with
          | none => exact .inl rfl
          | some b => exact .inr fun he => h2 (hS.rr m n x _ b k v h1 hn hk2 hv hkb he.symm)) o.type cs
        unfold Oper.wp
        rw [hex, ← hxr, hrun]
        exact hnext s' _ _ E' hk (hput hS' hs)
    have goNil : ∀ ys, x = .p nilS → y = .p (.seq te.size ys) → SAnd ((∀ c ∈ ys.flatten, c.one = true) ∧ ys.length * te.bytes ≤ 140737488355328 ∧ ys.length ≤ 9223372036854775807)
              (addRw s s.rw (e, te.size, ys) fun s' m => putFK nt s' o.dst (.own m) K) → Steps1 C nt o s K := by
      intro ys hxn hyn h1
      subst hxn; subst hyn
      obtain ⟨⟨hone, hby, h63⟩, h2⟩ := h1
      obtain ⟨s', hk, _, _, _, hput⟩ := putFK_sound (C := C) h2
      intro B ok0 w0 a w E next Q hS hnext
      have hxr := v_inv (hx hS)
      obtain ⟨cs, hex⟩ := exec a w
      obtain ⟨v', w', E', hrun, hs, hS'⟩ := append_core hC hS hd hte hpos hz0 (xs := []) (us := []) (v := .slice none 0 0) (World.ownsRow_nil w B e te.size) (by simp) .nil (hy hS) hone (by simpa using hby) (by simpa using h63)
        (fun g hg => by simp [Value.ownBlock] at hg) (fun m x g hm hg => by simp [Value.ownBlock]) (fun m y hm => by simp [Value.ownBlock]) (rw' := s.rw) (fun m x hm => ⟨hm, fun k _ => by cases hkb : k.ownBlock with
          | none => exact .inl rfl
          | some b => exact .inr (by simp [Value.ownBlock])⟩) o.type cs
      unfold Oper.wp
      rw [hex, hxr, hrun]
      exact hnext s' _ _ E' hk (hput hS' hs)
    have keepNil : x = .p nilS → y = .p nilS → putFK nt s o.dst (.p nilS) K → Steps1 C nt o s K := by
      intro hxn hyn h1
      subst hxn; subst hyn
      refine keep (.p nilS) (fun B ok0 w0 a w E hS => ?_) h1
      have hxr := v_inv (hx hS)
      exact ⟨hx hS, v_inv (hy hS), 0, 1, [], by rw [hxr]; exact World.ownsRow_nil w B e 1⟩
    clear hx hy keep exec
    cases y with
    | p y =>
      cases y with
      | v y =>
        cases y with
        | slice ad n c =>
          cases ad with
          | some ad => exact hq.elim
          | none =>
            match n, c, hq with
            | 0, 0, hq =>
              cases x with
              | own n => exact keepOwn n rfl hq rfl
              | p x =>
                cases x with
                | v x =>
                  cases x with
                  | slice ad n c =>
                    cases ad with
                    | some ad => exact hq.elim
                    | none =>
                      match n, c, hq with
                      | 0, 0, hq => exact keepNil rfl rfl hq
                  | _ => exact hq.elim
                | _ => exact hq.elim
              | _ => exact hq.elim
        | _ => exact hq.elim
      | seq sz ys =>
        simp only at hq
        cases hb2 : Nat.beq sz te.size with
        | false => rw [hb2] at hq; exact hq.elim
        | true =>
          rw [hb2] at hq
          simp only [cond_true] at hq
          have hsz := Nat.eq_of_beq_eq_true hb2
          subst hsz
          cases x with
          | own n => exact goOwn n ys rfl rfl hq
          | p x =>
            cases x with
            | v x =>
              cases x with
              | slice ad n c =>
                cases ad with
                | some ad => exact hq.elim
                | none =>
                  match n, c, hq with
                  | 0, 0, hq => exact goNil ys rfl rfl hq
              | _ => exact hq.elim
            | _ => exact hq.elim
          | _ => exact hq.elim
      | _ => exact hq.elim
    | _ => exact hq.elim

theorem SRepL.append {w : World} {E : Env} {xs ys : List SV} {us vs : List Value} (h : SRepL w E xs us) (h' : SRepL w E ys vs) : SRepL w E (xs ++ ys) (us ++ vs) := by
  refine ⟨by simp [h.1, h'.1], fun j x u hx hu => ?_⟩
  have hl := h.1
  rcases Nat.lt_or_ge j xs.length with hj | hj
  · rw [List.getElem?_append_left hj] at hx
    rw [List.getElem?_append_left (by omega)] at hu
    exact h.2 j x u hx hu
  · rw [List.getElem?_append_right hj] at hx
    rw [List.getElem?_append_right (by omega), hl] at hu
    exact h'.2 _ x u hx hu
theorem inlK_sound {c : Call} {A : Operand} (hc : c.callee = .value A) (ho : o.op = .call c) {ys : List SV} (hys : ∀ {B ok0 w0 a w E}, Sat C nt s B ok0 w0 a w E → SRepL w E ys (o.op.operands.toList.map a.eval)) (h : inlK C nt o s ys K) : Steps1 C nt o s K := by
  have go : ∀ (f : SV) (xs zs : List SV) (g : FuncId), ys = f :: xs → ACall C nt s g zs (fun v s' => putFK nt s' o.dst v K) →
      (∀ (w : World) (E : Env) (u : Value) (us : List Value), SRep w E f u → SRepL w E xs us → ∃ bv cv, u = .func (.func g) bv cv ∧ SRepL w E zs (bv.toList ++ us ++ cv.toList)) → Steps1 C nt o s K := by
    intro f xs zs g hyy hA hf B ok0 w0 a w E next Q hS hn
    have hx := hys hS
    have hop : o.op.operands.toList = A :: c.args.toList := by rw [ho]; simp [Op.operands, Call.operands, hc]
    rw [hop, List.map_cons, hyy] at hx
    obtain ⟨u, us, he, hu, hus⟩ := hx.uncons
    injection he with he1 he2
    obtain ⟨bv, cv, hcv, hz⟩ := hf w E u us hu hus
    have hargs' : c.args.map a.eval = us.toArray := by
      rw [← he2]
      simp [← Array.toList_map]
    unfold Oper.wp execOp
    rw [ho]
    have hA' : a.eval A = .func (.func g) bv cv := by rw [he1]; exact hcv
    simp only [resolve, hc, hA', Deferred.ofValue, invoke, Sem.run_bind, Sem.run_pure, Result.andThen_ok, hargs']
    have e : bv ++ us.toArray ++ cv = (bv.toList ++ us ++ cv.toList).toArray := by simp
    rw [e, run_enter hA.body]
    refine (hA.h B ok0 w0 a w E _ (fun u w' => next (a.put o.dst u) w') hS hz (fun v s' u w' E' hk hS' hu' => ?_)).mono ?_
    · obtain ⟨s2, hk2, _, _, _, hput⟩ := putFK_sound (C := C) hk
      exact hn s2 _ w' E' hk2 (hput hS' hu')
    · rintro e w' ⟨u, rfl, hR⟩
      exact hR
  unfold inlK at h
  split at h
  · rename_i g cs xs
    have h2 := apS_sound (capK_sound h)
    refine go (.clo g cs) xs _ g rfl h2 (fun w E u us hu hus => ?_)
    obtain ⟨vs, rfl, hl, hr⟩ := hu
    refine ⟨#[], vs.toArray, rfl, ?_⟩
    simp only [List.toList_toArray, List.nil_append, Array.toList_empty]
    exact SRepL.append hus ⟨by simp [hl], fun j c x hc hx => by
      simp only [List.getElem?_map, Option.map_eq_some_iff] at hc
      obtain ⟨d, hd, rfl⟩ := hc
      exact capRep_iff.1 (hr j d x hd hx)⟩
  · rename_i g cs xs
    have h2 := apS_sound (svK_sound h)
    refine go (.p (.fn g cs)) xs _ g rfl h2 (fun w E u us hu hus => ?_)
    obtain ⟨vs, rfl, hr⟩ := fn_inv hu
    refine ⟨#[], vs.toArray, rfl, ?_⟩
    simp only [List.toList_toArray, List.nil_append, Array.toList_empty]
    exact SRepL.append hus ⟨by simp [hr.1], fun j c x hc hx => by
      simp only [List.getElem?_map, Option.map_eq_some_iff] at hc
      obtain ⟨d, hd, rfl⟩ := hc
      exact hr.2 j d x hd hx⟩
  · rename_i g cs xs
    have h2 := apS_sound (capK_sound h)
    refine go (.bnd g cs) xs _ g rfl h2 (fun w E u us hu hus => ?_)
    obtain ⟨vs, rfl, hl, hr⟩ := hu
    refine ⟨vs.toArray, #[], rfl, ?_⟩
    simp only [List.toList_toArray, List.append_nil, Array.toList_empty]
    exact SRepL.append ⟨by simp [hl], fun j c x hc hx => by
      simp only [List.getElem?_map, Option.map_eq_some_iff] at hc
      obtain ⟨d, hd, rfl⟩ := hc
      exact capRep_iff.1 (hr j d x hd hx)⟩ hus
  · exact h.elim

theorem siter_sound (hC : C.Good) {t : Nat} {A : Operand} (hop : o.op = .range t A) (h : operK C s A fun x => lookK C.tab t fun ti => (match ti.kind with
    | .string => (match x with
      | .p (.v (.string b)) => SAll fun g : Nat => addOb s (.siter g b 0) fun s' => putFK nt s' o.dst (.p (.v (.pointer (some ⟨g, 0, none⟩)))) K
      | _ => False)
    | _ => False)) : Steps1 C nt o s K := by
  obtain ⟨x, h, hx⟩ := operK_sound (nt := nt) h
  obtain ⟨ti, hl, h⟩ := lookK_sound h
  split at h
  case h_2 => exact h.elim
  rename_i hki
  split at h
  case h_2 => exact h.elim
  rename_i b _
  have ht := (tab_ok hC.tab hl).string_run hki
  intro B ok0 w0 a w E next Q hS hnext
  have h := h.h w.heap.size
  rw [addOb_eq] at h
  obtain ⟨s', hk, _, _, _, hput⟩ := putFK_sound (C := C) h
  have hxr := v_inv (hx hS)
  have hS' := hS.newOb (x := .siter w.heap.size b 0) (o := .stringIter b 0) rfl rfl rfl
  unfold Oper.wp execOp
  rw [hop]
  have hrun : (Instr.range t (a.eval A)).run C.P w = .ok (.pointer (some ⟨w.heap.size, 0, none⟩)) (w.alloc (.stringIter b 0)) := by
    rw [hxr]
    simp [Instr.range, run_underlying ht]
  simp only [Sem.run_bind, hrun, Result.andThen_ok, Sem.run_pure]
  exact hnext s' _ _ E hk (hput hS' (.v _))
theorem run_next_string {P : Program} {w : World} {g pos ty : Nat} {b : ByteArray} (hg : w.heap[g]? = some (.stringIter b pos)) (sp : Option Nat) :
    (Instr.next (.pointer (some ⟨g, 0, sp⟩)) true ty).run P w = if pos < b.size then .ok (.tuple #[.bool true, goInt pos, .int .i32 (Utf8.decode b pos).1]) (w.putObj g (.stringIter b (pos + (Utf8.decode b pos).2))) else .ok (.tuple #[.bool false]) w := by
  have hgo : (getObj g).run P w = .ok (.stringIter b pos) w := by simp [getObj, Sem.run, hg]
  have hse : ∀ o, (setObj g o).run P w = .ok () (w.putObj g o) := fun o => by simp [setObj, Sem.run, hg, World.putObj]
  by_cases hp : pos < b.size
  · simp [Instr.next, hgo, hp, hse]
  · simp [Instr.next, hgo, hp]
theorem next_sound (hC : C.Good) {A : Operand} (hop : o.op = .next A true) (h : operK C s A fun x => nextK nt s o.dst x K) : Steps1 C nt o s K := by
  obtain ⟨x, h, hx⟩ := operK_sound (nt := nt) h
  unfold nextK at h
  split at h
  case h_2 => exact h.elim
  rename_i g sp
  obtain ⟨n, h2⟩ := nameK_sound h
  clear h
  obtain ⟨y, hy, h3⟩ := lookK_sound h2
  clear h2
  split at h3
  case h_2 => exact h3.elim
  rename_i g' b pos
  obtain ⟨e, h⟩ := h3
  subst e
  intro B ok0 w0 a w E next Q hS hnext
  have hxr := v_inv (hx hS)
  obtain ⟨hB, hok, z, hz, hzc, rfl⟩ := hS.mem.ob n _ hy
  have hz' : w.heap[g']? = some (.stringIter b pos) := hz
  have hrun := run_next_string (P := C.P) (ty := o.type) hz' sp
  unfold Oper.wp execOp
  rw [hop]
  by_cases hp : pos < b.size
  · rw [if_pos hp] at hrun
    have hrun' := hrun
    rw [← hxr] at hrun'
    simp only [Sem.run_bind, hrun', Result.andThen_ok, Sem.run_pure]
    obtain ⟨cw, hcw, h⟩ := h.t hp
    obtain ⟨ob, h, hself, hother⟩ := setObK_sound h
    rw [setOb_eq] at h
    obtain ⟨s', hk, _, _, _, hput⟩ := putFK_sound (C := C) h
    have hS' := hS.setOb (o := .stringIter b (pos + cw.2)) hy (ob' := ob) (fun y hy2 => by rw [hself] at hy2; injection hy2 with hy2; rw [← hy2]; rfl) (fun y hy2 => by rw [hself] at hy2; injection hy2 with hy2; rw [← hy2]; exact ⟨rfl, rfl⟩) (fun m hm y hy2 => by rw [hother m hm] at hy2; exact hy2)
    rw [hcw]
    refine hnext s' _ _ E hk (hput hS' ?_)
    exact .tup _ [.bool true, goInt pos, .int .i32 cw.1] rfl (RepL.cons (.v _) (RepL.cons (.v _) (RepL.cons (.v _) .nil))).2
  · rw [if_neg hp] at hrun
    have hrun' := hrun
    rw [← hxr] at hrun'
    simp only [Sem.run_bind, hrun', Result.andThen_ok, Sem.run_pure]
    obtain ⟨s', hk, _, _, _, hput⟩ := putFK_sound (C := C) (h.f hp)
    refine hnext s' _ _ E hk (hput hS ?_)
    exact .tup _ [.bool false] rfl (RepL.cons (.v _) .nil).2
theorem makeMap_sound {t : Nat} (hop : o.op = .makeMap t none) (h : SAll fun g : Nat => addOb s (.mp g []) fun s' => putFK nt s' o.dst (.p (.v (.map (some g)))) K) : Steps1 C nt o s K := by
  intro B ok0 w0 a w E next Q hS hnext
  have h := h.h w.heap.size
  rw [addOb_eq] at h
  obtain ⟨s', hk, _, _, _, hput⟩ := putFK_sound (C := C) h
  have hS' := hS.newOb (x := .mp w.heap.size []) (o := .map #[] 0) rfl rfl ⟨#[], 0, rfl, rfl⟩
  unfold Oper.wp execOp
  rw [hop]
  have hrun : (Instr.makeMap t ((none : Option Operand).map a.eval)).run C.P w = .ok (.map (some w.heap.size)) (w.alloc (.map #[] 0)) := by
    simp [Instr.makeMap]
  simp only [Sem.run_bind, hrun, Result.andThen_ok, Sem.run_pure]
  exact hnext s' _ _ E hk (hput hS' (.v _))
theorem mpPut_none : ∀ {ps : List (ByteArray × Value)} {key : ByteArray} {v : Value}, mpGet ps key = none → mpPut ps key v = ps ++ [(key, v)]
  | [], _, _, _ => rfl
  | p :: r, key, v, h => by
    unfold mpGet at h
    unfold mpPut
    by_cases hk : key = p.1
    · rw [if_pos hk] at h; cases h
    · rw [if_neg hk] at h ⊢
      rw [mpPut_none h]
      rfl
theorem mpPut_at : ∀ {es : List MapEntry} {ps : List (ByteArray × Value)} {key : ByteArray} {v u : Value} {i j : Nat}, es.map (fun e => (e.key, e.val)) = ps.map (fun p => (Value.string p.1, p.2)) → Instr.findNow .string (.string key) es i = some (some (i + j, u)) →
    (es.modify j fun e => { e with key := .string key, val := v }).map (fun e => (e.key, e.val)) = (mpPut ps key v).map fun p => (Value.string p.1, p.2)
  | [], [], key, v, u, i, j, h, h2 => by simp [Instr.findNow] at h2
  | e :: es, p :: ps, key, v, u, i, j, h, h2 => by
    simp only [List.map_cons, List.cons.injEq, Prod.mk.injEq] at h
    obtain ⟨⟨h1, h1'⟩, h3⟩ := h
    unfold Instr.findNow at h2
    rw [h1] at h2
    simp only [Instr.sameNow, ba_beq] at h2
    unfold mpPut
    by_cases hk : key = p.1
    · simp only [hk, decide_true, Option.some.injEq, Prod.mk.injEq] at h2
      have : j = 0 := by omega
      subst this
      rw [if_pos hk]
      simp [h3, List.modify_zero_cons]
    · simp only [hk, decide_false] at h2
      rw [if_neg hk]
      cases j with
      | zero =>
        rcases findNow_string (i := i + 1) (key := key) h3 with ⟨h4, _⟩ | ⟨j', v', e', h4, _⟩
        · rw [h4] at h2; simp at h2
        · rw [h4] at h2; simp at h2; omega
      | succ j =>
        have := mpPut_at (v := v) (u := u) (i := i + 1) (j := j) h3 (by rw [h2, Nat.add_assoc, Nat.add_comm 1 j])
        simp only [List.modify_succ_cons, List.map_cons, h1, h1', this]
  | [], _ :: _, key, v, u, i, j, h, _ => by simp at h
  | _ :: _, [], key, v, u, i, j, h, _ => by simp at h
theorem run_mapUpdate {P : Program} {w : World} {t k e g : Nat} {ents : Array MapEntry} {clock : Nat} {ps : List (ByteArray × Value)} {key : ByteArray} {v : Value} (ht : P.underlying t = some (.map k e)) (hk : P.underlying k = some .string)
    (hg : w.heap[g]? = some (.map ents clock)) (he : ents.toList.map (fun e => (e.key, e.val)) = ps.map fun p => (Value.string p.1, p.2)) :
    ∃ ents' clock', (Instr.mapUpdate t (.map (some g)) (.string key) v).run P w = .ok () (w.putObj g (.map ents' clock')) ∧ ents'.toList.map (fun e => (e.key, e.val)) = (mpPut ps key v).map fun p => (Value.string p.1, p.2) := by
  have hgo : (getObj g).run P w = .ok (.map ents clock) w := by simp [getObj, Sem.run, hg]
  have hse : ∀ o, (setObj g o).run P w = .ok () (w.putObj g o) := fun o => by simp [setObj, Sem.run, hg, World.putObj]
  rcases findNow_string (key := key) (i := 0) he with ⟨h1, h2⟩ | ⟨j, u, e', h1, h2, h3, h4⟩
  · refine ⟨ents.push { key := .string key, val := v, born := clock }, clock + 1, ?_, ?_⟩
    · unfold Instr.mapUpdate
      simp [run_underlying ht, hgo, run_checkKey hk, Instr.findKey, run_underlying hk, h1, hse]
    · rw [mpPut_none h2]
      simp [he]
  · have h3' : ents[j]? = some e' := by simpa using h3
    refine ⟨ents.modify j fun e => { e with key := .string key, val := v }, clock, ?_, ?_⟩
    · have hst : (Instr.keyThatStays (.string key) (.string key)).run P w = .ok (.string key) w := by
        simp [Instr.keyThatStays, Instr.sameBits, ba_beq]
      unfold Instr.mapUpdate
      simp [run_underlying ht, hgo, run_checkKey hk, Instr.findKey, run_underlying hk, h1, hse, h3', h4, hst]
    · rw [Array.toList_modify]
      exact mpPut_at he h1
theorem mapUp_sound (hC : C.Good) {t : Nat} {M A X : Operand} (hop : o.op = .mapUpdate t M A X ∨ o.op = .insert t M A X) (hdst : o.dst = none) (h : operK C s M fun m => operK C s A fun y => operK C s X fun x => mapUpK C s t m y x K) : Steps1 C nt o s K := by
  obtain ⟨m, h1, hm⟩ := operK_sound (nt := nt) h
  clear h
  obtain ⟨y, h2, hy⟩ := operK_sound (nt := nt) h1
  clear h1
  obtain ⟨x, h3, hx⟩ := operK_sound (nt := nt) h2
  clear h2
  unfold mapUpK at h3
  split at h3
  case h_2 => exact h3.elim
  rename_i g key v
  obtain ⟨n, g', es, hn, h2⟩ := mpK_sound h3
  clear h3
  obtain ⟨e, h⟩ := h2
  subst e
  obtain ⟨ti, hl, h⟩ := lookK_sound h
  split at h
  case h_2 => exact h.elim
  rename_i kt et hki
  obtain ⟨tk, hlk, h⟩ := lookK_sound h
  split at h
  case h_2 => exact h.elim
  rename_i hkk
  obtain ⟨ob, h, hself, hother⟩ := setObK_sound h
  rw [setOb_eq] at h
  have ht := (tab_ok hC.tab hl).map_run hki
  have hk := (tab_ok hC.tab hlk).string_run hkk
  intro B ok0 w0 a w E next Q hS hnext
  have e1 := v_inv (hm hS)
  have e2 := v_inv (hy hS)
  have e3 := v_inv (hx hS)
  obtain ⟨hB, hok, z, hz, hzc, ents, clock, rfl, hes⟩ := hS.mem.ob n _ hn
  obtain ⟨ents', clock', hrun, hes'⟩ := run_mapUpdate (v := v) ht hk hz hes
  have hS' := hS.setOb (o := .map ents' clock') hn (ob' := ob) (fun y hy2 => by rw [hself] at hy2; injection hy2 with hy2; rw [← hy2]; rfl) (fun y hy2 => by rw [hself] at hy2; injection hy2 with hy2; rw [← hy2]; exact ⟨rfl, ents', clock', rfl, hes'⟩) (fun m hm y hy2 => by rw [hother m hm] at hy2; exact hy2)
  have hrun' : (Instr.mapUpdate t (a.eval M) (a.eval A) (a.eval X)).run C.P w = .ok () (w.putObj g' (.map ents' clock')) := by rw [e1, e2, e3]; exact hrun
  unfold Oper.wp execOp
  rcases hop with hop | hop
  · rw [hop]
    simp only [Sem.run_bind, hrun', Result.andThen_ok, Sem.run_pure]
    refine hnext _ _ _ E h ?_
    rw [hdst]
    exact hS'
  · rw [hop]
    simp only [Sem.run_bind, hrun', Result.andThen_ok, Sem.run_pure]
    refine hnext _ _ _ E h ?_
    rw [hdst]
    exact hS'
theorem flatten_replicate_one {α : Type} (z : α) : ∀ n : Nat, (List.replicate n [z]).flatten = List.replicate n z
  | 0 => rfl
  | n + 1 => by simp [List.replicate_succ, flatten_replicate_one z n]
theorem makeSl_sound (hC : C.Good) {t : Nat} {L M : Operand} (hop : o.op = .makeSlice t L M) (h : operK C s L fun x => operK C s M fun y => makeSlK C nt s o.dst t x y K) : Steps1 C nt o s K := by
  obtain ⟨x, h1, hx⟩ := operK_sound (nt := nt) h
  clear h
  obtain ⟨y, h2, hy⟩ := operK_sound (nt := nt) h1
  clear h1
  unfold makeSlK at h2
  split at h2
  case h_2 => exact h2.elim
  rename_i q n q' m
  have h := h2
  clear h2
  obtain ⟨ti, hl, h⟩ := lookK_sound h
  split at h
  case h_2 => exact h.elim
  rename_i e hki
  obtain ⟨te, hle, h⟩ := lookK_sound h
  split at h
  case h_2 => exact h.elim
  rename_i z hz
  cases hb : Nat.beq te.size 1 with
  | false => rw [hb] at h; exact h.elim
  | true =>
    rw [hb] at h
    obtain ⟨⟨hmn, h0, hby, h63⟩, h⟩ := h
    subst hmn
    rw [addRw_eq] at h
    obtain ⟨s', hk, _, _, _, hput⟩ := putFK_sound (C := C) h
    have hs1 := Nat.eq_of_beq_eq_true hb
    have hd := (tab_ok hC.tab hl).slice_run hki
    obtain ⟨i, zv, hi, hisz, hiby, hiz, hzc⟩ := (tab_ok hC.tab hle).info
    intro B ok0 w0 a w E next Q hS hnext
    have e1 := v_inv (hx hS)
    have e2 := v_inv (hy hS)
    obtain ⟨k, rfl⟩ := Int.eq_ofNat_of_zero_le h0
    obtain ⟨w', hrun, hown, hgr⟩ := run_make_full (P := C.P) w B t e i zv 1 hd hi hiz (by rw [hisz, hs1]) q q' k (by rw [hiby]; omega) (by simp only [maxLen]; omega) hS.size_le
    have hzv : zv.cells = #[z] := by rw [← Array.toList_inj, hzc, hz]
    rw [hzv, Nat.mul_one, toList_madeCells_one] at hown
    obtain ⟨E', hle', hs, _, hS'⟩ := hS.row (e := e) (sz := 1) (ys := List.replicate k [.v z]) (vs := List.replicate k z) (v := .slice none 0 0) (v' := .slice (some ⟨w.heap.size, 0, none⟩) k k) (rw' := s.rw)
      (fun m x hm => ⟨hm, fun k _ => by cases hkb : k.ownBlock with
        | none => exact .inl rfl
        | some b => exact .inr (by simp [Value.ownBlock])⟩)
      (fun n x g _ _ => by simp [Value.ownBlock]) (fun g hg => by simp [Value.ownBlock] at hg) (fun g hg => by simp [Value.ownBlock] at hg) hgr (by rw [List.length_replicate]; exact hown) (by simp) (by
        rw [flatten_replicate_one]
        refine ⟨by simp, fun j c u hc hu => ?_⟩
        rw [List.getElem?_replicate] at hc hu
        split at hc
        · rename_i hj
          rw [if_pos hj] at hu
          injection hc with hc
          injection hu with hu
          subst hc; subst hu
          exact .v _
        · cases hc) (.inr ⟨w.heap.size, rfl, Nat.le_refl _⟩) (fun _ _ _ => by simp [Value.ownBlock])
    have hrun' := hrun
    rw [← e1, ← e2] at hrun'
    unfold Oper.wp execOp
    rw [hop]
    simp only [Sem.run_bind, hrun', Result.andThen_ok, Sem.run_pure]
    exact hnext s' _ _ E' hk (hput hS' hs)
theorem copy_sound (hC : C.Good) {X Y : Operand} {t t' : Nat} (hop : o.op = .call { callee := .builtin .copy, args := #[X, Y], argTypes := #[t, t'] }) (h : operK C s X fun x => operK C s Y fun y => copyK C nt s o.dst t x y K) : Steps1 C nt o s K := by
  obtain ⟨x, h1, hx⟩ := operK_sound (nt := nt) h
  clear h
  obtain ⟨y, h2, hy⟩ := operK_sound (nt := nt) h1
  clear h1
  obtain ⟨ti, hl, h3⟩ := lookK_sound h2
  clear h2
  split at h3
  case h_2 => exact h3.elim
  rename_i e hki
  obtain ⟨te, hle, h⟩ := lookK_sound h3
  clear h3
  cases hb : Nat.beq te.size 1 with
  | false => rw [hb] at h; exact h.elim
  | true =>
    rw [hb] at h
    simp only [cond_true] at h
    split at h
    case h_2 => exact h.elim
    rename_i m sz ys
    have h9 := h
    clear h
    obtain ⟨⟨e', sz', xs⟩, hm, h⟩ := lookK_sound h9
    clear h9
    cases hb2 : Nat.beq sz' 1 && Nat.beq sz 1 with
    | false => simp only [hb2] at h; exact h.elim
    | true =>
      simp only [hb2, cond_true] at h
      rw [Bool.and_eq_true] at hb2
      have hz1 := Nat.eq_of_beq_eq_true hb2.1
      have hz2 := Nat.eq_of_beq_eq_true hb2.2
      subst hz1; subst hz2
      obtain ⟨hone, h⟩ := h
      obtain ⟨rw', h, hself, hother⟩ := setRwK_sound h
      rw [setRw_eq] at h
      obtain ⟨s', hk, _, _, _, hput⟩ := putFK_sound (C := C) h
      have hs1 := Nat.eq_of_beq_eq_true hb
      have hd := (tab_ok hC.tab hl).slice_run hki
      have hsr := (tab_ok hC.tab hle).sizeOf_run
      intro B ok0 w0 a w E next Q hS hnext
      have hxr : E.ν m = some (a.eval X) := hx hS
      obtain ⟨v, us, hv, hown, hsz, hr, hok⟩ := hS.mem.rw m e' 1 xs hm
      rw [hxr] at hv
      injection hv with hv
      obtain ⟨A, cap, news, hyv, hcap, hmx, hszy, hry, hA⟩ := seq_inv (hy hS)
      have hul := hown.1
      have hnl : news.length = ys.length := by rw [hry.1, flat_length hszy, Nat.mul_one]
      rw [Nat.mul_one] at hul
      have exec : (execOp a.eval o).run C.P w = ((Builtin.copy_ #[t, t'] o.type #[a.eval X, a.eval Y]).run C.P w).andThen fun v w => .ok (.value v) w := by
        unfold execOp
        rw [hop]
        have hmm : (#[X, Y] : Array Operand).map a.eval = #[a.eval X, a.eval Y] := by simp
        simp only [resolve, invoke, Sem.run_bind, Sem.run_pure, Result.andThen_ok, hmm, builtin]
      have hfirst : ∀ (n : Nat), n ≤ ys.length → (Builtin.firstCells 1 n (.slice A ys.length cap)).run C.P w = .ok (news.take n).toArray w := by
        intro n hn
        cases A with
        | none =>
          have h0 : ys.length = 0 := by
            rcases Nat.eq_zero_or_pos ys.length with h0 | h0
            · exact h0
            · obtain ⟨b, off, he, _⟩ := hA h0
              cases he
          have : news = [] := List.eq_nil_of_length_eq_zero (by rw [hnl]; exact h0)
          subst this
          simpa using run_firstCells_none (P := C.P) (w := w) 1 n ys.length cap
        | some ad =>
          refine run_firstCells_some (P := C.P) w 1 n ad ys.length cap (news.take n) (by simp; omega) (fun j u hu => ?_)
          rw [List.getElem?_take] at hu
          split at hu
          · have hp : 0 < ys.length := by omega
            obtain ⟨b, off, he, hok2, hc⟩ := hA hp
            injection he with he
            subst he
            rw [addr_add]
            exact hc j u hu
          · cases hu
      have hsize : (sizeOf e).run C.P w = .ok 1 w := by rw [hsr w, hs1]
      have hones : ∀ n, ∀ u ∈ news.take n, u.oneCell' = true := fun n u hu => by
        have hu := List.mem_of_mem_take hu
        obtain ⟨j, hj⟩ := List.getElem?_of_mem hu
        have hjl : j < ys.flatten.length := by have := (List.getElem?_eq_some_iff.1 hj).1; rw [← hry.1]; exact this
        exact (hry.2 j _ u (List.getElem?_eq_getElem hjl) hj).oneCell (hone _ (List.getElem_mem hjl))
      have hmin : Nat.min ys.length xs.length = min ys.length xs.length := rfl
      unfold Oper.wp
      rw [exec, hyv]
      have hflat : (ys.take xs.length ++ xs.drop ys.length).flatten = ys.flatten.take xs.length ++ xs.flatten.drop ys.length := by
        rw [List.flatten_append, flat_take _ hszy, flat_drop _ hsz, Nat.mul_one, Nat.mul_one]
      rcases hown.2 with ⟨h1, h0⟩ | ⟨g, cap', cur, h1, h2, h3, h4, h5, h6, h7⟩
      · have hx0 : xs = [] := List.eq_nil_of_length_eq_zero h0
        subst hx0
        rw [hv, h1]
        have hrun : (Builtin.copy_ #[t, t'] o.type #[.slice none 0 0, .slice A ys.length cap]).run C.P w = .ok (goInt ((min ys.length 0 : Nat) : Int)) w := by
          have := hfirst 0 (Nat.zero_le _)
          simp [Builtin.copy_, run_underlying hd, Builtin.lenOf, hsize, this]
        rw [hrun]
        refine hnext s' _ _ E hk (hput ?_ (.v _))
        have e3 : ({ s with rw := rw' } : AS) = { s with rw := rw' } := rfl
        refine ⟨hS.defs, hS.size, hS.fr, ⟨hS.mem.bx, fun n e2 sz2 zs hn => ?_, hS.mem.ob⟩, hS.bb, ?_, ?_, hS.fresh, hS.ok_lt, hS.ok_from, hS.ok_all, hS.hB, hS.below, hS.glob, hS.svs, ⟨hS.od.oo, hS.od.bo, fun k i x y v hk hi hv2 => by
          by_cases e4 : k = m
          · subst e4; exact hS.od.ro k i _ y v hm hi hv2
          · rw [hother k e4] at hk; exact hS.od.ro k i x y v hk hi hv2⟩⟩
        · by_cases e4 : n = m
          · subst e4
            rw [hself] at hn
            simp only [List.length_nil, List.take_zero, List.drop_nil, List.append_nil] at hn
            injection hn with hn
            injection hn with g1 g2
            injection g2 with g2 g3
            subst g1; subst g2; subst g3
            exact hS.mem.rw n _ _ _ hm
          · rw [hother n e4] at hn
            exact hS.mem.rw n _ _ _ hn
        · intro n n' x y b v2 hn hn' hb3 hv3
          by_cases e4 : n' = m
          · subst e4; exact hS.br n n' x _ b v2 hn hm hb3 hv3
          · rw [hother n' e4] at hn'; exact hS.br n n' x y b v2 hn hn' hb3 hv3
        · intro n n' x y b v2 v3 hn hn' hv3 hv4 hb3 hb4
          have key : ∀ k z, look rw' k = some z → ∃ z', look s.rw k = some z' := fun k z hk => by
            by_cases e4 : k = m
            · subst e4; exact ⟨_, hm⟩
            · rw [hother k e4] at hk; exact ⟨_, hk⟩
          obtain ⟨x', hx'⟩ := key n x hn
          obtain ⟨y', hy'⟩ := key n' y hn'
          exact hS.rr n n' x' y' b v2 v3 hx' hy' hv3 hv4 hb3 hb4
      · have hcl : xs.length ≤ cur.size := by omega
        have hst := run_storeCells_at (P := C.P) g 0 e' (news.take (min ys.length xs.length)) 0 cur w h3 (by simp; omega) (hones _)
        simp only [Nat.zero_add] at hst
        have hrun : (Builtin.copy_ #[t, t'] o.type #[.slice (some ⟨g, 0, none⟩) xs.length cap', .slice A ys.length cap]).run C.P w = .ok (goInt ((min ys.length xs.length : Nat) : Int)) (w.setRow g (cur.toList.take 0 ++ news.take (min ys.length xs.length) ++ cur.toList.drop (0 + (news.take (min ys.length xs.length)).length)).toArray) := by
          have h8 := hfirst (min ys.length xs.length) (Nat.min_le_left _ _)
          simp only [Nat.zero_add]
          simp [Builtin.copy_, run_underlying hd, Builtin.lenOf, hsize, hmin, h8, hst]
        rw [hv, h1, hrun]
        have hxr' : E.ν m = some (.slice (some ⟨g, 0, none⟩) xs.length cap') := by rw [hxr, hv, h1]
        have hown' := hown
        rw [h1] at hown'
        have hS' := hS.storeRow (ds := news.take (min ys.length xs.length)) (off := 0) (xs' := ys.take xs.length ++ xs.drop ys.length) hm hxr' h3 hown' (by rw [← h1]; exact hok) (by simp; omega) (by
          rw [hflat]
          have e5 : news.take (min ys.length xs.length) = news.take xs.length := by
            rcases Nat.le_total ys.length xs.length with hle2 | hle2
            · rw [Nat.min_eq_left hle2, List.take_of_length_le (by omega), List.take_of_length_le (by omega)]
            · rw [Nat.min_eq_right hle2]
          have e6 : us.drop (0 + (news.take (min ys.length xs.length)).length) = us.drop ys.length := by
            simp only [List.length_take, Nat.zero_add]
            rcases Nat.le_total ys.length xs.length with hle2 | hle2
            · congr 1; omega
            · rw [List.drop_of_length_le (by omega), List.drop_of_length_le (by omega)]
          rw [e6, e5]
          simp only [List.take_zero, List.nil_append]
          exact (hry.take _).append (hr.drop _)) (by simp; omega) (fun x hx2 => by
            rcases List.mem_append.1 hx2 with hx2 | hx2
            · exact hszy x (List.mem_of_mem_take hx2)
            · exact hsz x (List.mem_of_mem_drop hx2)) hself hother
        exact hnext s' _ _ E hk (hput hS' (.v _))
theorem allocH_sound {t : Nat} (hop : o.op = .alloc t) {ti : TI} (ht : TI.Ok C.P t ti) (h : allocHK nt s o.dst t ti K) : Steps1 C nt o s K := by
  unfold allocHK at h
  split at h
  case h_2 =>
    obtain ⟨sn, h, hsn⟩ := numK_sound h
    rw [Nat.zero_add] at h
    intro B ok0 w0 a w E next Q hS hn
    have h : putFK nt { s with ob := (s.nx, .hst w.heap.size t ti.zero.length sn) :: s.ob, nx := s.nx + 1 } o.dst (.box s.nx 0) K := h.h w.heap.size
    obtain ⟨s', hk, _, _, _, hput⟩ := putFK_sound (C := C) h
    obtain ⟨zv, hz, hzr⟩ := ht.zero_run
    have hzrep : RepL w E.ok (ti.zero.map PV.v) zv.cells.toList := by
      rw [hz]
      refine ⟨by simp, fun j c u hc hu => ?_⟩
      rw [List.getElem?_map, hu] at hc
      injection hc with hc
      rw [← hc]
      exact .v u
    obtain ⟨E', hle, hs, hS'⟩ := hS.newBox t hzrep
    have hβ : E'.β s.nx = some w.heap.size := by
      obtain ⟨g, hg, e⟩ := hs
      injection e with e
      injection e with e
      injection e with e
      rw [hg, e]
    have hfre := hS.fresh s.nx (Nat.le_refl _)
    have hS2 := hS'.toHst (n := s.nx) (T := t) (cs := ti.zero.map PV.v) (nc := ti.zero.length) (sn := sn) (bx' := s.bx) look_cons_self (by simp) (fun t v hv => by
      obtain ⟨_, c, hc, e⟩ := hsn t v hv
      exact ⟨c, by simpa using hc, e⟩) hβ (fun m x hm => by
      have hne : m ≠ s.nx := fun e => by
        obtain ⟨g, us, hg, _⟩ := hS.mem.bx m x.1 x.2 hm
        rw [e, hfre.1] at hg
        cases hg
      exact ⟨by rw [look_cons_ne (Ne.symm hne)]; exact hm, hne⟩)
    unfold Oper.wp execOp
    rw [hop]
    simp only [Instr.alloc, newVar, newRow, Sem.run_bind, hzr, Result.andThen_ok, Sem.run_pure, run_newObj]
    have e0 : zv.cells.toList.toArray = zv.cells := by simp
    rw [e0] at hS2
    exact hn s' _ _ E' hk (hput hS2 hs)
  rename_i z hz1
  intro B ok0 w0 a w E next Q hS hn
  have h : putFK nt { s with ob := (s.nx, .hold w.heap.size t (.p (.v z))) :: s.ob, nx := s.nx + 1 } o.dst (.box s.nx 0) K := h.h w.heap.size
  obtain ⟨s', hk, _, _, _, hput⟩ := putFK_sound (C := C) h
  obtain ⟨zv, hz, hzr⟩ := ht.zero_run
  have hzl : zv.cells.toList = [z] := by rw [← hz1, hz]
  obtain ⟨E', hle, hs, hS'⟩ := hS.newBox t (cs := [.v z]) (us := [z]) (.cons (.v _) .nil)
  have hβ : E'.β s.nx = some w.heap.size := by
    obtain ⟨g, hg, e⟩ := hs
    injection e with e
    injection e with e
    injection e with e
    rw [hg, e]
  have hfre := hS.fresh s.nx (Nat.le_refl _)
  have hS2 := hS'.toHold (n := s.nx) (T := t) (c := .v z) (bx' := s.bx) look_cons_self hβ (fun m x hm => by
    have hne : m ≠ s.nx := fun e => by
      obtain ⟨g, us, hg, _⟩ := hS.mem.bx m x.1 x.2 hm
      rw [e, hfre.1] at hg
      cases hg
    exact ⟨by rw [look_cons_ne (Ne.symm hne)]; exact hm, hne⟩)
  unfold Oper.wp execOp
  rw [hop]
  have hzc : zv.cells = #[z] := by rw [← Array.toList_inj, hzl]
  simp only [Instr.alloc, newVar, newRow, Sem.run_bind, hzr, Result.andThen_ok, Sem.run_pure, run_newObj, hzc]
  exact hn s' _ _ E' hk (hput hS2 hs)
theorem buildOwn_sound (hC : C.Good) {t n : Nat} {parts : Array (Nat × Operand)} (ho : o.op = .buildSlice t n parts) (h : opersK C s o.op.operands.toList fun xs => buildOwnK C nt s o.dst t n (parts.toList.map (·.1)) xs K) : Steps1 C nt o s K := by
  obtain ⟨xs, h2, hxs⟩ := opersK_sound (nt := nt) h
  clear h
  unfold buildOwnK at h2
  obtain ⟨ti, hl, h3⟩ := lookK_sound h2
  clear h2
  have ht := tab_ok hC.tab hl
  split at h3
  case h_2 => exact h3.elim
  rename_i e hki
  have hd := ht.slice_run hki
  obtain ⟨te, hle, h⟩ := lookK_sound h3
  clear h3
  have hte := tab_ok hC.tab hle
  cases hb : Nat.beq n (parts.toList.map (·.1)).length && Nat.ble (n * te.size) 16777216 && Nat.blt 0 te.size with
  | false => rw [hb] at h; exact h.elim
  | true =>
    rw [hb] at h
    simp only [Bool.and_eq_true] at hb
    have hn := Nat.eq_of_beq_eq_true hb.1.1
    have hbig : n * te.size ≤ 16777216 := Nat.le_of_ble_eq_true hb.1.2
    have hpos : 0 < te.size := by simpa [Nat.blt_eq] using hb.2
    obtain ⟨l, hk, hll, hall, hel⟩ := elemsK_sound hpos h
    rw [addRw_eq] at hk
    obtain ⟨s', hk, _, _, _, hput⟩ := putFK_sound (C := C) hk
    intro B ok0 w0 a w E next Q hS hnext
    have hx := hxs hS
    obtain ⟨us, hus⟩ : ∃ us, List.map a.eval o.op.operands.toList = us := ⟨_, rfl⟩
    rw [hus] at hx
    obtain ⟨z, hz, hzr⟩ := hte.zero_run
    obtain ⟨out, vs, hout, hov, hr⟩ := hel w E us ((Array.range (n * te.size)).map fun x => (if n * te.size = 0 then #[] else z.cells)[x % (if n * te.size = 0 then #[] else z.cells).size]!) hx (by simp [hn])
    have hov' : out.toList = vs := by simpa using hov
    have hrun : (Instr.buildSlice t n (parts.map fun (i, x) => (i, a.eval x))).run C.P w = .ok (.slice (some ⟨w.heap.size, 0, none⟩) n n) (w.alloc (.cells vs.toArray e)) := by
      have hpm := parts_map parts a.eval us (by rw [ho] at hus; exact hus)
      have hout' : Instr.fill (fun i => some (i * te.size, te.size)) ((Array.range (n * te.size)).map fun x => (if n * te.size = 0 then #[] else z.cells)[x % (if n * te.size = 0 then #[] else z.cells).size]!) (parts.map fun (i, x) => (i, a.eval x)).toList = some out := by
        rw [hpm]; exact hout
      have hbig' : ¬ n * te.size > 2 ^ 24 := by omega
      have hv : vs.toArray = out := by rw [← hov']
      by_cases h0 : n * te.size = 0
      · simp only [if_pos h0] at hout'
        simp only [Instr.buildSlice, Sem.run_bind, run_underlying hd, Result.andThen_ok, hte.sizeOf_run, if_neg hbig', if_pos h0, Sem.run_pure, hout', newRow, run_newObj, hv]
        rfl
      · simp only [if_neg h0] at hout'
        simp only [Instr.buildSlice, Sem.run_bind, run_underlying hd, Result.andThen_ok, hte.sizeOf_run, if_neg hbig', if_neg h0, hzr, Sem.run_pure, hout', newRow, run_newObj, hv]
        rfl
    have hb1 : Below w.heap.size w (w.alloc (.cells vs.toArray e)) := (Below.refl _ _).alloc (Nat.le_refl _) _
    have hfl : l.flatten.length = n * te.size := by
      rw [List.length_flatten, List.map_congr_left (g := fun _ => te.size) (fun x hx => hall x hx), List.map_const', List.sum_replicate_nat, hll, hn]
    have hvl : vs.length = n * te.size := by rw [hr.1, hfl]
    have hnl : l.length = n := by rw [hll, hn]
    obtain ⟨E', hle', hs, _, hS'⟩ := hS.row (e := e) (sz := te.size) (ys := l) (vs := vs) (v := .slice none 0 0) (v' := .slice (some ⟨w.heap.size, 0, none⟩) n n) (rw' := s.rw) (w' := w.alloc (.cells vs.toArray e))
      (fun m x hm => ⟨hm, fun k _ => by cases hkb : k.ownBlock with
        | none => exact .inl rfl
        | some b => exact .inr (by simp [Value.ownBlock])⟩)
      (fun n x g _ _ => by simp [Value.ownBlock]) (fun g hg => by simp [Value.ownBlock] at hg) (fun g hg => by simp [Value.ownBlock] at hg)
      ⟨hb1.os, hb1.tape, hb1.output, hb1.size, fun k hk _ => hb1.block k hk⟩
      (by
        rw [hnl]
        refine ⟨hvl, .inr ⟨w.heap.size, n, vs.toArray, rfl, hS.size_le, heap_alloc_new w _, Nat.le_refl _, ?_, by simp [hvl], by simp [← hvl]⟩⟩
        have : n ≤ n * te.size := Nat.le_mul_of_pos_right _ hpos
        simp only [maxLen]
        omega) hall hr (.inr ⟨w.heap.size, rfl, Nat.le_refl _⟩) (fun _ _ _ => by simp [Value.ownBlock])
    unfold Oper.wp execOp
    rw [ho]
    simp only [Sem.run_bind, hrun, Result.andThen_ok, Sem.run_pure]
    exact hnext s' _ _ E' hk (hput hS' hs)
theorem stepK_sound (hC : C.Good) {mu : List Nat} (h : stepK C nt mu o s K) : Steps1 C nt o s K := by
  unfold stepK at h
  split at h
  · rename_i t hop
    obtain ⟨ti, hl, h⟩ := lookK_sound h
    have ht := tab_ok hC.tab hl
    cases hmu : inMu mu (o.dst.map (· + 1000)) with
    | true =>
      rw [hmu] at h
      exact allocH_sound hop ht h
    | false =>
    rw [hmu] at h
    have h := zeroK_sound h
    obtain ⟨z, hz, hzr⟩ := ht.zero_run
    refine newBox_sound (t := t) (us := fun _ _ _ => z.cells.toList) (fun B ok0 w0 a w E hS => ?_) (fun B ok0 w0 a w E hS => ?_) h
    · rw [hz]
      refine ⟨by simp, fun j c u hc hu => ?_⟩
      simp only [List.getElem?_map, Option.map_eq_some_iff] at hc
      obtain ⟨x, hx, rfl⟩ := hc
      rw [hx] at hu
      injection hu with hu
      subst hu
      exact .v _
    · unfold execOp
      rw [hop]
      simp [Instr.alloc, hzr, newVar, newRow]
  · rename_i t A x hop
    cases hd : o.dst with
    | none =>
      rw [hd] at h
      obtain ⟨s', h, hs⟩ := sealStK_sound (C := C) (nt := nt) h
      intro B ok0 w0 a w E next Q hS hn
      obtain ⟨E', hS'⟩ := hs hS
      exact storeK_sound hC hop h hd B ok0 w0 a w E' next Q hS' hn
    | some d => rw [hd] at h; exact h.elim
  · rename_i t A hop
    cases hb : inMu mu o.dst with
    | false => rw [hb] at h; exact valueK_sound hC h
    | true =>
      rw [hb] at h
      obtain ⟨x, h, hx⟩ := operK_sound (nt := nt) h
      obtain ⟨cs, h, hcs⟩ := cellsK_all h
      refine newBox_sound (t := t) (us := fun w E a => (a.eval A).cells.toList) (fun B ok0 w0 a w E hS => hcs w E _ (hx hS)) (fun B ok0 w0 a w E hS => ?_) h
      unfold execOp
      rw [hop]
      simp [Instr.box, newVar, newRow]
  · rename_i X Y t t' hop
    cases hb : Nat.beq t t' with
    | false => rw [hb] at h; exact h.elim
    | true =>
      rw [hb] at h
      obtain rfl := Nat.eq_of_beq_eq_true hb
      exact appendK_sound hC hop h
  · rename_i X Y t t' hop
    exact copy_sound hC hop h
  · rename_i t A hop
    exact siter_sound hC hop h
  · rename_i A hop
    exact next_sound hC hop h
  · rename_i t hop
    exact makeMap_sound hop h
  · rename_i t M A X hop
    cases hd : o.dst with
    | none => rw [hd] at h; exact mapUp_sound hC (.inl hop) hd h
    | some d => rw [hd] at h; exact h.elim
  · rename_i t M A X hop
    cases hd : o.dst with
    | none => rw [hd] at h; exact mapUp_sound hC (.inr hop) hd h
    | some d => rw [hd] at h; exact h.elim
  · rename_i t L M hop
    exact makeSl_sound hC hop h
  · rename_i t n parts hop
    cases hb : inMu mu (o.dst.map (· + 1000)) with
    | false => rw [hb] at h; exact valueK_sound hC h
    | true => rw [hb] at h; exact buildOwn_sound hC hop h
  · rename_i A args ts hop
    cases hb : inMu mu o.dst with
    | true =>
      rw [hb] at h
      obtain ⟨ys, h, hys⟩ := opersK_sound (nt := nt) h
      exact inlK_sound (c := ⟨.value A, args, ts⟩) rfl hop (fun hS => hys hS) h
    | false =>
    rw [hb] at h
    obtain ⟨s', h, hs⟩ := sealOpsK_sound (C := C) (nt := nt) h
    intro B ok0 w0 a w E next Q hS hn
    obtain ⟨E', hS'⟩ := hs hS
    obtain ⟨ys, h, hys⟩ := opersK_sound (nt := nt) h
    cases hcl : isClo ys with
    | true =>
      rw [hcl] at h
      exact inlK_sound (c := ⟨.value A, args, ts⟩) rfl hop (fun hS => hys hS) h B ok0 w0 a w E' next Q hS' hn
    | false =>
    rw [hcl] at h
    obtain ⟨v, hv, h⟩ := vop_sound hC h
    obtain ⟨s2, hk, _, _, _, hput⟩ := putFK_sound (C := C) h
    exact wp_of_vok hv hS' (hys hS') (fun w' E' u hS' hu _ => hn s2 _ w' E' hk (hput hS' hu))
  · obtain ⟨s', h, hs⟩ := freezeOpsK_sound (C := C) (nt := nt) h
    intro B ok0 w0 a w E next Q hS hn
    obtain ⟨E', hS'⟩ := hs hS
    exact valueK_sound hC h B ok0 w0 a w E' next Q hS' hn
  · rename_i g caps hop
    cases hb : inMu mu o.dst with
    | true =>
      rw [hb] at h
      obtain ⟨xs, h, hxs⟩ := opersK_sound (nt := nt) h
      obtain ⟨cs, h4, he⟩ := cloK_sound h
      obtain ⟨s', hk, _, _, _, hput⟩ := putFK_sound (C := C) h4
      subst he
      intro B ok0 w0 a w E next Q hS hn
      have hx := hxs hS
      unfold Oper.wp execOp
      rw [hop]
      have hm : caps.map a.eval = (caps.toList.map a.eval).toArray := by simp [← Array.toList_map]
      have hrun : (Instr.makeFunc (.func g) (#[].map a.eval) (caps.map a.eval)).run C.P w = .ok (.func (.func g) #[] (caps.toList.map a.eval).toArray) w := by
        rw [hm]
        simp [Instr.makeFunc]
      simp only [Sem.run_bind, hrun, Result.andThen_ok, Sem.run_pure]
      refine hn s' _ w E hk (hput hS ⟨_, rfl, by have := hx.1; simpa using this, fun j c x hc hu => ?_⟩)
      exact capRep_iff.2 (hx.2 j (capSV c) x (by simp [hc]) hu)
    | false =>
    rw [hb] at h
    obtain ⟨s', h, hs⟩ := freezeOpsK_sound (C := C) (nt := nt) h
    intro B ok0 w0 a w E next Q hS hn
    obtain ⟨E', hS'⟩ := hs hS
    exact valueK_sound hC h B ok0 w0 a w E' next Q hS' hn
  · rename_i g bs hno hop
    cases hb : inMu mu o.dst with
    | false => rw [hb] at h; exact h.elim
    | true =>
      rw [hb] at h
      obtain ⟨xs, h, hxs⟩ := opersK_sound (nt := nt) h
      obtain ⟨cs, h4, he⟩ := cloK_sound h
      obtain ⟨s', hk, _, _, _, hput⟩ := putFK_sound (C := C) h4
      subst he
      intro B ok0 w0 a w E next Q hS hn
      have hx := hxs hS
      unfold Oper.wp execOp
      rw [hop]
      have hm : bs.map a.eval = (bs.toList.map a.eval).toArray := by simp [← Array.toList_map]
      have hrun : (Instr.makeFunc (.func g) (bs.map a.eval) (#[].map a.eval)).run C.P w = .ok (.func (.func g) (bs.toList.map a.eval).toArray #[]) w := by
        rw [hm]
        simp [Instr.makeFunc]
      simp only [Sem.run_bind, hrun, Result.andThen_ok, Sem.run_pure]
      refine hn s' _ w E hk (hput hS ⟨_, rfl, by have := hx.1; simpa using this, fun j c x hc hu => ?_⟩)
      exact capRep_iff.2 (hx.2 j (capSV c) x (by simp [hc]) hu)
  · obtain ⟨s', h, hs⟩ := freezeOpsK_sound (C := C) (nt := nt) h
    intro B ok0 w0 a w E next Q hS hn
    obtain ⟨E', hS'⟩ := hs hS
    exact valueK_sound hC h B ok0 w0 a w E' next Q hS' hn
  · exact valueK_sound hC h
end
end Go.Proofs.Ab
end
section
/- A region in the text's order. -/
set_option linter.unusedVariables false
set_option linter.unusedSimpArgs false
namespace Go.Proofs.Ab
open Go Go.RowKit

def guardK (ops : List Oper) (o : Oper) (s : AS) (run skip : Prop) : Prop :=
  match o.guard with
  | none => run
  | some (j, b) => nthK ops j fun q => match q.dst with
    | some d => lookK s.fr d fun v => match v with
      | .p (.v (.bool c)) => bif c == b then run else skip
      | .p (.v (.tuple _)) => skip
      | _ => False
    | none => False
/-- A round of a loop over a function: what it says (on with it, or no more), and the state then. -/
structure SRound (C : Cx) (nt : Nat) (s : AS) (g : Nat) (xs : List SV) (K : Bool → AS → Prop) : Prop where
  h : ∀ (F : Fence) (n B : Nat) (ok0 : Base) (w0 : World) (a : Act) (w : World) (E : Env) (us : List Value) (R : Ending → World → Prop), (∀ f, F.fn f) → F.depth = none → F.alive = false → F.round = none → Sat C nt s B ok0 w0 a w E → SRepL w E xs us →
    (∀ b s' w' E', K b s' → Sat C nt s' B ok0 w0 a w' E' → R (.returned (.bool b)) w') →
    ∃ f tmps assign body, (Instr.yield g us.toArray).run C.P w = .ok (.round g f tmps assign body) w ∧ RoundIn F n C.P g f tmps assign body w R
def yieldK (C : Cx) (nt : Nat) (o : Oper) (s : AS) (K : AS → Prop) : Prop :=
  SAnd (C.inR = false) <| opersK C s o.op.operands.toList fun ys => match ys with
    | .p (.v (.func (.yield g) ⟨[]⟩ ⟨[]⟩)) :: xs => SRound C nt s g xs fun b s' => putFK nt s' o.dst (.p (Bo b)) K
    | _ => False
def isYield : SV → Bool
  | .p (.v (.func (.yield _) _ _)) => true
  | _ => false
/-- An operation, calls of yield among them. -/
def opK (C : Cx) (nt : Nat) (mu : List Nat) (o : Oper) (s : AS) (K : AS → Prop) : Prop :=
  match o.op with
  | .call { callee := .value (.tmp t), .. } => lookD s.fr t (fun x => bif isYield x then yieldK C nt o s K else stepK C nt mu o s K) (stepK C nt mu o s K)
  | _ => stepK C nt mu o s K
def lexK (C : Cx) (nt : Nat) (mu : List Nat) (ops : List Oper) : List Oper → AS → (AS → Prop) → Prop
  | [], s, K => K s
  | o :: rest, s, K => guardK ops o s (opK C nt mu o s fun s' => lexK C nt mu ops rest s' K) (putFK nt s o.dst (.p (.v undef)) fun s' => lexK C nt mu ops rest s' K)

section
variable {C : Cx} {nt : Nat} {s : AS} {o : Oper} {K : AS → Prop}

/-- The fences under which the walks go: all functions, any depth; a round only where the walk says so. -/
structure FW (C : Cx) (F : Fence) : Prop where
  fn : ∀ f, F.fn f
  depth : F.depth = none
  alive : F.alive = false
  round : C.inR = false → F.round = none
theorem FW.fenced {F : Fence} (hF : FW C F) (P : Program) (m : Machine) : m.fenced P F := by
  intro g _
  refine ⟨fun h => ?_, Or.inl (hF.fn _), fun f _ => hF.fn f, fun d h => ?_⟩
  · rw [hF.alive] at h; cases h
  · rw [hF.depth] at h; cases h
theorem FW.steps {F : Fence} (hF : FW C F) {P : Program} {m m' : Machine} (h : Steps P m m') : StepsIn (Machine.fenced P F) P m m' := (StepsIn.of_steps h).mono fun m _ => hF.fenced P m
theorem FW.calls {F : Fence} (hF : FW C F) {n : Nat} {P : Program} {f : FuncId} {args : Array Value} {w : World} {R : Ending → World → Prop} (h : Calls P f args w R) : CallsIn F n P f args w R :=
  ⟨hF.fn f, fun cs _ => let ⟨e, w', fr, r, s, x⟩ := h cs
    ⟨e, w', fr, r, by cases e with
      | returned v => exact hF.steps s
      | panicked chain => exact hF.steps s
      | outgrown => exact s, x⟩⟩
theorem FW.rows {F : Fence} (hF : FW C F) {n : Nat} {P : Program} {row : String} {args : Array Value} {w : World} {R : Value → World → Prop} (h : Rows P row args w R) : RowsIn F n P row args w R :=
  fun c cs _ => let ⟨v, w', r, s⟩ := h c cs; ⟨v, w', r, hF.steps s⟩
theorem FW.one {F : Fence} (hF : FW C F) {n : Nat} : F.depth.isSome = true → 1 ≤ n := fun h => by rw [hF.depth] at h; cases h
/-- An operation that is carried out outside a round is carried out so in one. -/
theorem FW.op {F : Fence} (hF : FW C F) {n : Nat} {a : Act} {w : World} {next : Act → World → Prop} {Q : Exit → Act → World → Prop} (hd : ∀ c, o.op ≠ .defer c) (h : o.wp C.P a w next Q) : o.wpIn F n C.P a w next Q := by
  refine ⟨fun f _ => hF.fn f, ?_⟩
  rw [Oper.semAt_eq _ _ _ hd]
  unfold Oper.wp at h
  generalize (execOp a.eval o).run C.P w = r at *
  cases r with
  | ok x w' =>
    cases x with
    | value v => exact h
    | skip => exact h
    | defer d => exact h
    | enter f args => exact ⟨hF.one, hF.calls h⟩
    | row row args => exact ⟨hF.one, hF.rows h⟩
    | _ => exact h.elim
  | halt x w' => cases x <;> exact h
theorem vop_plain {xs : List SV} {k : SV → Prop} (h : vop C s o xs k) : ∀ c, o.op ≠ .defer c := by
  intro c e
  unfold vop at h
  rw [e] at h
  exact h
theorem valueK_plain (h : valueK C nt o s K) : ∀ c, o.op ≠ .defer c := by
  obtain ⟨xs, h, _⟩ := opersK_sound (nt := nt) h
  exact vop_plain h
theorem stepK_plain {mu : List Nat} (h : stepK C nt mu o s K) : ∀ c, o.op ≠ .defer c := by
  intro c e
  unfold stepK at h
  rw [e] at h
  exact valueK_plain h c e

theorem opK_sound (hC : C.Good) {mu : List Nat} (h : opK C nt mu o s K) {F : Fence} (hF : FW C F) {n : Nat} (B : Nat) (ok0 : Base) (w0 : World) (a : Act) (w : World) (E : Env) (next : Act → World → Prop) (Q : Exit → Act → World → Prop) (hS : Sat C nt s B ok0 w0 a w E)
    (hn : ∀ s' a' w' E', K s' → Sat C nt s' B ok0 w0 a' w' E' → next a' w') : o.wpIn F n C.P a w next Q := by
  have plain : stepK C nt mu o s K → o.wpIn F n C.P a w next Q := fun h => hF.op (stepK_plain h) (stepK_sound hC h B ok0 w0 a w E next Q hS hn)
  unfold opK at h
  split at h
  case h_2 => exact plain h
  rename_i t args ts hop
  rcases lookD_sound h with ⟨x, hx, h⟩ | h
  case inr => exact plain h
  cases hy : isYield x with
  | false => rw [hy] at h; exact plain h
  | true =>
    rw [hy] at h
    obtain ⟨hr, h⟩ := h
    obtain ⟨ys, h, hys⟩ := opersK_sound (nt := nt) h
    split at h
    case h_2 => exact h.elim
    rename_i g xs
    have hop' : o.op.operands.toList = .tmp t :: args.toList := by rw [hop]; simp [Op.operands, Call.operands]
    have hx := hys hS
    rw [hop', List.map_cons] at hx
    obtain ⟨u, us, he, hu, hus⟩ := hx.uncons
    injection he with he1 he2
    have hu := v_inv hu
    subst hu
    have hround := hF.round hr
    refine ⟨fun f _ => hF.fn f, ?_⟩
    rw [hround, Oper.semAt_none]
    have hrun : ∃ f tmps assign body, (execOp a.eval o).run C.P w = .ok (.round g f tmps assign body) w ∧ RoundIn F (n - 1) C.P g f tmps assign body w (fun
      | .returned v, w'' => next (a.put o.dst v) w''
      | .panicked chain, w'' => Q (.panic chain) a w''
      | .outgrown, _ => LetsOut Q) := by
      obtain ⟨f, tmps, assign, body, h1, h2⟩ := h.h F (n - 1) B ok0 w0 a w E us (fun
        | .returned v, w'' => next (a.put o.dst v) w''
        | .panicked chain, w'' => Q (.panic chain) a w''
        | .outgrown, _ => LetsOut Q) hF.fn hF.depth hF.alive hround hS hus (fun b s' w' E' hk hS' => by
        obtain ⟨s2, hk2, _, _, _, hput⟩ := putFK_sound (C := C) hk
        exact hn s2 _ w' E' hk2 (hput hS' (.v _)))
      refine ⟨f, tmps, assign, body, ?_, h2⟩
      have hargs' : args.map a.eval = us.toArray := by
        rw [← he2]
        simp [← Array.toList_map]
      unfold execOp
      rw [hop]
      simp only [resolve, he1, Deferred.ofValue, invoke, Sem.run_bind, Sem.run_pure, Result.andThen_ok, hargs', Array.empty_append]
      exact h1
    obtain ⟨f, tmps, assign, body, h1, h2⟩ := hrun
    rw [h1]
    exact ⟨hF.one, h2⟩

def boolOf : Value → Option Bool
  | .bool b => some b
  | _ => none
theorem yielded_of {ops : List Oper} {j d : Nat} {q : Oper} {a : Act} {u : Value} (hq : ops[j]? = some q) (hd : q.dst = some d) (hsz : d < a.tmps.size) (hu : a.tmps.getD d undef = u) :
    yielded ops.toArray a.tmps j = boolOf u := by
  unfold yielded
  have h1 : ops.toArray[j]? = some q := by simpa using hq
  have h2 : a.tmps[d]? = some u := by
    rw [← hu]
    simp [Array.getD, hsz]
  simp only [h1, Option.bind_some, hd, h2]
  cases u <;> rfl

/-- Whether the operation is carried out. -/
theorem guardK_sound {ops : List Oper} {run skip : Prop} (h : guardK ops o s run skip) :
    (run ∧ ∀ {B ok0 w0 a w E}, Sat C nt s B ok0 w0 a w E → Region.wanted o (yielded ops.toArray a.tmps) = true) ∨ (skip ∧ ∀ {B ok0 w0 a w E}, Sat C nt s B ok0 w0 a w E → Region.wanted o (yielded ops.toArray a.tmps) = false) := by
  unfold guardK at h
  cases hg : o.guard with
  | none =>
    rw [hg] at h
    exact .inl ⟨h, fun _ => by simp [Region.wanted, hg]⟩
  | some jb =>
    obtain ⟨j, b⟩ := jb
    rw [hg] at h
    obtain ⟨q, hq, h⟩ := nthK_sound h
    cases hd : q.dst with
    | none => simp only [hd] at h
    | some d =>
      simp only [hd] at h
      obtain ⟨v, hv, h⟩ := lookK_sound h
      have hy : ∀ {B ok0 w0 a w E} (u : Value), v = .p (.v u) → Sat C nt s B ok0 w0 a w E → yielded ops.toArray a.tmps j = boolOf u := by
        intro B ok0 w0 a w E u hvu hS
        subst hvu
        obtain ⟨ht, hr⟩ := hS.fr d _ hv
        exact yielded_of hq hd (by rw [hS.size]; exact ht) (v_inv hr)
      cases v with
      | p x =>
        cases x with
        | v y =>
          cases y with
          | bool c =>
            simp only at h
            cases hcb : (c == b) with
            | true =>
              rw [hcb] at h
              have e : c = b := by simpa using hcb
              exact .inl ⟨h, fun hS => by simp [Region.wanted, hg, hy _ rfl hS, boolOf, e]⟩
            | false =>
              rw [hcb] at h
              have e : c ≠ b := by simpa using hcb
              exact .inr ⟨h, fun hS => by simp [Region.wanted, hg, hy _ rfl hS, boolOf, e]⟩
          | tuple vs => exact .inr ⟨h, fun hS => by simp [Region.wanted, hg, hy _ rfl hS, boolOf]⟩
          | _ => exact h.elim
        | _ => exact h.elim
      | _ => exact h.elim

theorem lexK_sound (hC : C.Good) {mu : List Nat} {ops : List Oper} {Q : Exit → Act → World → Prop} {F : Fence} (hF : FW C F) {n : Nat} : ∀ {rest : List Oper} {i : Nat} {s : AS}, (∀ j, rest[j]? = ops[i + j]?) → lexK C nt mu ops rest s K →
    ∀ {B ok0 w0 a w E}, Sat C nt s B ok0 w0 a w E → (∀ s' a' w' E', K s' → Sat C nt s' B ok0 w0 a' w' E' → Q .normal a' w') → wpOpsIn F n C.P ops.toArray Q (List.range' i rest.length) a w
  | [], i, s, hops, h, B, ok0, w0, a, w, E, hS, hQ => by
    simp only [List.length_nil, List.range'_zero, wpOpsIn]
    exact hQ s a w E h hS
  | o :: rest, i, s, hops, h, B, ok0, w0, a, w, E, hS, hQ => by
    have ho : ops.toArray[i]? = some o := by have := hops 0; simp at this; simp [← this]
    have hrest : ∀ j, rest[j]? = ops[i + 1 + j]? := fun j => by have := hops (j + 1); simp at this; rw [this]; congr 1; omega
    simp only [List.length_cons, List.range'_succ, wpOpsIn, ho]
    rcases guardK_sound (C := C) (nt := nt) h with ⟨hr, hw⟩ | ⟨hr, hw⟩
    · rw [if_pos (hw hS)]
      refine opK_sound hC hr hF B ok0 w0 a w E _ Q hS (fun s' a' w' E' hk hS' => ?_)
      exact lexK_sound hC hF hrest hk hS' hQ
    · rw [if_neg (by rw [hw hS]; simp)]
      obtain ⟨s', hk, _, _, _, hput⟩ := putFK_sound (C := C) hr
      exact ⟨fun f _ => hF.fn f, lexK_sound hC hF hrest hk (hput hS (.v undef)) hQ⟩

theorem lex_region (hC : C.Good) {mu : List Nat} {ops : List Oper} {id : Nat} {Q : Exit → Act → World → Prop} {F : Fence} (hF : FW C F) {n : Nat} (h : lexK C nt mu ops ops s K) {B ok0 w0 a w E} (hS : Sat C nt s B ok0 w0 a w E)
    (hQ : ∀ s' a' w' E', K s' → Sat C nt s' B ok0 w0 a' w' E' → Q .normal a' w') : (Code.region id ops.toArray false).wpIn F n C.P Q a w := by
  refine wpIn_region ?_
  have := lexK_sound (n := n) hC hF (ops := ops) (rest := ops) (i := 0) (fun j => by simp) h hS hQ
  rw [List.range_eq_range']
  simpa using this
end
end Go.Proofs.Ab
end
section
/- A region whose order is drawn: its operations give values whatever the order, and what writes comes last. -/
set_option linter.unusedVariables false
set_option linter.unusedSimpArgs false
namespace Go.Proofs.Ab
open Go Go.RowKit

def Oper.tmpsOf (o : Oper) : List Nat := o.op.operands.toList.filterMap fun | .tmp t => some t | _ => none
def readsOf (ops : List Oper) (o : Oper) : List Nat :=
  (match o.guard with | some (j, _) => (match (ops[j]?).bind (·.dst) with | some d => [d] | none => []) | none => []) ++ Oper.tmpsOf o
def edgesOf (o : Oper) : List Nat := o.after.toList.filterMap fun e => if Region.binds .any e then some e.on else none
def clash (ops : List Oper) (p q : Oper) : Bool :=
  (match p.dst with | some d => (readsOf ops q).contains d || q.dst == some d | none => false) || (match q.dst with | some d => (readsOf ops p).contains d | none => false)
/-- Those that come ahead, through others too: bit i for operation i. -/
def closOf (ops : List Oper) : List Nat := ops.foldl (fun acc o => acc ++ [(edgesOf o).foldl (fun b k => b ||| ((1 <<< k) ||| acc.getD k 0)) 0]) []
def fullAt (cl : List Nat) (j : Nat) : Bool := Nat.beq (cl.getD j 0) (2 ^ j - 1)
/-- The operations from here on come after all that stand ahead of them. -/
def preLen (ops : List Oper) : Nat := (List.range ops.length).foldl (fun acc j => bif fullAt (closOf ops) j then acc else j + 1) 0
def drawOk (ops : List Oper) : Bool :=
  Nat.ble (preLen ops) ops.length &&
  (List.range ops.length).all fun j => (match ops[j]? with
    | some q => (edgesOf q).all (fun k => Nat.blt k j) && (Nat.blt j (preLen ops) || fullAt (closOf ops) j) && (List.range j).all (fun i => match ops[i]? with
        | some p => !clash ops p q || (edgesOf q).contains i
        | none => true)
    | none => true)

/-- What slot a place is made from. -/
def rootOf (ops : List Oper) : Nat → Nat → Nat
  | 0, t => t
  | f + 1, t => match ops.find? (fun o => o.dst == some t) with
    | some o => (match o.op with
      | .fieldAddr _ (.tmp u) _ => rootOf ops f u
      | .indexAddr _ (.tmp u) _ => rootOf ops f u
      | .move (.tmp u) => rootOf ops f u
      | _ => t)
    | none => t
/-- The boxes that are written among the values: nothing else looks at them meanwhile. -/
def zonK (ops : List Oper) (fr : List (Nat × SV)) : List Oper → List (Nat × (Nat × List PV)) → (List (Nat × (Nat × List PV)) → Prop) → Prop
  | [], bx, k => k bx
  | o :: r, bx, k => match o.op with
    | .store _ (.tmp t) _ => lookD fr (rootOf ops 4 t) (fun x => match x with
      | .box n _ => strikeK bx n fun bx => zonK ops fr r bx k
      | _ => zonK ops fr r bx k) (zonK ops fr r bx k)
    | _ => zonK ops fr r bx k
theorem lookD_any {l : List (Nat × SV)} {t : Nat} {k : SV → Prop} {no : Prop} (h : lookD l t k no) : (∃ x, k x) ∨ no := by
  rcases lookD_sound h with ⟨x, _, h⟩ | h
  · exact .inl ⟨x, h⟩
  · exact .inr h
theorem zonK_sound {ops : List Oper} {fr : List (Nat × SV)} : ∀ {l : List Oper} {bx : List (Nat × (Nat × List PV))} {k : List (Nat × (Nat × List PV)) → Prop}, zonK ops fr l bx k → ∃ bx', k bx' ∧ ∀ n x, look bx' n = some x → look bx n = some x
  | [], bx, k, h => ⟨bx, h, fun _ _ h => h⟩
  | o :: r, bx, k, h => by
    unfold zonK at h
    split at h
    · rcases lookD_any h with ⟨x, h⟩ | h
      · split at h
        · obtain ⟨bx1, h, h1⟩ := strikeK_sound h
          obtain ⟨bx', hk, h2⟩ := zonK_sound h
          exact ⟨bx', hk, fun n x hx => (h1 n x (h2 n x hx)).1⟩
        · exact zonK_sound h
      · exact zonK_sound h
    · exact zonK_sound h
def notInK {α : Type} : List (Nat × α) → Nat → Prop → Prop
  | [], _, k => k
  | (m, _) :: r, n, k => bif Nat.beq m n then False else notInK r n k
theorem notInK_sound {α : Type} : ∀ {l : List (Nat × α)} {n : Nat} {k : Prop}, notInK l n k → k ∧ look l n = none
  | [], n, k, h => ⟨h, rfl⟩
  | (m, x) :: r, n, k, h => by
    unfold notInK at h
    unfold look
    cases hb : Nat.beq m n with
    | true => rw [hb] at h; exact h.elim
    | false => rw [hb] at h; exact notInK_sound h
/-- A store among the values. -/
def eStoreK (C : Cx) (s0 : AS) (dn : List Nat) (s : AS) (t : Nat) (p x : SV) (K : Nat → AS → Prop) : Prop :=
  match p with
  | .box n off => lookK C.tab t fun ti => cellsK x fun ds => onesK ds <| bif Nat.beq ds.length ti.size && Nat.blt 0 ti.size && !memN dn n then
      notInK s0.bx n (lookK s.bx n fun y => putK y.2 off ds fun l => setBxK s.bx n (y.1, l) fun bx => setBx s bx (K n)) else False
  | _ => False
/-- The call returns a slice that nothing else holds; what P says of its elements. -/
def AOwn (C : Cx) (f : FuncId) (xs : List PV) (e sz : Nat) (P : List (List PV) → Prop) : Prop :=
  HasBody C f ∧ ∀ (w : World) (ok : Nat → Prop) (us : List Value), (∀ b, ok b → b < w.heap.size) → GlobOk C w ok → RepL w ok xs us →
    Calls C.P f us.toArray w (fun r w' => ∃ u ys vs, r = .returned u ∧ P ys ∧ Below w.heap.size w w' ∧ w'.ownsRow w.heap.size e sz u ys.length vs ∧ (∀ y ∈ ys, y.length = sz) ∧ RepL w' (fun _ => False) ys.flatten vs)
def AOwnP (C : Cx) (f : FuncId) (xs : List PV) (z : Nat × Nat × List (List PV)) : Prop := AOwn C f xs z.1 z.2.1 fun ys => ys = z.2.2
def addRwAt (s0 : AS) (i : Nat) (s : AS) (rw : List (Nat × (Nat × Nat × List (List PV)))) (x : Nat × Nat × List (List PV)) (K : AS → Nat → Prop) : Prop := match s0, s with | ⟨_, _, _, n0, _, _, _⟩, ⟨f, b, _, n, v, o, d⟩ => K ⟨f, b, (n0 + i, x) :: rw, n, v, o, d⟩ (n0 + i)
theorem addRwAt_eq {s0 s : AS} {i : Nat} {rw : List (Nat × (Nat × Nat × List (List PV)))} {x : Nat × Nat × List (List PV)} {K : AS → Nat → Prop} : addRwAt s0 i s rw x K = K { s with rw := (s0.nx + i, x) :: rw } (s0.nx + i) := rfl
/-- A literal among the values that will be appended to. -/
def ownLitK (C : Cx) (t n : Nat) (is : List Nat) (xs : List SV) (k : Nat × Nat × List (List PV) → Prop) : Prop :=
  lookK C.tab t fun ti => match ti.kind with
    | .slice e => lookK C.tab e fun te => bif Nat.beq n is.length && Nat.ble (n * te.size) 16777216 && Nat.blt 0 te.size then elemsK te.size 0 is xs fun l => k (e, te.size, l) else False
    | _ => False
/-- append among the values: to a row that was made among them. -/
def appAtK (C : Cx) (s0 s : AS) (dn : List Nat) (t : Nat) (x y : SV) (k : Nat → List (Nat × (Nat × Nat × List (List PV))) → Nat × Nat × List (List PV) → Nat × Nat × List (List PV) → Prop) : Prop :=
  lookK C.tab t fun ti => match ti.kind with
    | .slice e => lookK C.tab e fun te => bif Nat.blt 0 te.size && Nat.beq te.zero.length te.size then (match x with
      | .own n => (match y with
        | .p (.seq sz ys) => bif Nat.beq sz te.size && !memN dn n then notInK s0.rw n (lookK s.rw n fun r => bif Nat.beq r.1 e && Nat.beq r.2.1 te.size then
            SAnd ((∀ c ∈ ys.flatten, c.one = true) ∧ (r.2.2.length + ys.length) * te.bytes ≤ 140737488355328 ∧ r.2.2.length + ys.length ≤ 9223372036854775807)
              (strikeK s.rw n fun rw => k n rw r (e, te.size, r.2.2 ++ ys)) else False) else False
        | _ => False)
      | _ => False) else False
    | _ => False
def ownCallK (C : Cx) (ys : List SV) (k : Nat × Nat × List (List PV) → Prop) : Prop := match ys with
  | .p (.fn g caps) :: args => pureK args fun ps => appK ps caps fun l => SEx (fun z : Nat × Nat × List (List PV) => AOwnP C g l z) fun z => SAnd (∀ c ∈ z.2.2.flatten, ∃ x, c = PV.v x) (k z)
  | _ => False
/-- The values, in the text's order; the new variables and rows are named by their place. -/
def preK (C : Cx) (nt : Nat) (mu : List Nat) (ops : List Oper) (s0 : AS) : List Oper → Nat → List Nat → AS → (AS → Prop) → Prop
  | [], _, _, s, K => K s
  | o :: rest, i, dn, s, K => guardK ops o s
      (match o.op with
        | .alloc t => lookK C.tab t fun ti => zeroK ti.zero fun z => addBxAt s0 i s (t, z) fun s1 n => putFK nt s1 o.dst (.box n 0) fun s' => preK C nt mu ops s0 rest (i + 1) dn s' K
        | .store t A x => (match o.dst with
          | none => operK C s A fun p => operK C s x fun v => eStoreK C s0 dn s t p v fun n s' => preK C nt mu ops s0 rest (i + 1) (n :: dn) s' K
          | some _ => False)
        | .buildSlice t n parts => bif inMu mu (o.dst.map (· + 1000)) then
            opersK C s o.op.operands.toList fun xs => ownLitK C t n (parts.toList.map (·.1)) xs fun z => addRwAt s0 i s s.rw z fun s1 m => putFK nt s1 o.dst (.own m) fun s' => preK C nt mu ops s0 rest (i + 1) dn s' K
          else opersK C s o.op.operands.toList fun xs => vop C s0 o xs fun v => putFK nt s o.dst v fun s' => preK C nt mu ops s0 rest (i + 1) dn s' K
        | .call { callee := .builtin .append, args := ⟨[X, Y]⟩, argTypes := ⟨[t, t']⟩ } => bif inMu mu (o.dst.map (· + 1000)) && Nat.beq t t' then
            operK C s X fun x => operK C s Y fun y => appAtK C s0 s dn t x y fun n rw r z => addRwAt s0 i s rw z fun s1 m => putFK nt s1 o.dst (.own m) fun s' => preK C nt mu ops s0 rest (i + 1) (n :: dn) s' K
          else bif inMu mu (o.dst.map (· + 2000)) && Nat.beq t t' then
            operK C s X fun x => operK C s Y fun y => appAtK C s0 s dn t x y fun n rw r z => setRw s rw fun s1 => putFK nt s1 o.dst (.p (.seq z.2.1 z.2.2)) fun s' => preK C nt mu ops s0 rest (i + 1) (n :: dn) s' K
          else opersK C s o.op.operands.toList fun xs => vop C s0 o xs fun v => putFK nt s o.dst v fun s' => preK C nt mu ops s0 rest (i + 1) dn s' K
        | .call { callee := .value _, .. } => bif inMu mu (o.dst.map (· + 1000)) then
            opersK C s o.op.operands.toList fun ys => ownCallK C ys fun z => addRwAt s0 i s s.rw z fun s1 m => putFK nt s1 o.dst (.own m) fun s' => preK C nt mu ops s0 rest (i + 1) dn s' K
          else opersK C s o.op.operands.toList fun xs => vop C s0 o xs fun v => putFK nt s o.dst v fun s' => preK C nt mu ops s0 rest (i + 1) dn s' K
        | _ => opersK C s o.op.operands.toList fun xs => vop C s0 o xs fun v => putFK nt s o.dst v fun s' => preK C nt mu ops s0 rest (i + 1) dn s' K)
      (putFK nt s o.dst (.p (.v undef)) fun s' => preK C nt mu ops s0 rest (i + 1) dn s' K)
def callOps : List Oper → List Operand
  | [] => []
  | o :: r => match o.op with
    | .call { callee := .value _, args, .. } => args.toList ++ callOps r
    | _ => callOps r
def cutOps : List Oper → List Operand
  | [] => []
  | o :: r => match o.op with
    | .slice _ A none none none => A :: cutOps r
    | .makeFunc _ _ caps => caps.toList ++ cutOps r
    | _ => cutOps r
def splitK : List Oper → Nat → (List Oper → List Oper → Prop) → Prop
  | l, 0, k => k [] l
  | o :: r, n + 1, k => splitK r n fun a b => k (o :: a) b
  | [], _ + 1, k => k [] []
theorem splitK_eq : ∀ (l : List Oper) (n : Nat) (k : List Oper → List Oper → Prop), splitK l n k = k (l.take n) (l.drop n)
  | l, 0, k => by cases l <;> rfl
  | o :: r, n + 1, k => splitK_eq r n _
  | [], _ + 1, k => rfl
/-- How many. -/
def cntK {α : Type} : List α → Nat → (Nat → Prop) → Prop
  | [], n, k => k n
  | _ :: r, n, k => cntK r (n + 1) k
theorem cntK_eq {α : Type} : ∀ (l : List α) (n : Nat) (k : Nat → Prop), cntK l n k = k (n + l.length)
  | [], n, k => rfl
  | _ :: r, n, k => by rw [cntK, cntK_eq r (n + 1) k]; simp only [List.length_cons]; congr 1; omega
def drawK (C : Cx) (nt : Nat) (mu : List Nat) (ops : List Oper) (s : AS) (K : AS → Prop) : Prop :=
  SAnd (drawOk ops = true) <| sealOpsK s (callOps ops) fun s1 => freezeOpsK s1 (cutOps ops) fun s2 => splitK ops (preLen ops) fun pre tl =>
    zonK ops s2.fr pre s2.bx fun bx0 => setBx s2 bx0 fun s0 => preK C nt mu ops s0 pre 0 [] s2 fun s3 => cntK pre 0 fun m => setNx s2 m s3 fun s4 => lexK C nt mu ops tl s4 K

/-! ### Any order -/
section any
variable {P : Program} {ops : Array Oper} {Q : Exit → Act → World → Prop} {F : Fence} {n : Nat}
/-- What holds of the operations listed so far, kept by each that may come up, and enough at the end. -/
theorem wpAny_of_inv (D : Array Bool → Act → World → Prop) (hsz : ∀ j o, ops[j]? = some o → ∀ e ∈ o.after, Region.binds .any e = true → e.on < j)
    (hstep : ∀ listed a w i, listed.size = ops.size → D listed a w → i ∈ Region.ready .any ops listed → wpOpIn F n P ops Q i (D (listed.setIfInBounds i true)) a w)
    (hend : ∀ listed a w, listed.size = ops.size → D listed a w → (∀ i, i < ops.size → listed.getD i false = true) → Q .normal a w) :
    ∀ (fuel : Nat) (listed : Array Bool) (a : Act) (w : World), listed.size = ops.size → ((List.range ops.size).filter fun i => !listed.getD i true).length ≤ fuel → D listed a w → wpAnyIn F n P .any ops Q fuel listed a w := by
  have all_of_none : ∀ listed : Array Bool, listed.size = ops.size → Region.ready .any ops listed = [] → ∀ i, i < ops.size → listed.getD i false = true := by
    intro listed hl hr i
    induction i using Nat.strongRecOn with
    | _ i ih =>
      intro hi
      cases hb : listed.getD i false with
      | true => rfl
      | false =>
        exfalso
        have hb' : listed.getD i true = false := by
          have : i < listed.size := by omega
          simp [Array.getD, this] at hb ⊢
          exact hb
        have : i ∈ Region.ready .any ops listed := by
          rw [mem_ready]
          refine ⟨hb', ops[i], by simp [hi], fun e he hbd => ?_⟩
          have hlt := hsz i ops[i] (by simp [hi]) e he hbd
          exact ih e.on hlt (by omega)
        rw [hr] at this
        cases this
  intro fuel
  induction fuel with
  | zero =>
    intro listed a w hl hc hD
    have hall : ∀ i, i < ops.size → listed.getD i false = true := by
      intro i hi
      cases hb : listed.getD i false with
      | true => rfl
      | false =>
        exfalso
        have hb' : listed.getD i true = false := by
          have : i < listed.size := by omega
          simp [Array.getD, this] at hb ⊢
          exact hb
        have h0 := List.eq_nil_of_length_eq_zero (Nat.le_zero.1 hc)
        have : i ∈ (List.range ops.size).filter fun i => !listed.getD i true := by
          rw [List.mem_filter, List.mem_range]
          exact ⟨hi, by rw [hb']; rfl⟩
        rw [h0] at this
        cases this
    refine ⟨?_, hend listed a w hl hD hall⟩
    cases hr : Region.ready .any ops listed with
    | nil => rfl
    | cons i r =>
      exfalso
      have hi : i ∈ Region.ready .any ops listed := by rw [hr]; exact List.mem_cons_self
      obtain ⟨h1, o, ho, _⟩ := mem_ready.1 hi
      have hio : i < ops.size := (Array.getElem?_eq_some_iff.1 ho).1
      have := hall i hio
      have hil : i < listed.size := by omega
      simp [Array.getD, hil] at h1 this
      rw [h1] at this
      cases this
  | succ fuel ih =>
    intro listed a w hl hc hD
    refine ⟨fun hr => hend listed a w hl hD (all_of_none listed hl hr), fun i hi => ?_⟩
    obtain ⟨h1, o, ho, _⟩ := mem_ready.1 hi
    have hio : i < ops.size := (Array.getElem?_eq_some_iff.1 ho).1
    have hil : i < listed.size := by omega
    refine wpOpIn_mono (fun a' w' hD' => ih (listed.setIfInBounds i true) a' w' (by simpa using hl) ?_ hD') (hstep listed a w i hl hD hi)
    have hlt : ((List.range ops.size).filter fun k => !(listed.setIfInBounds i true).getD k true).length < ((List.range ops.size).filter fun k => !listed.getD k true).length := by
      have hsub : ((List.range ops.size).filter fun k => !(listed.setIfInBounds i true).getD k true) = ((List.range ops.size).filter fun k => !listed.getD k true).filter fun k => k != i := by
        rw [List.filter_filter]
        refine List.filter_congr fun k hk => ?_
        by_cases e : k = i
        · subst e
          simp [Array.getD, hil]
        · have e' : ¬ i = k := fun h => e h.symm
          by_cases hkl : k < listed.size <;> simp [Array.getD, hkl, Array.getElem_setIfInBounds, e, e']
      rw [hsub]
      refine List.length_filter_lt_length_iff_exists.2 ⟨i, ?_, by simp⟩
      rw [List.mem_filter, List.mem_range]
      exact ⟨hio, by rw [h1]; rfl⟩
    omega
end any

/-! ### A new box of a given name -/
section
variable {C : Cx} {nt : Nat} {s : AS} {B : Nat} {ok0 : Base} {w0 : World} {a : Act} {w w' : World} {E : Env}
theorem Sat.newBoxAt (h : Sat C nt s B ok0 w0 a w E) {N : Nat} (hf : E.β N = none) (hN : N < s.nx) (t : Nat) {cs : List PV} {us : List Value} (hr : RepL w E.ok cs us) :
    ∃ E', E.Le E' ∧ (∀ m, m ≠ N → E'.β m = E.β m) ∧ (∀ m, E'.ν m = E.ν m) ∧ (∀ b, E.ok b → (w.alloc (.cells us.toArray t)).heap[b]? = w.heap[b]?) ∧ SRep (w.alloc (.cells us.toArray t)) E' (.box N 0) (.pointer (some ⟨w.heap.size, 0, none⟩)) ∧
      Sat C nt { s with bx := (N, (t, cs)) :: s.bx } B ok0 w0 a (w.alloc (.cells us.toArray t)) E' := by
  have hb : Below w.heap.size w (w.alloc (.cells us.toArray t)) := (Below.refl _ _).alloc (Nat.le_refl _) _
  have hβ : ∀ n g, E.β n = some g → (if n = N then some w.heap.size else E.β n) = some g := by
    intro n g hg
    split
    · rename_i e; subst e; rw [hf] at hg; cases hg
    · exact hg
  have hle : E.Le { E with β := fun n => if n = N then some w.heap.size else E.β n } := ⟨fun _ h => h, hβ, fun _ _ h => h⟩
  have hh : ∀ b, E.ok b → (w.alloc (.cells us.toArray t)).heap[b]? = w.heap[b]? := fun b hk => hb.block b (h.ok_lt b hk)
  have hcells : ∀ n x g, look s.bx n = some x → E.β n = some g → g < w.heap.size := by
    intro n x g hn hg
    obtain ⟨g', us, hg', _, _, hgg, _⟩ := h.mem.bx n x.1 x.2 hn
    rw [hg] at hg'
    injection hg' with hg'
    subst hg'
    exact (Array.getElem?_eq_some_iff.1 hgg).1
  have hrows : ∀ n x v g, look s.rw n = some x → E.ν n = some v → v.ownBlock = some g → g < w.heap.size := by
    intro n x v g hn hv hg
    obtain ⟨v', us, hv', ho, _⟩ := h.mem.rw n x.1 x.2.1 x.2.2 hn
    rw [hv] at hv'
    injection hv' with hv'
    subst hv'
    exact (ho.lt g hg).2
  refine ⟨_, hle, fun m hm => by simp [hm], fun _ => rfl, hh, ⟨w.heap.size, by simp, rfl⟩, h.defs, h.size, fun t v hv => ⟨(h.fr t v hv).1, (h.fr t v hv).2.ext hle hh⟩, ⟨?_, ?_, obs_ext h.mem.ob hle hh (fun _ _ _ _ _ hn => hn) (fun _ _ _ x hx => (hb.block _ (Array.getElem?_eq_some_iff.1 hx).1).trans hx)⟩, ?_, ?_, h.rr, ?_, ?_, h.ok_from, h.ok_all, h.hB, h.below.trans (hb.mono h.size_le), h.glob.ext hle.ok hh, fun t v hv => (h.svs t v hv).ext hle hh, ⟨h.od.oo, fun n m x y hn hm he => ?_, h.od.ro⟩⟩
  · intro n T cs' hn
    by_cases e : n = N
    · subst e
      rw [look_cons_self] at hn
      injection hn with hn
      injection hn with h1 h2
      subst h1; subst h2
      refine ⟨w.heap.size, us, by simp, h.size_le, fun hk => ?_, heap_alloc_new w _, hr.ext hle.ok hh⟩
      have := h.ok_lt _ hk
      omega
    · rw [look_cons_ne (Ne.symm e)] at hn
      obtain ⟨g, us', hg, hBg, hok, hgg, hr'⟩ := h.mem.bx n T cs' hn
      exact ⟨g, us', hβ n g hg, hBg, hok, (hb.block g (Array.getElem?_eq_some_iff.1 hgg).1).trans hgg, hr'.ext hle.ok hh⟩
  · intro n e sz xs hn
    obtain ⟨v, us', hv, ho, hsz, hr', hok⟩ := h.mem.rw n e sz xs hn
    exact ⟨v, us', hv, ho.kept (row := none) ⟨hb.os, hb.tape, hb.output, hb.size, fun k hk _ => hb.block k hk⟩ (by cases v.ownBlock <;> simp), hsz, hr'.ext hle.ok hh, hok⟩
  · intro n m x y g hn hm hgn hgm
    simp only at hgn hgm
    by_cases e : n = N <;> by_cases e' : m = N
    · rw [e, e']
    · rw [if_pos e] at hgn
      rw [if_neg e'] at hgm
      rw [look_cons_ne (Ne.symm e')] at hm
      injection hgn with hgn
      have := hcells m y g hm hgm
      omega
    · rw [if_neg e] at hgn
      rw [if_pos e'] at hgm
      rw [look_cons_ne (Ne.symm e)] at hn
      injection hgm with hgm
      have := hcells n x g hn hgn
      omega
    · rw [if_neg e] at hgn
      rw [if_neg e'] at hgm
      rw [look_cons_ne (Ne.symm e)] at hn
      rw [look_cons_ne (Ne.symm e')] at hm
      exact h.bb n m x y g hn hm hgn hgm
  · intro n m x y g v hn hm hgn hv hg
    simp only at hgn
    by_cases e : n = N
    · rw [if_pos e] at hgn
      injection hgn with hgn
      have := hrows m y v g hm hv hg
      omega
    · rw [if_neg e] at hgn
      rw [look_cons_ne (Ne.symm e)] at hn
      exact h.br n m x y g v hn hm hgn hv hg
  · intro n hn
    have := h.fresh n hn
    exact ⟨by simp only at hn ⊢; rw [if_neg (by omega)]; exact this.1, this.2⟩
  · intro b hk
    have := h.ok_lt b hk
    simp
    omega
  · simp only at he
    by_cases e : n = N
    · rw [if_pos e] at he
      injection he with he
      have := h.ob_lt hm
      omega
    · rw [if_neg e] at he
      rw [look_cons_ne (Ne.symm e)] at hn
      exact h.od.bo n m x y hn hm he
/-- With no slot told, any slot may be written. -/
theorem Sat.put0 (h : Sat C nt s B ok0 w0 a w E) (hs : s.fr = []) (d : Option Nat) (u : Value) : Sat C nt s B ok0 w0 (a.put d u) w E := by
  refine ⟨by cases d <;> exact h.defs, by cases d <;> simpa [Act.put] using h.size, fun t x hx => (by rw [hs] at hx; cases hx), ⟨h.mem.bx, h.mem.rw, h.mem.ob⟩, h.bb, h.br, h.rr, h.fresh, h.ok_lt, h.ok_from, h.ok_all, h.hB, h.below, h.glob, h.svs, h.od⟩
/-- Told less. -/
theorem Sat.lessR (h : Sat C nt s B ok0 w0 a w E) {fr : List (Nat × SV)} {bx : List (Nat × (Nat × List PV))} {rw : List (Nat × (Nat × Nat × List (List PV)))} (hfr : ∀ t v, look fr t = some v → t < nt ∧ SRep w E v (a.tmps.getD t undef)) (hbx : ∀ n x, look bx n = some x → look s.bx n = some x) (hrw : ∀ n x, look rw n = some x → look s.rw n = some x) :
    Sat C nt { s with fr := fr, bx := bx, rw := rw } B ok0 w0 a w E :=
  ⟨h.defs, h.size, hfr, ⟨fun n T cs hn => h.mem.bx n T cs (hbx n _ hn), fun n e sz xs hn => h.mem.rw n e sz xs (hrw n _ hn), h.mem.ob⟩, fun n m x y g hn hm => h.bb n m x y g (hbx n _ hn) (hbx m _ hm), fun n m x y g v hn hm => h.br n m x y g v (hbx n _ hn) (hrw m _ hm), fun n m x y g v v' hn hm => h.rr n m x y g v v' (hrw n _ hn) (hrw m _ hm), h.fresh, h.ok_lt, h.ok_from, h.ok_all, h.hB, h.below, h.glob, h.svs, ⟨h.od.oo, fun n m x y hn hm => h.od.bo n m x y (hbx n x hn) hm, fun n m x y v hn hm => h.od.ro n m x y v (hrw n x hn) hm⟩⟩
theorem Sat.less (h : Sat C nt s B ok0 w0 a w E) {fr : List (Nat × SV)} {bx : List (Nat × (Nat × List PV))} (hfr : ∀ t v, look fr t = some v → t < nt ∧ SRep w E v (a.tmps.getD t undef)) (hbx : ∀ n x, look bx n = some x → look s.bx n = some x) :
    Sat C nt { s with fr := fr, bx := bx } B ok0 w0 a w E := h.lessR hfr hbx (fun _ _ h => h)
end

/-! ### An operation ahead of the writers, at any moment -/
section
variable {C : Cx} {nt : Nat} {s : AS} {o : Oper} {K : AS → Prop} {ops : List Oper}
theorem operK_frame {A : Operand} {k : SV → Prop} (hp : operK C s A k) : ∃ v, k v ∧ ∀ {w : World} {E : Env} {a : Act}, (∀ t, A = .tmp t → ∀ x, look s.fr t = some x → SRep w E x (a.tmps.getD t undef)) → GlobOk C w E.ok → SRep w E v (a.eval A) := by
  cases A with
  | tmp t =>
    obtain ⟨v, hv, hk⟩ := lookK_sound hp
    exact ⟨v, hk, fun h _ => h t rfl v hv⟩
  | const v =>
    cases v with
    | agg cs =>
      obtain ⟨cs⟩ := cs
      have hk := zeroK_sound (vs := cs) (k := fun l => k (.p (.agg l))) hp
      refine ⟨_, hk, fun h _ => .agg _ cs (by simp) (fun j c u hc hu => ?_)⟩
      simp only [List.getElem?_map, Option.map_eq_some_iff] at hc
      obtain ⟨x, hx, rfl⟩ := hc
      rw [hx] at hu
      injection hu with hu
      subst hu
      exact .v _
    | _ => exact ⟨_, hp, fun h _ => .v _⟩
  | func f => exact ⟨_, hp, fun h _ => .fn f [] [] rfl (fun j c u hc => by simp at hc)⟩
  | global g =>
    obtain ⟨cs, hl, hk⟩ := lookK_sound hp
    exact ⟨_, hk, fun _ h => h.1 g cs hl⟩
theorem opersK_frame : ∀ {As : List Operand} {k : List SV → Prop}, opersK C s As k → ∃ xs, k xs ∧ ∀ {w : World} {E : Env} {a : Act}, (∀ t, .tmp t ∈ As → ∀ x, look s.fr t = some x → SRep w E x (a.tmps.getD t undef)) → GlobOk C w E.ok → SRepL w E xs (As.map a.eval)
  | [], k, hp => ⟨[], hp, fun _ _ => .nil⟩
  | A :: As, k, hp => by
    obtain ⟨x, hk, hx⟩ := operK_frame hp
    obtain ⟨xs, hk, hxs⟩ := opersK_frame hk
    exact ⟨_, hk, fun h hg => .cons (hx (fun t e => h t (by rw [e]; exact List.mem_cons_self)) hg) (hxs (fun t ht => h t (List.mem_cons_of_mem _ ht)) hg)⟩
theorem mem_readsOf_guard {j d : Nat} {b : Bool} {q : Oper} (hg : o.guard = some (j, b)) (hq : ops[j]? = some q) (hd : q.dst = some d) : d ∈ readsOf ops o := by
  unfold readsOf
  rw [List.mem_append]
  left
  simp [hg, hq, hd]
theorem mem_readsOf_tmp {t : Nat} (h : Operand.tmp t ∈ o.op.operands.toList) : t ∈ readsOf ops o := by
  unfold readsOf Oper.tmpsOf
  rw [List.mem_append]
  right
  exact List.mem_filterMap.2 ⟨_, h, rfl⟩
theorem guardK_frame {run skip : Prop} (h : guardK ops o s run skip) :
    (run ∧ ∀ {w : World} {E : Env} {a : Act}, a.tmps.size = nt → (∀ t ∈ readsOf ops o, ∀ x, look s.fr t = some x → t < nt ∧ SRep w E x (a.tmps.getD t undef)) → Region.wanted o (yielded ops.toArray a.tmps) = true) ∨
    (skip ∧ ∀ {w : World} {E : Env} {a : Act}, a.tmps.size = nt → (∀ t ∈ readsOf ops o, ∀ x, look s.fr t = some x → t < nt ∧ SRep w E x (a.tmps.getD t undef)) → Region.wanted o (yielded ops.toArray a.tmps) = false) := by
  unfold guardK at h
  cases hg : o.guard with
  | none =>
    rw [hg] at h
    exact .inl ⟨h, fun _ _ => by simp [Region.wanted, hg]⟩
  | some jb =>
    obtain ⟨j, b⟩ := jb
    rw [hg] at h
    obtain ⟨q, hq, h⟩ := nthK_sound h
    cases hd : q.dst with
    | none => simp only [hd] at h
    | some d =>
      simp only [hd] at h
      obtain ⟨v, hv, h⟩ := lookK_sound h
      have hmem := mem_readsOf_guard hg hq hd
      have hy : ∀ {w : World} {E : Env} {a : Act} (u : Value), v = .p (.v u) → a.tmps.size = nt → (∀ t ∈ readsOf ops o, ∀ x, look s.fr t = some x → t < nt ∧ SRep w E x (a.tmps.getD t undef)) → yielded ops.toArray a.tmps j = boolOf u := by
        intro w E a u hvu hn hS
        subst hvu
        obtain ⟨ht, hr⟩ := hS d hmem _ hv
        exact yielded_of hq hd (by rw [hn]; exact ht) (v_inv hr)
      cases v with
      | p x =>
        cases x with
        | v y =>
          cases y with
          | bool c =>
            simp only at h
            cases hcb : (c == b) with
            | true =>
              rw [hcb] at h
              have e : c = b := by simpa using hcb
              exact .inl ⟨h, fun hn hS => by simp [Region.wanted, hg, hy _ rfl hn hS, boolOf, e]⟩
            | false =>
              rw [hcb] at h
              have e : c ≠ b := by simpa using hcb
              exact .inr ⟨h, fun hn hS => by simp [Region.wanted, hg, hy _ rfl hn hS, boolOf, e]⟩
          | tuple vs => exact .inr ⟨h, fun hn hS => by simp [Region.wanted, hg, hy _ rfl hn hS, boolOf]⟩
          | _ => exact h.elim
        | _ => exact h.elim
      | _ => exact h.elim
/-- What an operation ahead of the writers leaves alone. -/
structure AS.Same (s' s : AS) : Prop where
  rw : s'.rw = s.rw
  sv : s'.sv = s.sv
  ob : s'.ob = s.ob
  df : s'.df = s.df
theorem AS.Same.refl (s : AS) : AS.Same s s := ⟨rfl, rfl, rfl, rfl⟩
theorem AS.Same.trans {s s' s'' : AS} (h : AS.Same s'' s') (h' : AS.Same s' s) : AS.Same s'' s := ⟨h.rw.trans h'.rw, h.sv.trans h'.sv, h.ob.trans h'.ob, h.df.trans h'.df⟩
theorem putFK_fr {dst : Option Nat} {v : SV} (hp : putFK nt s dst v K) : ∃ s', K s' ∧ s'.bx = s.bx ∧ (AS.Same s' s) ∧ s'.nx = s.nx ∧ (∀ d, dst = some d → d < nt) ∧
    ∀ t x, look s'.fr t = some x → (dst = some t ∧ x = v) ∨ (dst ≠ some t ∧ look s.fr t = some x) := by
  cases dst with
  | none => exact ⟨s, hp, rfl, .refl _, rfl, fun d h => (by cases h), fun t x hx => .inr ⟨by simp, hx⟩⟩
  | some d =>
    unfold putFK at hp
    cases hb : Nat.blt d nt with
    | false => simp [hb] at hp
    | true =>
      have hd : d < nt := by simpa [Nat.blt_eq] using hb
      simp only [hb, cond_true] at hp
      obtain ⟨fr', hk, hl⟩ := eraseK_sound hp
      rw [setFr_eq] at hk
      refine ⟨_, hk, rfl, ⟨rfl, rfl, rfl, rfl⟩, rfl, fun d' h => (by injection h with h; exact h ▸ hd), fun t x hx => ?_⟩
      by_cases e : d = t
      · subst e
        rw [look_cons_self] at hx
        injection hx with hx
        exact .inl ⟨rfl, hx.symm⟩
      · rw [look_cons_ne e] at hx
        exact .inr ⟨fun h => e (by injection h), hl t (Ne.symm e) x hx⟩

/-- Operation i does the same at every moment at which the slots it reads hold what F tells, and the box that it writes is as told (nd: box, cells ahead; bw: box, cells after; cn: the row that it uses up, rn: the one that it makes). -/
def RecOk (C : Cx) (nt : Nat) (ops : List Oper) (s0 : AS) (i : Nat) (o : Oper) (F : Nat → Option SV) (v : SV) (nd bw : Option (Nat × (Nat × List PV))) (cn rn : Option (Nat × (Nat × Nat × List (List PV)))) : Prop :=
  ∀ (Fn : Fence) (m : Nat), FW C Fn → ∀ (B : Nat) (ok0 : Base) (w0 : World) (a : Act) (w : World) (E : Env) (bx : List (Nat × (Nat × List PV))) (rw : List (Nat × (Nat × Nat × List (List PV)))) (nx : Nat) (next : Act → World → Prop) (Q : Exit → Act → World → Prop),
    Sat C nt ⟨[], bx, rw, nx, s0.sv, s0.ob, s0.df⟩ B ok0 w0 a w E → (∀ n x, look s0.bx n = some x → look bx n = some x) → (∀ n x, look s0.rw n = some x → look rw n = some x) → s0.nx + i < nx → E.β (s0.nx + i) = none → E.ν (s0.nx + i) = none →
    (∀ t ∈ readsOf ops o, ∀ x, F t = some x → t < nt ∧ SRep w E x (a.tmps.getD t undef)) → (∀ n x g, nd = some (n, x) → E.β n = some g → look bx n = some x) → (∀ n x v, cn = some (n, x) → E.ν n = some v → look rw n = some x) →
    (∀ w' E' u bx' rw', Sat C nt ⟨[], bx', rw', nx, s0.sv, s0.ob, s0.df⟩ B ok0 w0 (a.put o.dst u) w' E' → SRep w' E' v u → (∀ x u, SRep w E x u → SRep w' E' x u) → (∀ n x, look bx n = some x → (∀ y, bw ≠ some (n, y)) → look bx' n = some x) →
      (∀ n x, bw = some (n, x) → look bx' n = some x) → (∀ n x, look rw n = some x → (∀ y, cn ≠ some (n, y)) → look rw' n = some x) → (∀ n x, rn = some (n, x) → look rw' n = some x) → (∀ m, m ≠ s0.nx + i → E'.β m = E.β m) → (∀ m, m ≠ s0.nx + i → E'.ν m = E.ν m) → next (a.put o.dst u) w') →
    ops[i]? = some o → wpOpIn Fn m C.P ops.toArray Q i next a w

theorem RecOk.skip {i : Nat} {s0 : AS} {F : Nat → Option SV} (hF : ∀ t x, look s.fr t = some x → F t = some x) (hw : ∀ {w : World} {E : Env} {a : Act}, a.tmps.size = nt → (∀ t ∈ readsOf ops o, ∀ x, look s.fr t = some x → t < nt ∧ SRep w E x (a.tmps.getD t undef)) → Region.wanted o (yielded ops.toArray a.tmps) = false) :
    RecOk C nt ops s0 i o F (.p (.v undef)) none none none none := by
  intro Fn m hFn B ok0 w0 a w E bx rw nx next Q hS hbx hrw hnx hβ hν hrd hnd hcn hk ho
  unfold wpOpIn
  have ho' : ops.toArray[i]? = some o := by simpa using ho
  simp only [ho', hw hS.size (fun t ht x hx => hrd t ht x (hF t x hx))]
  refine ⟨fun f _ => hFn.fn f, ?_⟩
  exact hk w E undef bx rw (hS.put0 rfl _ _) (.v _) (fun _ _ h => h) (fun _ _ h _ => h) (fun n x hx => by cases hx) (fun _ _ h _ => h) (fun n x hx => by cases hx) (fun _ _ => rfl) (fun _ _ => rfl)
theorem RecOk.value (hC : C.Good) {i : Nat} {s0 : AS} {F : Nat → Option SV} {xs : List SV} {v : SV} (hF : ∀ t x, look s.fr t = some x → F t = some x) (hw : ∀ {w : World} {E : Env} {a : Act}, a.tmps.size = nt → (∀ t ∈ readsOf ops o, ∀ x, look s.fr t = some x → t < nt ∧ SRep w E x (a.tmps.getD t undef)) → Region.wanted o (yielded ops.toArray a.tmps) = true)
    (hxs : ∀ {w : World} {E : Env} {a : Act}, (∀ t, .tmp t ∈ o.op.operands.toList → ∀ x, look s.fr t = some x → SRep w E x (a.tmps.getD t undef)) → GlobOk C w E.ok → SRepL w E xs (o.op.operands.toList.map a.eval)) (hv : VOk C s0 o xs v) (hpl : ∀ c, o.op ≠ .defer c) :
    RecOk C nt ops s0 i o F v none none none none := by
  intro Fn m hFn B ok0 w0 a w E bx rw nx next Q hS hbx hrw hnx hβ hν hrd hnd hcn hk ho
  unfold wpOpIn
  have ho' : ops.toArray[i]? = some o := by simpa using ho
  have hrd' : ∀ t ∈ readsOf ops o, ∀ x, look s.fr t = some x → t < nt ∧ SRep w E x (a.tmps.getD t undef) := fun t ht x hx => hrd t ht x (hF t x hx)
  simp only [ho', hw hS.size hrd', if_true]
  refine hFn.op hpl ?_
  have hp := hv B w E _ a ⟨fun n T cs hn => hS.mem.bx n T cs (hbx n _ hn), fun n e sz xs hn => hS.mem.rw n e sz xs (hrw n _ hn), hS.mem.ob⟩ hS.size_le hS.ok_lt hS.glob (hxs (fun t ht x hx => (hrd' t (mem_readsOf_tmp ht) x hx).2) hS.glob) rfl
  have go : ∀ w' u, Below w.heap.size w w' → SRep w' { E with ok := grow E.ok w w' } v u → next (a.put o.dst u) w' := fun w' u hb hu => by
    have hle : E.Le { E with ok := grow E.ok w w' } := ⟨fun b hb => .inl hb, fun _ _ h => h, fun _ _ h => h⟩
    have hh : ∀ b, E.ok b → w'.heap[b]? = w.heap[b]? := fun b hk => hb.block b (hS.ok_lt b hk)
    exact hk w' _ u bx rw ((hS.grow hb).put0 rfl _ _) hu (fun x u h => h.ext hle hh) (fun _ _ h _ => h) (fun n x hx => by cases hx) (fun _ _ h _ => h) (fun n x hx => by cases hx) (fun _ _ => rfl) (fun _ _ => rfl)
  unfold Oper.wp
  revert hp
  generalize (execOp a.eval o).run C.P w = r
  intro hp
  cases r with
  | halt x w' => exact hp.elim
  | ok n w' =>
    cases n with
    | value u => exact go w' u hp.1 hp.2
    | enter f args =>
      obtain ⟨rfl, hc⟩ := hp
      refine hc.mono ?_
      rintro e w'' ⟨u, rfl, hb, hu⟩
      exact go w'' u hb hu
    | _ => exact hp.elim
theorem RecOk.alloc (hC : C.Good) {i t : Nat} {ti : TI} {s0 : AS} {F : Nat → Option SV} (hop : o.op = .alloc t) (hl : look C.tab t = some ti) (hF : ∀ t x, look s.fr t = some x → F t = some x) (hw : ∀ {w : World} {E : Env} {a : Act}, a.tmps.size = nt → (∀ t ∈ readsOf ops o, ∀ x, look s.fr t = some x → t < nt ∧ SRep w E x (a.tmps.getD t undef)) → Region.wanted o (yielded ops.toArray a.tmps) = true) :
    RecOk C nt ops s0 i o F (.box (s0.nx + i) 0) none (some (s0.nx + i, (t, ti.zero.map PV.v))) none none := by
  intro Fn m hFn B ok0 w0 a w E bx rw nx next Q hS hbx hrw hnx hβ hν hrd hnd hcn hk ho
  unfold wpOpIn
  have ho' : ops.toArray[i]? = some o := by simpa using ho
  simp only [ho', hw hS.size (fun t ht x hx => hrd t ht x (hF t x hx)), if_true]
  refine hFn.op (fun c e => by rw [hop] at e; cases e) ?_
  have ht := tab_ok hC.tab hl
  obtain ⟨z, hz, hzr⟩ := ht.zero_run
  have hrep : RepL w E.ok (ti.zero.map PV.v) z.cells.toList := by
    rw [hz]
    refine ⟨by simp, fun j c u hc hu => ?_⟩
    simp only [List.getElem?_map, Option.map_eq_some_iff] at hc
    obtain ⟨x, hx, rfl⟩ := hc
    rw [hx] at hu
    injection hu with hu
    subst hu
    exact .v _
  obtain ⟨E', hle, hβ', hν', hh, hs, hS'⟩ := hS.newBoxAt (N := s0.nx + i) hβ hnx t hrep
  have hrun : (execOp a.eval o).run C.P w = .ok (.value (.pointer (some ⟨w.heap.size, 0, none⟩))) (w.alloc (.cells z.cells.toList.toArray t)) := by
    unfold execOp
    rw [hop]
    simp [Instr.alloc, hzr, newVar, newRow]
  unfold Oper.wp
  rw [hrun]
  refine hk _ E' _ _ rw (hS'.put0 rfl _ _) hs (fun x u h => h.ext hle hh) (fun n x hn hne => ?_) (fun n x hx => ?_) (fun _ _ h _ => h) (fun n x hx => by cases hx) hβ' (fun m _ => hν' m)
  · refine (look_cons_ne (fun e => ?_)).trans hn
    subst e
    exact hne _ rfl
  · injection hx with hx
    injection hx with h1 h2
    subst h1; subst h2
    exact look_cons_self
theorem RecOk.store (hC : C.Good) {i t : Nat} {A X : Operand} {ti : TI} {s0 : AS} {F : Nat → Option SV} {n off T : Nat} {x : SV} {cs ds l : List PV} (hop : o.op = .store t A X) (hdst : o.dst = none) (hl : look C.tab t = some ti) (hF : ∀ t x, look s.fr t = some x → F t = some x)
    (hw : ∀ {w : World} {E : Env} {a : Act}, a.tmps.size = nt → (∀ t ∈ readsOf ops o, ∀ x, look s.fr t = some x → t < nt ∧ SRep w E x (a.tmps.getD t undef)) → Region.wanted o (yielded ops.toArray a.tmps) = true)
    (hp : ∀ {w : World} {E : Env} {a : Act}, (∀ t, A = .tmp t → ∀ x, look s.fr t = some x → SRep w E x (a.tmps.getD t undef)) → GlobOk C w E.ok → SRep w E (.box n off) (a.eval A))
    (hx : ∀ {w : World} {E : Env} {a : Act}, (∀ t, X = .tmp t → ∀ x, look s.fr t = some x → SRep w E x (a.tmps.getD t undef)) → GlobOk C w E.ok → SRep w E x (a.eval X))
    (hds : ∀ (w : World) (E : Env) (u : Value), SRep w E x u → RepL w E.ok ds u.cells.toList) (hones : ∀ c ∈ ds, c.one = true) (hlen : ds.length = ti.size) (hfit : off + ds.length ≤ cs.length) (hl2 : l = cs.take off ++ ds ++ cs.drop (off + ds.length)) :
    RecOk C nt ops s0 i o F (.p (.v undef)) (some (n, (T, cs))) (some (n, (T, l))) none none := by
  intro Fn m hFn B ok0 w0 a w E bx rw nx next Q hS hbx hrw hnx hβ hν hrd hnd hcn hk ho
  unfold wpOpIn
  have ho' : ops.toArray[i]? = some o := by simpa using ho
  have hrd' : ∀ t ∈ readsOf ops o, ∀ x, look s.fr t = some x → t < nt ∧ SRep w E x (a.tmps.getD t undef) := fun t ht x hx => hrd t ht x (hF t x hx)
  simp only [ho', hw hS.size hrd', if_true]
  refine hFn.op (fun c e => by rw [hop] at e; cases e) ?_
  have ht := tab_ok hC.tab hl
  obtain ⟨g, hg, he⟩ := hp (fun t e x hx => (hrd' t (mem_readsOf_tmp (by rw [hop, e]; simp [Op.operands])) x hx).2) hS.glob
  have hxr := hx (fun t e x hx => (hrd' t (mem_readsOf_tmp (by rw [hop, e]; simp [Op.operands])) x hx).2) hS.glob
  have hcr := hds w E _ hxr
  have hn := hnd n (T, cs) g rfl hg
  obtain ⟨g', us, hg', hBg, hok, hgg, hr⟩ := hS.mem.bx n T cs hn
  rw [hg] at hg'
  injection hg' with hg'
  subst hg'
  have e1 : (a.eval X).cells.size = ds.length := by have := hcr.1; simpa using this
  have h1 : ∀ u ∈ (a.eval X).cells.toList, u.oneCell' = true := by
    intro u hu
    obtain ⟨j, hj⟩ := List.getElem?_of_mem hu
    have hjl : j < ds.length := by have := (List.getElem?_eq_some_iff.1 hj).1; rw [← hcr.1]; exact this
    exact (hcr.2 j ds[j] u (List.getElem?_eq_getElem hjl) hj).oneCell (hones _ (List.getElem_mem hjl))
  have hrun := run_storeVar ht w g off T (a.eval X) us.toArray hgg (by rw [e1, hlen]) (by have := hr.1; simp only [List.size_toArray]; omega) h1
  have hS' := hS.store (us' := us.take off ++ (a.eval X).cells.toList ++ us.drop (off + (a.eval X).cells.size)) (bx' := (n, (T, l)) :: bx) hn hg (cs' := l) (by
    rw [hl2, e1]
    exact ((hr.take off).append hcr).append (hr.drop _)) look_cons_self (fun m hm => look_cons_ne (Ne.symm hm))
  unfold Oper.wp execOp
  rw [hop]
  have he' : a.eval A = .pointer (some ⟨g, off, none⟩) := he
  simp only [Instr.storeAt, Instr.sureAddr, he', Sem.run_bind, Sem.run_pure, Result.andThen_ok, hrun]
  have hh : ∀ b, E.ok b → (w.setRow g (us.take off ++ (a.eval X).cells.toList ++ us.drop (off + (a.eval X).cells.size)).toArray).heap[b]? = w.heap[b]? := fun b hb => setRow_other w g b _ (fun e => hok (e ▸ hb))
  refine hk _ E _ ((n, (T, l)) :: bx) rw ?_ (.v _) (fun x u h => h.ext ⟨fun _ h => h, fun _ _ h => h, fun _ _ h => h⟩ hh) (fun m x hm hne => ?_) (fun m x hx => ?_) (fun _ _ h _ => h) (fun n x hx => by cases hx) (fun _ _ => rfl) (fun _ _ => rfl)
  · exact hS'.put0 rfl _ _
  · refine (look_cons_ne (fun e => ?_)).trans hm
    subst e
    exact hne _ rfl
  · injection hx with hx
    injection hx with h1 h2
    subst h1; subst h2
    exact look_cons_self

theorem own_at (C : Cx) {nt : Nat} {s : AS} {B : Nat} {ok0 : Base} {w0 : World} {a : Act} {w w' : World} {E : Env} (hS : Sat C nt s B ok0 w0 a w E) {N : Nat} (hN : E.ν N = none) (hNx : N < s.nx) {e sz : Nat} {ys : List (List PV)} {vs : List Value} {u : Value} (hb : Below w.heap.size w w')
    (hown : w'.ownsRow w.heap.size e sz u ys.length vs) (hsz : ∀ y ∈ ys, y.length = sz) (hr : RepL w E.ok ys.flatten vs) :
    ∃ E', E.Le E' ∧ SRep w' E' (.own N) u ∧ (∀ b, E.ok b → w'.heap[b]? = w.heap[b]?) ∧ (∀ m, E'.β m = E.β m) ∧ (∀ m, m ≠ N → E'.ν m = E.ν m) ∧ Sat C nt { s with rw := (N, (e, sz, ys)) :: s.rw } B ok0 w0 a w' E' := by
  have hown' : w'.ownsRow B e sz u ys.length vs := by
    refine ⟨hown.1, ?_⟩
    rcases hown.2 with h1 | ⟨g, cp, cur, h1, h2, h3⟩
    · exact .inl h1
    · exact .inr ⟨g, cp, cur, h1, Nat.le_trans hS.size_le h2, h3⟩
  exact hS.rowAt hN hNx (Nat.le_refl _) (v := .slice none 0 0) (rw' := s.rw)
    (fun m x hm => ⟨hm, fun k hk => by cases hkb : k.ownBlock with
      | none => exact .inl rfl
      | some b => exact .inr (by simp [Value.ownBlock])⟩)
    (fun n x g _ _ => by simp [Value.ownBlock]) (fun g hg => by simp [Value.ownBlock] at hg) (fun g hg => by simp [Value.ownBlock] at hg) ⟨hb.os, hb.tape, hb.output, hb.size, fun k hk _ => hb.block k hk⟩ hown' hsz hr (by
      rcases hown.2 with ⟨rfl, _⟩ | ⟨g, cp, cur, rfl, h2, _⟩
      · exact .inl rfl
      · exact .inr ⟨g, rfl, h2⟩) (fun _ _ _ => by simp [Value.ownBlock])
theorem RecOk.lit (hC : C.Good) {i t n e : Nat} {parts : Array (Nat × Operand)} {te : TI} {l : List (List PV)} {xs : List SV} {s0 : AS} {F : Nat → Option SV} (hop : o.op = .buildSlice t n parts) (hd : C.P.underlying t = some (.slice e)) (hte : TI.Ok C.P e te) (hn : n = (parts.toList.map (·.1)).length) (hbig : n * te.size ≤ 16777216) (hpos : 0 < te.size)
    (hll : l.length = (parts.toList.map (·.1)).length) (hall : ∀ x ∈ l, x.length = te.size)
    (hel : ∀ (w : World) (E : Env) (us : List Value) (cells : Array Value), SRepL w E xs us → cells.size = (0 + (parts.toList.map (·.1)).length) * te.size → ∃ out vs, Instr.fill (fun i => some (i * te.size, te.size)) cells ((parts.toList.map (·.1)).zip us) = some out ∧ out.toList = cells.toList.take (0 * te.size) ++ vs ∧ RepL w E.ok l.flatten vs)
    (hF : ∀ t x, look s.fr t = some x → F t = some x) (hw : ∀ {w : World} {E : Env} {a : Act}, a.tmps.size = nt → (∀ t ∈ readsOf ops o, ∀ x, look s.fr t = some x → t < nt ∧ SRep w E x (a.tmps.getD t undef)) → Region.wanted o (yielded ops.toArray a.tmps) = true)
    (hxs : ∀ {w : World} {E : Env} {a : Act}, (∀ t, .tmp t ∈ o.op.operands.toList → ∀ x, look s.fr t = some x → SRep w E x (a.tmps.getD t undef)) → GlobOk C w E.ok → SRepL w E xs (o.op.operands.toList.map a.eval)) :
    RecOk C nt ops s0 i o F (.own (s0.nx + i)) none none none (some (s0.nx + i, (e, te.size, l))) := by
  intro Fn m hFn B ok0 w0 a w E bx rw nx next Q hS hbx hrw hnx hβ hν hrd hnd hcn hk ho
  unfold wpOpIn
  have ho' : ops.toArray[i]? = some o := by simpa using ho
  have hrd' : ∀ t ∈ readsOf ops o, ∀ x, look s.fr t = some x → t < nt ∧ SRep w E x (a.tmps.getD t undef) := fun t ht x hx => hrd t ht x (hF t x hx)
  simp only [ho', hw hS.size hrd', if_true]
  refine hFn.op (fun c e => by rw [hop] at e; cases e) ?_
  have hx := hxs (fun t ht x hx => (hrd' t (mem_readsOf_tmp ht) x hx).2) hS.glob
  obtain ⟨us, hus⟩ : ∃ us, List.map a.eval o.op.operands.toList = us := ⟨_, rfl⟩
  rw [hus] at hx
  obtain ⟨z, hz, hzr⟩ := hte.zero_run
  obtain ⟨out, vs, hout, hov, hr⟩ := hel w E us ((Array.range (n * te.size)).map fun x => (if n * te.size = 0 then #[] else z.cells)[x % (if n * te.size = 0 then #[] else z.cells).size]!) hx (by simp [hn])
  have hov' : out.toList = vs := by simpa using hov
  have hrun : (Instr.buildSlice t n (parts.map fun (i, x) => (i, a.eval x))).run C.P w = .ok (.slice (some ⟨w.heap.size, 0, none⟩) n n) (w.alloc (.cells vs.toArray e)) := by
    have hpm := parts_map parts a.eval us (by rw [hop] at hus; exact hus)
    have hout' : Instr.fill (fun i => some (i * te.size, te.size)) ((Array.range (n * te.size)).map fun x => (if n * te.size = 0 then #[] else z.cells)[x % (if n * te.size = 0 then #[] else z.cells).size]!) (parts.map fun (i, x) => (i, a.eval x)).toList = some out := by
      rw [hpm]; exact hout
    have hbig' : ¬ n * te.size > 2 ^ 24 := by omega
    have hv : vs.toArray = out := by rw [← hov']
    by_cases h0 : n * te.size = 0
    · simp only [if_pos h0] at hout'
      simp only [Instr.buildSlice, Sem.run_bind, run_underlying hd, Result.andThen_ok, hte.sizeOf_run, if_neg hbig', if_pos h0, Sem.run_pure, hout', newRow, run_newObj, hv]
      rfl
    · simp only [if_neg h0] at hout'
      simp only [Instr.buildSlice, Sem.run_bind, run_underlying hd, Result.andThen_ok, hte.sizeOf_run, if_neg hbig', if_neg h0, hzr, Sem.run_pure, hout', newRow, run_newObj, hv]
      rfl
  have hb1 : Below w.heap.size w (w.alloc (.cells vs.toArray e)) := (Below.refl _ _).alloc (Nat.le_refl _) _
  have hfl : l.flatten.length = n * te.size := by
    rw [List.length_flatten, List.map_congr_left (g := fun _ => te.size) (fun x hx => hall x hx), List.map_const', List.sum_replicate_nat, hll, hn]
  have hvl : vs.length = n * te.size := by rw [hr.1, hfl]
  have hnl : l.length = n := by rw [hll, hn]
  obtain ⟨E', hle', hs, hh, hβ', hν', hS'⟩ := own_at C hS hν hnx (e := e) (sz := te.size) (ys := l) (vs := vs) (u := .slice (some ⟨w.heap.size, 0, none⟩) n n) hb1 (by
      rw [hnl]
      refine ⟨hvl, .inr ⟨w.heap.size, n, vs.toArray, rfl, Nat.le_refl _, heap_alloc_new w _, Nat.le_refl _, ?_, by simp [hvl], by simp [← hvl]⟩⟩
      have : n ≤ n * te.size := Nat.le_mul_of_pos_right _ hpos
      simp only [maxLen]
      omega) hall hr
  unfold Oper.wp execOp
  rw [hop]
  simp only [Sem.run_bind, hrun, Result.andThen_ok, Sem.run_pure]
  refine hk _ E' _ bx _ (hS'.put0 rfl _ _) hs (fun x u h => h.ext hle' hh) (fun _ _ h _ => h) (fun n x hx => by cases hx) (fun n x hn _ => ?_) (fun n x hx => ?_) (fun m _ => hβ' m) hν'
  · refine (look_cons_ne (fun e => ?_)).trans hn
    subst e
    obtain ⟨v, _, hv, _⟩ := hS.mem.rw _ x.1 x.2.1 x.2.2 hn
    rw [hν] at hv
    cases hv
  · injection hx with hx
    injection hx with h1 h2
    subst h1; subst h2
    exact look_cons_self
theorem RecOk.ownCall (hC : C.Good) {i : Nat} {c : Call} {A : Operand} {g : FuncId} {caps : List PV} {ps : List PV} {z : Nat × Nat × List (List PV)} {s0 : AS} {F : Nat → Option SV} (hop : o.op = .call c) (hc : c.callee = .value A) (hp : AOwnP C g (ps ++ caps) z)
    (hF : ∀ t x, look s.fr t = some x → F t = some x) (hw : ∀ {w : World} {E : Env} {a : Act}, a.tmps.size = nt → (∀ t ∈ readsOf ops o, ∀ x, look s.fr t = some x → t < nt ∧ SRep w E x (a.tmps.getD t undef)) → Region.wanted o (yielded ops.toArray a.tmps) = true)
    (hxs : ∀ {w : World} {E : Env} {a : Act}, (∀ t, .tmp t ∈ o.op.operands.toList → ∀ x, look s.fr t = some x → SRep w E x (a.tmps.getD t undef)) → GlobOk C w E.ok → SRepL w E (.p (.fn g caps) :: ps.map SV.p) (o.op.operands.toList.map a.eval)) (hV : ∀ c ∈ z.2.2.flatten, ∃ x, c = .v x) :
    RecOk C nt ops s0 i o F (.own (s0.nx + i)) none none none (some (s0.nx + i, z)) := by
  intro Fn m hFn B ok0 w0 a w E bx rw nx next Q hS hbx hrw hnx hβ hν hrd hnd hcn hk ho
  unfold wpOpIn
  have ho' : ops.toArray[i]? = some o := by simpa using ho
  have hrd' : ∀ t ∈ readsOf ops o, ∀ x, look s.fr t = some x → t < nt ∧ SRep w E x (a.tmps.getD t undef) := fun t ht x hx => hrd t ht x (hF t x hx)
  simp only [ho', hw hS.size hrd', if_true]
  refine hFn.op (fun c e => by rw [hop] at e; cases e) ?_
  have hx := hxs (fun t ht x hx => (hrd' t (mem_readsOf_tmp ht) x hx).2) hS.glob
  obtain ⟨us, hus⟩ : ∃ us, List.map a.eval o.op.operands.toList = us := ⟨_, rfl⟩
  rw [hus] at hx
  obtain ⟨u, us', rfl, hu, hs⟩ := hx.uncons
  obtain ⟨cv, rfl, hcv⟩ := fn_inv hu
  have hargs := hs.pures
  have hops : o.op.operands.toList = A :: c.args.toList := by rw [hop]; simp [Op.operands, Call.operands, hc]
  rw [hops] at hus
  simp only [List.map_cons, List.cons.injEq] at hus
  have hargs' : c.args.map a.eval = us'.toArray := by
    rw [← hus.2]
    simp [← Array.toList_map]
  unfold Oper.wp execOp
  rw [hop]
  simp only [resolve, hc, hus.1, Deferred.ofValue, invoke, Sem.run_bind, Sem.run_pure, Result.andThen_ok, hargs', Array.empty_append, toArray_append, run_enter hp.1]
  refine (hp.2 w E.ok (us' ++ cv) hS.ok_lt hS.glob (hargs.append hcv)).mono ?_
  rintro r w' ⟨u, ys, vs, rfl, rfl, hb, hown, hsz, hrep⟩
  have hrep' : RepL w E.ok z.2.2.flatten vs := ⟨hrep.1, fun j c u hc hu => by
    obtain ⟨x, rfl⟩ := hV c (List.mem_of_getElem? hc)
    have := v_inv (hrep.2 j _ u hc hu)
    subst this
    exact .v _⟩
  obtain ⟨E', hle', hs, hh, hβ', hν', hS'⟩ := own_at C hS hν hnx hb hown hsz hrep'
  refine hk _ E' _ bx _ (hS'.put0 rfl _ _) hs (fun x u h => h.ext hle' hh) (fun _ _ h _ => h) (fun n x hx => by cases hx) (fun n x hn _ => ?_) (fun n x hx => ?_) (fun m _ => hβ' m) hν'
  · refine (look_cons_ne (fun e => ?_)).trans hn
    subst e
    obtain ⟨v, _, hv, _⟩ := hS.mem.rw _ x.1 x.2.1 x.2.2 hn
    rw [hν] at hv
    cases hv
  · injection hx with hx
    injection hx with h1 h2
    subst h1; subst h2
    exact look_cons_self
/-- Without the entries of a name. -/
def dropN {α : Type} (n : Nat) : List (Nat × α) → List (Nat × α)
  | [] => []
  | (m, x) :: r => if m = n then dropN n r else (m, x) :: dropN n r
theorem look_dropN {α : Type} {n m : Nat} (h : m ≠ n) : ∀ {l : List (Nat × α)}, look (dropN n l) m = look l m
  | [] => rfl
  | (k, x) :: r => by
    unfold dropN
    by_cases e : k = n
    · rw [if_pos e, look_dropN h, look_cons_ne (by omega)]
    · rw [if_neg e]
      by_cases e2 : k = m
      · subst e2; rw [look_cons_self, look_cons_self]
      · rw [look_cons_ne e2, look_cons_ne e2, look_dropN h]
theorem look_dropN_self {α : Type} {n : Nat} : ∀ {l : List (Nat × α)}, look (dropN n l) n = none
  | [] => rfl
  | (k, x) :: r => by
    unfold dropN
    by_cases e : k = n
    · rw [if_pos e, look_dropN_self]
    · rw [if_neg e, look_cons_ne e, look_dropN_self]
theorem RecOk.app (hC : C.Good) {i t e n : Nat} {X Y : Operand} {te : TI} {xs ys : List (List PV)} {s0 : AS} {F : Nat → Option SV} (hop : o.op = .call { callee := .builtin .append, args := #[X, Y], argTypes := #[t, t] }) (hd : C.P.underlying t = some (.slice e)) (hte : TI.Ok C.P e te) (hpos : 0 < te.size) (hz0 : te.zero.length = te.size)
    (hone : ∀ c ∈ ys.flatten, c.one = true) (hby : (xs.length + ys.length) * te.bytes ≤ 140737488355328) (h63 : xs.length + ys.length ≤ 9223372036854775807)
    (hF : ∀ t x, look s.fr t = some x → F t = some x) (hw : ∀ {w : World} {E : Env} {a : Act}, a.tmps.size = nt → (∀ t ∈ readsOf ops o, ∀ x, look s.fr t = some x → t < nt ∧ SRep w E x (a.tmps.getD t undef)) → Region.wanted o (yielded ops.toArray a.tmps) = true)
    (hx : ∀ {w : World} {E : Env} {a : Act}, (∀ t, X = .tmp t → ∀ x, look s.fr t = some x → SRep w E x (a.tmps.getD t undef)) → GlobOk C w E.ok → SRep w E (.own n) (a.eval X))
    (hy : ∀ {w : World} {E : Env} {a : Act}, (∀ t, Y = .tmp t → ∀ x, look s.fr t = some x → SRep w E x (a.tmps.getD t undef)) → GlobOk C w E.ok → SRep w E (.p (.seq te.size ys)) (a.eval Y)) :
    RecOk C nt ops s0 i o F (.own (s0.nx + i)) none none (some (n, (e, te.size, xs))) (some (s0.nx + i, (e, te.size, xs ++ ys))) := by
  intro Fn m hFn B ok0 w0 a w E bx rw nx next Q hS hbx hrw hnx hβ hν hrd hnd hcn hk ho
  unfold wpOpIn
  have ho' : ops.toArray[i]? = some o := by simpa using ho
  have hrd' : ∀ t ∈ readsOf ops o, ∀ x, look s.fr t = some x → t < nt ∧ SRep w E x (a.tmps.getD t undef) := fun t ht x hx => hrd t ht x (hF t x hx)
  simp only [ho', hw hS.size hrd', if_true]
  refine hFn.op (fun c e => by rw [hop] at e; cases e) ?_
  have hxr : E.ν n = some (a.eval X) := hx (fun t e x hx => (hrd' t (mem_readsOf_tmp (by rw [hop, e]; simp [Op.operands, Call.operands])) x hx).2) hS.glob
  have hyr := hy (fun t e x hx => (hrd' t (mem_readsOf_tmp (by rw [hop, e]; simp [Op.operands, Call.operands])) x hx).2) hS.glob
  have hn : look rw n = some (e, te.size, xs) := hcn n _ _ rfl hxr
  obtain ⟨v, us, hv, hown, hsz, hr, hok⟩ := hS.mem.rw n e te.size xs hn
  rw [hxr] at hv
  injection hv with hv
  have exec : ∃ cs : Array Bool, (execOp a.eval o).run C.P w = (builtin .append #[t, t] o.type cs #[a.eval X, a.eval Y]).run C.P w := by
    unfold execOp
    rw [hop]
    have hm : (#[X, Y] : Array Operand).map a.eval = #[a.eval X, a.eval Y] := by simp
    simp only [resolve, invoke, Sem.run_bind, Sem.run_pure, Result.andThen_ok, hm]
    exact ⟨_, rfl⟩
  obtain ⟨cs, hex⟩ := exec
  have hrwd : ∀ m x, look (dropN n rw) m = some x → look rw m = some x ∧ m ≠ n := fun m x hm => by
    by_cases e : m = n
    · subst e; rw [look_dropN_self] at hm; cases hm
    · rw [look_dropN e] at hm; exact ⟨hm, e⟩
  obtain ⟨v', w', E', hrun, hs, hle', hh, hβ', hν', hS'⟩ := append_coreAt hC hS hν hnx (Nat.le_refl _) hd hte hpos hz0 hown hsz hr hyr hone hby h63 hok (fun m x g hm hg => hS.br m n x _ g v hm hn hg (by rw [hxr, hv])) (fun m y hm => hS.od.ro n m _ y v hn hm (by rw [hxr, hv])) (rw' := dropN n rw) (fun m x hm => by
    obtain ⟨h1, h2⟩ := hrwd m x hm
    refine ⟨h1, fun k hk2 => ?_⟩
    cases hkb : k.ownBlock with
    | none => exact .inl rfl
    | some b => exact .inr fun he => h2 (hS.rr m n x _ b k v h1 hn hk2 (by rw [hxr, hv]) hkb he.symm)) o.type cs
  unfold Oper.wp
  rw [hex, hv, hrun]
  refine hk _ E' _ bx _ (hS'.put0 rfl _ _) hs (fun x u h => h.ext hle' hh) (fun _ _ h _ => h) (fun n x hx => by cases hx) (fun k x hk2 hne => ?_) (fun k x hx => ?_) (fun m _ => hβ' m) hν'
  · have hkn : k ≠ n := fun e => by
      subst e
      exact hne _ rfl
    refine (look_cons_ne (fun e => ?_)).trans ((look_dropN hkn).trans hk2)
    subst e
    obtain ⟨v, _, hv, _⟩ := hS.mem.rw _ x.1 x.2.1 x.2.2 hk2
    rw [hν] at hv
    cases hv
  · injection hx with hx
    injection hx with h1 h2
    subst h1; subst h2
    exact look_cons_self
/-- A row that is written no more. -/
theorem Sat.shutRow {C : Cx} {nt : Nat} {fr : List (Nat × SV)} {bx : List (Nat × (Nat × List PV))} {rw rw' : List (Nat × (Nat × Nat × List (List PV)))} {nx : Nat} {sv : List (Nat × SV)} {ob : List (Nat × Ob)} {df : List Nat} {B : Nat} {ok0 : Base} {w0 : World} {a : Act} {w : World} {E : Env}
    (hS : Sat C nt ⟨fr, bx, rw, nx, sv, ob, df⟩ B ok0 w0 a w E) (n : Nat) {e sz : Nat} {ys : List (List PV)} {v : Value} (hn : look rw n = some (e, sz, ys)) (hv : E.ν n = some v) (hrw : ∀ m x, look rw' m = some x → look rw m = some x ∧ m ≠ n) :
    Sat C nt ⟨fr, bx, rw', nx, sv, ob, df⟩ B ok0 w0 a w { E with ok := fun b => E.ok b ∨ v.ownBlock = some b } ∧ Rep w (fun b => E.ok b ∨ v.ownBlock = some b) (.seq sz ys) v := by
  obtain ⟨v0, us0, hv0, ho, hsz, hrep, hok⟩ := hS.mem.rw n e sz ys hn
  rw [hv] at hv0
  injection hv0 with hv0
  subst hv0
  have hle : E.Le { E with ok := fun b => E.ok b ∨ v.ownBlock = some b } := ⟨fun b h => .inl h, fun _ _ h => h, fun _ _ h => h⟩
  have hh : ∀ b, E.ok b → w.heap[b]? = w.heap[b]? := fun _ _ => rfl
  refine ⟨⟨hS.defs, hS.size, fun t x hx => ⟨(hS.fr t x hx).1, (hS.fr t x hx).2.ext hle hh⟩, ⟨?_, ?_, obs_ext hS.mem.ob hle hh (fun m o hm x hx hno hk => hk.elim hno (hS.od.ro n m _ o v hn hm hv)) (fun _ _ _ x hx => hx)⟩, hS.bb, fun i m x y g v hi hm => hS.br i m x y g v hi (hrw m y hm).1, fun i m x y g v v' hi hm => hS.rr i m x y g v v' (hrw i x hi).1 (hrw m y hm).1, hS.fresh, ?_, ?_, fun b hb => .inl (hS.ok_all b hb), hS.hB, hS.below, hS.glob.ext hle.ok hh, fun t v hv => (hS.svs t v hv).ext hle hh, ⟨hS.od.oo, hS.od.bo, fun i j y z v hi hj => hS.od.ro i j y z v (hrw i y hi).1 hj⟩⟩, own_seq ho hsz (hrep.ext (w' := w) hle.ok hh) (fun g hg => .inr hg)⟩
  · intro m T' cs' hm
    obtain ⟨g', us', hg', hB', hok', hgg', hr'⟩ := hS.mem.bx m T' cs' hm
    refine ⟨g', us', hg', hB', fun hk => ?_, hgg', hr'.ext hle.ok hh⟩
    rcases hk with hk | hk
    · exact hok' hk
    · exact hS.br m n _ _ g' v hm hn hg' hv hk
  · intro m e' sz' xs' hm
    obtain ⟨hm', hne⟩ := hrw m _ hm
    obtain ⟨v', us', hv', ho', hsz', hr', hok'⟩ := hS.mem.rw m e' sz' xs' hm'
    refine ⟨v', us', hv', ho', hsz', hr'.ext hle.ok hh, fun k hk hk2 => ?_⟩
    rcases hk2 with hk2 | hk2
    · exact hok' k hk hk2
    · exact hne (hS.rr m n _ _ k v' v hm' hn hv' hv hk hk2)
  · intro b hk
    rcases hk with hk | hk
    · exact hS.ok_lt b hk
    · exact (ho.lt b hk).2
  · intro b hk
    rcases hk with hk | hk
    · exact hS.ok_from b hk
    · exact .inr (ho.lt b hk).1
theorem RecOk.appF (hC : C.Good) {i t e n : Nat} {X Y : Operand} {te : TI} {xs ys : List (List PV)} {s0 : AS} {F : Nat → Option SV} (hop : o.op = .call { callee := .builtin .append, args := #[X, Y], argTypes := #[t, t] }) (hd : C.P.underlying t = some (.slice e)) (hte : TI.Ok C.P e te) (hpos : 0 < te.size) (hz0 : te.zero.length = te.size)
    (hone : ∀ c ∈ ys.flatten, c.one = true) (hby : (xs.length + ys.length) * te.bytes ≤ 140737488355328) (h63 : xs.length + ys.length ≤ 9223372036854775807)
    (hF : ∀ t x, look s.fr t = some x → F t = some x) (hw : ∀ {w : World} {E : Env} {a : Act}, a.tmps.size = nt → (∀ t ∈ readsOf ops o, ∀ x, look s.fr t = some x → t < nt ∧ SRep w E x (a.tmps.getD t undef)) → Region.wanted o (yielded ops.toArray a.tmps) = true)
    (hx : ∀ {w : World} {E : Env} {a : Act}, (∀ t, X = .tmp t → ∀ x, look s.fr t = some x → SRep w E x (a.tmps.getD t undef)) → GlobOk C w E.ok → SRep w E (.own n) (a.eval X))
    (hy : ∀ {w : World} {E : Env} {a : Act}, (∀ t, Y = .tmp t → ∀ x, look s.fr t = some x → SRep w E x (a.tmps.getD t undef)) → GlobOk C w E.ok → SRep w E (.p (.seq te.size ys)) (a.eval Y)) :
    RecOk C nt ops s0 i o F (.p (.seq te.size (xs ++ ys))) none none (some (n, (e, te.size, xs))) none := by
  intro Fn m hFn B ok0 w0 a w E bx rw nx next Q hS hbx hrw hnx hβ hν hrd hnd hcn hk ho
  unfold wpOpIn
  have ho' : ops.toArray[i]? = some o := by simpa using ho
  have hrd' : ∀ t ∈ readsOf ops o, ∀ x, look s.fr t = some x → t < nt ∧ SRep w E x (a.tmps.getD t undef) := fun t ht x hx => hrd t ht x (hF t x hx)
  simp only [ho', hw hS.size hrd', if_true]
  refine hFn.op (fun c e => by rw [hop] at e; cases e) ?_
  have hxr : E.ν n = some (a.eval X) := hx (fun t e x hx => (hrd' t (mem_readsOf_tmp (by rw [hop, e]; simp [Op.operands, Call.operands])) x hx).2) hS.glob
  have hyr := hy (fun t e x hx => (hrd' t (mem_readsOf_tmp (by rw [hop, e]; simp [Op.operands, Call.operands])) x hx).2) hS.glob
  have hn : look rw n = some (e, te.size, xs) := hcn n _ _ rfl hxr
  obtain ⟨v, us, hv, hown, hsz, hr, hok⟩ := hS.mem.rw n e te.size xs hn
  rw [hxr] at hv
  injection hv with hv
  have exec : ∃ cs : Array Bool, (execOp a.eval o).run C.P w = (builtin .append #[t, t] o.type cs #[a.eval X, a.eval Y]).run C.P w := by
    unfold execOp
    rw [hop]
    have hm : (#[X, Y] : Array Operand).map a.eval = #[a.eval X, a.eval Y] := by simp
    simp only [resolve, invoke, Sem.run_bind, Sem.run_pure, Result.andThen_ok, hm]
    exact ⟨_, rfl⟩
  obtain ⟨cs, hex⟩ := exec
  have hrwd : ∀ m x, look (dropN n rw) m = some x → look rw m = some x ∧ m ≠ n := fun m x hm => by
    by_cases e : m = n
    · subst e; rw [look_dropN_self] at hm; cases hm
    · rw [look_dropN e] at hm; exact ⟨hm, e⟩
  obtain ⟨v', w', E', hrun, hs, hle', hh, hβ', hν', hS'⟩ := append_coreAt hC hS hν hnx (Nat.le_refl _) hd hte hpos hz0 hown hsz hr hyr hone hby h63 hok (fun m x g hm hg => hS.br m n x _ g v hm hn hg (by rw [hxr, hv])) (fun m y hm => hS.od.ro n m _ y v hn hm (by rw [hxr, hv])) (rw' := dropN n rw) (fun m x hm => by
    obtain ⟨h1, h2⟩ := hrwd m x hm
    refine ⟨h1, fun k hk2 => ?_⟩
    cases hkb : k.ownBlock with
    | none => exact .inl rfl
    | some b => exact .inr fun he => h2 (hS.rr m n x _ b k v h1 hn hk2 (by rw [hxr, hv]) hkb he.symm)) o.type cs
  unfold Oper.wp
  rw [hex, hv, hrun]
  have hvN : E'.ν (s0.nx + i) = some v' := hs
  obtain ⟨hS2, hrep⟩ := hS'.shutRow (rw' := dropN (s0.nx + i) (dropN n rw)) (s0.nx + i) look_cons_self hvN (fun m x hm => by
    by_cases e : m = s0.nx + i
    · subst e; rw [look_dropN_self] at hm; cases hm
    · rw [look_dropN e] at hm
      exact ⟨(look_cons_ne (Ne.symm e)).trans hm, e⟩)
  have hle2 : E'.Le { E' with ok := fun b => E'.ok b ∨ v'.ownBlock = some b } := ⟨fun b h => .inl h, fun _ _ h => h, fun _ _ h => h⟩
  refine hk _ { E' with ok := fun b => E'.ok b ∨ v'.ownBlock = some b } _ bx _ (hS2.put0 rfl _ _) hrep (fun x u h => (h.ext hle' hh).ext hle2 (fun _ _ => rfl)) (fun _ _ h _ => h) (fun n x hx => by cases hx) (fun k x hk2 hne => ?_) (fun k x hx => by cases hx) (fun m _ => hβ' m) hν'
  have hkn : k ≠ n := fun e => by
    subst e
    exact hne _ rfl
  have hkN : k ≠ s0.nx + i := fun e => by
    subst e
    obtain ⟨v, _, hv, _⟩ := hS.mem.rw _ x.1 x.2.1 x.2.2 hk2
    rw [hν] at hv
    cases hv
  exact (look_dropN hkN).trans ((look_dropN hkn).trans hk2)
structure AS.SameR (s' s : AS) : Prop where
  sv : s'.sv = s.sv
  ob : s'.ob = s.ob
  df : s'.df = s.df
theorem AS.SameR.trans {s s' s'' : AS} (h : AS.SameR s'' s') (h' : AS.SameR s' s) : AS.SameR s'' s := ⟨h.sv.trans h'.sv, h.ob.trans h'.ob, h.df.trans h'.df⟩
abbrev Rw := Nat × (Nat × Nat × List (List PV))
/-- What a stretch of operations comes to, each at its place. -/
structure PreTr (C : Cx) (nt : Nat) (ops : List Oper) (s0 : AS) (len i : Nat) (dn : List Nat) (s s3 : AS) (F : Nat → Nat → Option SV) (G : Nat → Nat → Option (Nat × List PV)) (H : Nat → Nat → Option (Nat × Nat × List (List PV))) (Rv : Nat → SV) (Nd Bw : Nat → Option (Nat × (Nat × List PV))) (Cn Rn : Nat → Option Rw) : Prop where
  same : AS.SameR s3 s
  F0 : ∀ t, F i t = look s.fr t
  G0 : ∀ n, G i n = look s.bx n
  H0 : ∀ n, H i n = look s.rw n
  rk : ∀ k o, i ≤ k → k < i + len → ops[k]? = some o → RecOk C nt ops s0 k o (F k) (Rv k) (Nd k) (Bw k) (Cn k) (Rn k)
  dst : ∀ k o, i ≤ k → k < i + len → ops[k]? = some o → ∀ d, o.dst = some d → d < nt
  Fs : ∀ k o, i ≤ k → k < i + len → ops[k]? = some o → ∀ t x, F (k + 1) t = some x → (o.dst = some t ∧ x = Rv k) ∨ (o.dst ≠ some t ∧ F k t = some x)
  Gs : ∀ k, i ≤ k → k < i + len → ∀ n x, G (k + 1) n = some x → Bw k = some (n, x) ∨ ((∀ y, Bw k ≠ some (n, y)) ∧ G k n = some x)
  Hs : ∀ k, i ≤ k → k < i + len → ∀ n x, H (k + 1) n = some x → Rn k = some (n, x) ∨ ((∀ y, Cn k ≠ some (n, y)) ∧ H k n = some x)
  kind : ∀ k, i ≤ k → k < i + len → (Nd k = none ∧ ∀ n x, Bw k = some (n, x) → n = s0.nx + k) ∨ (∃ n x y, Nd k = some (n, x) ∧ Bw k = some (n, y) ∧ G k n = some x ∧ look s0.bx n = none ∧ memN dn n = false)
  rkind : ∀ k, i ≤ k → k < i + len → (∀ n x, Rn k = some (n, x) → n = s0.nx + k) ∧ ∀ n x, Cn k = some (n, x) → H k n = some x ∧ look s0.rw n = none ∧ memN dn n = false
  one : ∀ k k' n x x', i ≤ k → k < k' → k' < i + len → Nd k = some (n, x) → Nd k' ≠ some (n, x')
  oneR : ∀ k k' n x x', i ≤ k → k < k' → k' < i + len → Cn k = some (n, x) → Cn k' ≠ some (n, x')
  Fe : ∀ t, F (i + len) t = look s3.fr t
  Ge : ∀ n, G (i + len) n = look s3.bx n
  He : ∀ n, H (i + len) n = look s3.rw n

theorem memN_cons {l : List Nat} {n m : Nat} (h : memN (n :: l) m = false) : n ≠ m ∧ memN l m = false := by
  unfold memN at h
  cases hb : Nat.beq n m with
  | true => simp [hb] at h
  | false =>
    refine ⟨fun e => (by rw [e, Nat.beq_refl] at hb; cases hb), ?_⟩
    simpa [hb] using h

theorem preK_sound (hC : C.Good) {mu : List Nat} {s0 : AS} : ∀ {rest : List Oper} {i : Nat} {dn : List Nat} {s : AS}, (∀ j, j < rest.length → rest[j]? = ops[i + j]?) → preK C nt mu ops s0 rest i dn s K →
    ∃ s3 F G H Rv Nd Bw Cn Rn, K s3 ∧ PreTr C nt ops s0 rest.length i dn s s3 F G H Rv Nd Bw Cn Rn
  | [], i, dn, s, hops, h => ⟨s, fun _ => look s.fr, fun _ => look s.bx, fun _ => look s.rw, fun _ => default, fun _ => none, fun _ => none, fun _ => none, fun _ => none, h, ⟨rfl, rfl, rfl⟩, fun _ => rfl, fun _ => rfl, fun _ => rfl, fun k o h1 h2 => by simp at h2; omega, fun k o h1 h2 => by simp at h2; omega,
      fun k o h1 h2 => by simp at h2; omega, fun k h1 h2 => by simp at h2; omega, fun k h1 h2 => by simp at h2; omega, fun k h1 h2 => by simp at h2; omega, fun k h1 h2 => by simp at h2; omega, fun k k' n x x' h1 h2 h3 => by simp at h3; omega, fun k k' n x x' h1 h2 h3 => by simp at h3; omega, fun _ => rfl, fun _ => rfl, fun _ => rfl⟩
  | o :: rest, i, dn, s, hops, h => by
    have ho : ops[i]? = some o := by have := hops 0 (by simp); simpa using this.symm
    have hrest : ∀ j, j < rest.length → rest[j]? = ops[i + 1 + j]? := fun j hj => by have := hops (j + 1) (by simpa using hj); simp at this; rw [this]; congr 1; omega
    have main : ∀ (v : SV) (nd bw : Option (Nat × (Nat × List PV))) (cn rn : Option Rw) (dn' : List Nat) (s' : AS), (∀ F : Nat → Option SV, (∀ t, F t = look s.fr t) → RecOk C nt ops s0 i o F v nd bw cn rn) →
        AS.SameR s' s → (∀ d, o.dst = some d → d < nt) → (∀ t x, look s'.fr t = some x → (o.dst = some t ∧ x = v) ∨ (o.dst ≠ some t ∧ look s.fr t = some x)) → (∀ n x, look s'.bx n = some x → bw = some (n, x) ∨ ((∀ y, bw ≠ some (n, y)) ∧ look s.bx n = some x)) →
        (∀ n x, look s'.rw n = some x → rn = some (n, x) ∨ ((∀ y, cn ≠ some (n, y)) ∧ look s.rw n = some x)) →
        ((nd = none ∧ ∀ n x, bw = some (n, x) → n = s0.nx + i) ∨ (∃ n x y, nd = some (n, x) ∧ bw = some (n, y) ∧ look s.bx n = some x ∧ look s0.bx n = none ∧ memN dn n = false)) →
        ((∀ n x, rn = some (n, x) → n = s0.nx + i) ∧ ∀ n x, cn = some (n, x) → look s.rw n = some x ∧ look s0.rw n = none ∧ memN dn n = false) →
        (∀ n, memN dn' n = false → memN dn n = false ∧ (∀ x, nd ≠ some (n, x)) ∧ ∀ x, cn ≠ some (n, x)) → preK C nt mu ops s0 rest (i + 1) dn' s' K →
        ∃ s3 F G H Rv Nd Bw Cn Rn, K s3 ∧ PreTr C nt ops s0 (o :: rest).length i dn s s3 F G H Rv Nd Bw Cn Rn := fun v nd bw cn rn dn' s' hrec hr1 hlt hfr hbx hrw hkind hrkind hdn hk => by
      obtain ⟨s3, F, G, H, Rv, Nd, Bw, Cn, Rn, hK, T⟩ := preK_sound hC hrest hk
      have L : i + (o :: rest).length = i + 1 + rest.length := by simp; omega
      refine ⟨s3, fun k t => if k = i then look s.fr t else F k t, fun k n => if k = i then look s.bx n else G k n, fun k n => if k = i then look s.rw n else H k n, fun k => if k = i then v else Rv k, fun k => if k = i then nd else Nd k, fun k => if k = i then bw else Bw k, fun k => if k = i then cn else Cn k, fun k => if k = i then rn else Rn k, hK, T.same.trans hr1, fun t => by simp, fun t => by simp, fun t => by simp, ?_, ?_, ?_, ?_, ?_, ?_, ?_, ?_, ?_, ?_, ?_, ?_⟩
      · intro k q h1 h2 hq
        by_cases e : k = i
        · subst e
          rw [ho] at hq; injection hq with hq; subst hq
          simp only [if_true]
          exact hrec _ (fun t => rfl)
        · simp only [e, if_false]
          exact T.rk k q (by omega) (by omega) hq
      · intro k q h1 h2 hq
        by_cases e : k = i
        · subst e
          rw [ho] at hq; injection hq with hq; subst hq
          exact hlt
        · exact T.dst k q (by omega) (by omega) hq
      · intro k q h1 h2 hq t x hx
        by_cases e : k = i
        · subst e
          rw [ho] at hq; injection hq with hq; subst hq
          have e2 : ¬ k + 1 = k := by omega
          simp only [e2, if_false, T.F0, if_true] at hx ⊢
          exact hfr t x hx
        · have e2 : ¬ k + 1 = i := by omega
          simp only [e, e2, if_false] at hx ⊢
          exact T.Fs k q (by omega) (by omega) hq t x hx
      · intro k h1 h2 n x hx
        by_cases e : k = i
        · subst e
          have e2 : ¬ k + 1 = k := by omega
          simp only [e2, if_false, T.G0, if_true] at hx ⊢
          exact hbx n x hx
        · have e2 : ¬ k + 1 = i := by omega
          simp only [e, e2, if_false] at hx ⊢
          exact T.Gs k (by omega) (by omega) n x hx
      · intro k h1 h2 n x hx
        by_cases e : k = i
        · subst e
          have e2 : ¬ k + 1 = k := by omega
          simp only [e2, if_false, T.H0, if_true] at hx ⊢
          exact hrw n x hx
        · have e2 : ¬ k + 1 = i := by omega
          simp only [e, e2, if_false] at hx ⊢
          exact T.Hs k (by omega) (by omega) n x hx
      · intro k h1 h2
        by_cases e : k = i
        · subst e
          simp only [if_true]
          exact hkind
        · simp only [e, if_false]
          rcases T.kind k (by omega) (by omega) with h | ⟨n, x, y, h1, h2, h3, h4, h5⟩
          · exact .inl h
          · exact .inr ⟨n, x, y, h1, h2, h3, h4, (hdn n h5).1⟩
      · intro k h1 h2
        by_cases e : k = i
        · subst e
          simp only [if_true]
          exact hrkind
        · simp only [e, if_false]
          obtain ⟨g1, g2⟩ := T.rkind k (by omega) (by omega)
          refine ⟨g1, fun n x hx => ?_⟩
          obtain ⟨h3, h4, h5⟩ := g2 n x hx
          exact ⟨h3, h4, (hdn n h5).1⟩
      · intro k k' n x x' h1 h2 h3 h4 h5
        by_cases e : k = i
        · subst e
          have e2 : ¬ k' = k := by omega
          simp only [e2, if_true, if_false] at h4 h5
          rcases T.kind k' (by omega) (by omega) with ⟨h, _⟩ | ⟨n', x2, y, g1, _, _, _, g5⟩
          · rw [h] at h5; cases h5
          · rw [g1] at h5
            injection h5 with h5
            injection h5 with h5 _
            subst h5
            exact (hdn _ g5).2.1 x h4
        · have e2 : ¬ k' = i := by omega
          simp only [e, e2, if_false] at h4 h5
          exact T.one k k' n x x' (by omega) h2 (by omega) h4 h5
      · intro k k' n x x' h1 h2 h3 h4 h5
        by_cases e : k = i
        · subst e
          have e2 : ¬ k' = k := by omega
          simp only [e2, if_true, if_false] at h4 h5
          have g5 := ((T.rkind k' (by omega) (by omega)).2 n x' h5).2.2
          exact (hdn _ g5).2.2 x h4
        · have e2 : ¬ k' = i := by omega
          simp only [e, e2, if_false] at h4 h5
          exact T.oneR k k' n x x' (by omega) h2 (by omega) h4 h5
      · intro t
        have e : ¬ i + (o :: rest).length = i := by simp
        simp only [e, if_false]
        rw [L]
        exact T.Fe t
      · intro t
        have e : ¬ i + (o :: rest).length = i := by simp
        simp only [e, if_false]
        rw [L]
        exact T.Ge t
      · intro t
        have e : ¬ i + (o :: rest).length = i := by simp
        simp only [e, if_false]
        rw [L]
        exact T.He t
    have nocn : ∀ {s' : AS}, AS.Same s' s → ∀ n x, look s'.rw n = some x → (none : Option Rw) = some (n, x) ∨ ((∀ y, (none : Option Rw) ≠ some (n, y)) ∧ look s.rw n = some x) := fun hr n x hx => .inr ⟨fun y h => (by cases h), by rw [hr.rw] at hx; exact hx⟩
    have nork : (∀ n x, (none : Option Rw) = some (n, x) → n = s0.nx + i) ∧ ∀ n x, (none : Option Rw) = some (n, x) → look s.rw n = some x ∧ look s0.rw n = none ∧ memN dn n = false := ⟨fun n x h => (by cases h), fun n x h => by cases h⟩
    have toR : ∀ {s' : AS}, AS.Same s' s → AS.SameR s' s := fun h => ⟨h.sv, h.ob, h.df⟩
    have plain : ∀ (v : SV) (s' : AS), (∀ F : Nat → Option SV, (∀ t, F t = look s.fr t) → RecOk C nt ops s0 i o F v none none none none) → s'.bx = s.bx → AS.Same s' s → (∀ d, o.dst = some d → d < nt) → (∀ t x, look s'.fr t = some x → (o.dst = some t ∧ x = v) ∨ (o.dst ≠ some t ∧ look s.fr t = some x)) → preK C nt mu ops s0 rest (i + 1) dn s' K →
        ∃ s3 F G H Rv Nd Bw Cn Rn, K s3 ∧ PreTr C nt ops s0 (o :: rest).length i dn s s3 F G H Rv Nd Bw Cn Rn := fun v s' hrec hb hr hlt hfr hk =>
      main v none none none none dn s' hrec (toR hr) hlt hfr (fun n x hx => .inr ⟨fun y h => (by cases h), by rw [hb] at hx; exact hx⟩) (nocn hr) (.inl ⟨rfl, fun n x h => by cases h⟩) nork (fun n h => ⟨h, fun x h => (by cases h), fun x h => by cases h⟩) hk
    have value : (∀ {w : World} {E : Env} {a : Act}, a.tmps.size = nt → (∀ t ∈ readsOf ops o, ∀ x, look s.fr t = some x → t < nt ∧ SRep w E x (a.tmps.getD t undef)) → Region.wanted o (yielded ops.toArray a.tmps) = true) → (opersK C s o.op.operands.toList fun xs => vop C s0 o xs fun v => putFK nt s o.dst v fun s' => preK C nt mu ops s0 rest (i + 1) dn s' K) →
        ∃ s3 F G H Rv Nd Bw Cn Rn, K s3 ∧ PreTr C nt ops s0 (o :: rest).length i dn s s3 F G H Rv Nd Bw Cn Rn := fun hw h => by
      obtain ⟨xs, h, hxs⟩ := opersK_frame h
      have hpl := vop_plain h
      obtain ⟨v, hv, h⟩ := vop_sound hC h
      obtain ⟨s', hk, hb1, hr1, _, hlt, hfr⟩ := putFK_fr h
      exact plain v s' (fun F hF => RecOk.value hC (fun t x hx => (hF t).trans hx) hw hxs hv hpl) hb1 hr1 hlt hfr hk
    have made : ∀ (cn : Option Rw) (z : Nat × Nat × List (List PV)) (rw' : List Rw) (dn' : List Nat), (∀ F : Nat → Option SV, (∀ t, F t = look s.fr t) → RecOk C nt ops s0 i o F (.own (s0.nx + i)) none none cn (some (s0.nx + i, z))) →
        (∀ n x, look rw' n = some x → (∀ y, cn ≠ some (n, y)) ∧ look s.rw n = some x) → (∀ n x, cn = some (n, x) → look s.rw n = some x ∧ look s0.rw n = none ∧ memN dn n = false) → (∀ n, memN dn' n = false → memN dn n = false ∧ ∀ x, cn ≠ some (n, x)) →
        (addRwAt s0 i s rw' z fun s1 m => putFK nt s1 o.dst (.own m) fun s' => preK C nt mu ops s0 rest (i + 1) dn' s' K) →
        ∃ s3 F G H Rv Nd Bw Cn Rn, K s3 ∧ PreTr C nt ops s0 (o :: rest).length i dn s s3 F G H Rv Nd Bw Cn Rn := fun cn z rw' dn' hrec hrw hcn hdn h => by
      rw [addRwAt_eq] at h
      obtain ⟨s', hk, hb1, hr1, _, hlt, hfr⟩ := putFK_fr h
      refine main _ none none cn (some (s0.nx + i, z)) dn' s' hrec ⟨hr1.sv, hr1.ob, hr1.df⟩ hlt hfr (fun n x hx => .inr ⟨fun y h => (by cases h), by rw [hb1] at hx; exact hx⟩) (fun n x hx => ?_) (.inl ⟨rfl, fun n x h => by cases h⟩) ⟨fun n x h => (by injection h with h; injection h with h _; exact h.symm), hcn⟩ (fun n h => ⟨(hdn n h).1, fun x h => (by cases h), (hdn n h).2⟩) hk
      rw [hr1.rw] at hx
      by_cases e : s0.nx + i = n
      · subst e
        rw [look_cons_self] at hx
        injection hx with hx
        exact .inl (by rw [hx])
      · rw [look_cons_ne e] at hx
        exact .inr (hrw n x hx)
    unfold preK at h
    rcases guardK_frame (nt := nt) h with ⟨h, hw⟩ | ⟨h, hw⟩
    · split at h
      · rename_i t hop
        obtain ⟨ti, hl, h⟩ := lookK_sound h
        have h := zeroK_sound h
        rw [addBxAt_eq] at h
        obtain ⟨s', hk, hb1, hr1, _, hlt, hfr⟩ := putFK_fr h
        refine main _ none (some (s0.nx + i, (t, ti.zero.map PV.v))) none none dn s' (fun F hF => RecOk.alloc hC hop hl (fun t x hx => (hF t).trans hx) hw) ⟨hr1.sv, hr1.ob, hr1.df⟩ hlt hfr (fun n x hx => ?_) (fun n x hx => .inr ⟨fun y h => (by cases h), by rw [hr1.rw] at hx; exact hx⟩) (.inl ⟨rfl, fun n x h => by injection h with h; injection h with h _; exact h.symm⟩) nork (fun n h => ⟨h, fun x h => (by cases h), fun x h => by cases h⟩) hk
        rw [hb1] at hx
        by_cases e : s0.nx + i = n
        · subst e
          rw [look_cons_self] at hx
          injection hx with hx
          exact .inl (by rw [hx])
        · rw [look_cons_ne e] at hx
          exact .inr ⟨fun y h => by injection h with h; injection h with h _; exact e h, hx⟩
      · rename_i t A X hop
        split at h
        · rename_i hdst
          obtain ⟨p, h, hp⟩ := operK_frame h
          obtain ⟨x, h, hx⟩ := operK_frame h
          cases p with
          | p _ => exact h.elim
          | own _ => exact h.elim
          | rowp _ _ => exact h.elim
          | clo _ _ => exact h.elim
          | bnd _ _ => exact h.elim
          | box n off =>
            obtain ⟨ti, hl, h⟩ := lookK_sound h
            obtain ⟨ds, h, hds⟩ := cellsK_all h
            obtain ⟨hones, h⟩ := onesK_sound h
            cases hb : Nat.beq ds.length ti.size && Nat.blt 0 ti.size && !memN dn n with
            | false => simp only [hb] at h; exact h.elim
            | true =>
              simp only [hb, cond_true] at h
              rw [Bool.and_eq_true, Bool.and_eq_true] at hb
              have hlen := Nat.eq_of_beq_eq_true hb.1.1
              have hpos : 0 < ti.size := by simpa [Nat.blt_eq] using hb.1.2
              have hmem : memN dn n = false := by simpa using hb.2
              obtain ⟨h, hno⟩ := notInK_sound h
              obtain ⟨⟨T, cs⟩, hn, h⟩ := lookK_sound h
              obtain ⟨hfit, l, h, hl2⟩ := putK_sound h
              obtain ⟨bx, hk, hself, hother⟩ := setBxK_sound h
              rw [setBx_eq] at hk
              have hd0 : ds ≠ [] := fun e => by rw [e] at hlen; simp at hlen; omega
              rw [if_neg hd0] at hl2
              have hfit := hfit.resolve_left hd0
              refine main _ (some (n, (T, cs))) (some (n, (T, l))) none none (n :: dn) { s with bx := bx } (fun F hF => RecOk.store hC hop hdst hl (fun t x hx => (hF t).trans hx) hw hp hx hds hones hlen hfit hl2) ⟨rfl, rfl, rfl⟩ (fun d hd => (by rw [hdst] at hd; cases hd)) (fun t x hx => .inr ⟨(by rw [hdst]; simp), hx⟩) (fun m x hm => ?_) (fun m x hm => .inr ⟨fun y h => (by cases h), hm⟩) (.inr ⟨n, _, _, rfl, rfl, hn, hno, hmem⟩) nork (fun m hm => ?_) hk
              · simp only at hm
                by_cases e : m = n
                · subst e
                  rw [hself] at hm
                  injection hm with hm
                  exact .inl (by rw [← hm])
                · rw [hother m e] at hm
                  exact .inr ⟨fun y h => by injection h with h; injection h with h _; exact e h.symm, hm⟩
              · obtain ⟨h1, h2⟩ := memN_cons hm
                exact ⟨h2, fun x h => (by injection h with h; injection h with h _; exact h1 h), fun x h => by cases h⟩
        · exact h.elim
      · rename_i t n parts hop
        cases hmu : inMu mu (o.dst.map (· + 1000)) with
        | false => rw [hmu] at h; exact value hw h
        | true =>
          rw [hmu] at h
          obtain ⟨xs, h, hxs⟩ := opersK_frame h
          unfold ownLitK at h
          obtain ⟨ti, hl, h⟩ := lookK_sound h
          have ht := tab_ok hC.tab hl
          split at h
          case h_2 => exact h.elim
          rename_i e hki
          have hd := ht.slice_run hki
          obtain ⟨te, hle, h⟩ := lookK_sound h
          have hte := tab_ok hC.tab hle
          cases hb : Nat.beq n (parts.toList.map (·.1)).length && Nat.ble (n * te.size) 16777216 && Nat.blt 0 te.size with
          | false => rw [hb] at h; exact h.elim
          | true =>
            rw [hb] at h
            simp only [Bool.and_eq_true] at hb
            have hn := Nat.eq_of_beq_eq_true hb.1.1
            have hbig : n * te.size ≤ 16777216 := Nat.le_of_ble_eq_true hb.1.2
            have hpos : 0 < te.size := by simpa [Nat.blt_eq] using hb.2
            obtain ⟨l, hk, hll, hall, hel⟩ := elemsK_sound hpos h
            exact made none (e, te.size, l) s.rw dn (fun F hF => RecOk.lit hC hop hd hte hn hbig hpos hll hall hel (fun t x hx => (hF t).trans hx) hw hxs) (fun n x hx => ⟨fun y h => (by cases h), hx⟩) (fun n x h => by cases h) (fun n h => ⟨h, fun x h => by cases h⟩) hk
      · rename_i X Y t t' hop
        cases hmu : inMu mu (o.dst.map (· + 1000)) && Nat.beq t t' with
        | false =>
          rw [hmu] at h
          cases hmu2 : inMu mu (o.dst.map (· + 2000)) && Nat.beq t t' with
          | false => rw [hmu2] at h; exact value hw h
          | true =>
          rw [hmu2] at h
          rw [Bool.and_eq_true] at hmu2
          obtain rfl := Nat.eq_of_beq_eq_true hmu2.2
          obtain ⟨x, q1, hx⟩ := operK_frame h
          clear h
          obtain ⟨y, q2, hy⟩ := operK_frame q1
          clear q1
          unfold appAtK at q2
          obtain ⟨ti, hl, q3⟩ := lookK_sound q2
          clear q2
          have ht := tab_ok hC.tab hl
          split at q3
          case h_2 => exact q3.elim
          rename_i e hki
          have hd := ht.slice_run hki
          obtain ⟨te, hle, h⟩ := lookK_sound q3
          clear q3
          have hte := tab_ok hC.tab hle
          cases hb : Nat.blt 0 te.size && Nat.beq te.zero.length te.size with
          | false => rw [hb] at h; exact h.elim
          | true =>
            rw [hb] at h
            simp only [cond_true] at h
            rw [Bool.and_eq_true] at hb
            have hpos : 0 < te.size := by simpa [Nat.blt_eq] using hb.1
            have hz0 := Nat.eq_of_beq_eq_true hb.2
            obtain ⟨n, rfl⟩ : ∃ n, x = .own n := by
              cases x with
              | own n => exact ⟨n, rfl⟩
              | p _ => exact h.elim
              | box _ _ => exact h.elim
              | rowp _ _ => exact h.elim
              | clo _ _ => exact h.elim
              | bnd _ _ => exact h.elim
            obtain ⟨sz, ys, rfl⟩ : ∃ sz ys, y = .p (.seq sz ys) := by
              cases y with
              | p q =>
                cases q with
                | seq sz ys => exact ⟨sz, ys, rfl⟩
                | v _ => exact h.elim
                | ref _ => exact h.elim
                | agg _ => exact h.elim
                | tup _ => exact h.elim
                | fn _ _ => exact h.elim
              | own _ => exact h.elim
              | box _ _ => exact h.elim
              | rowp _ _ => exact h.elim
              | clo _ _ => exact h.elim
              | bnd _ _ => exact h.elim
            simp only at h
            cases hb2 : Nat.beq sz te.size && !memN dn n with
            | false => rw [hb2] at h; exact h.elim
            | true =>
              rw [hb2] at h
              rw [Bool.and_eq_true] at hb2
              have hsz := Nat.eq_of_beq_eq_true hb2.1
              subst hsz
              have hmem : memN dn n = false := by simpa using hb2.2
              obtain ⟨q4, hno⟩ := notInK_sound h
              clear h
              obtain ⟨⟨e', sz', xs⟩, hn, h⟩ := lookK_sound q4
              clear q4
              cases hb3 : Nat.beq e' e && Nat.beq sz' te.size with
              | false => simp only [hb3] at h; exact h.elim
              | true =>
                simp only [hb3, cond_true] at h
                rw [Bool.and_eq_true] at hb3
                have he := Nat.eq_of_beq_eq_true hb3.1
                have hs' := Nat.eq_of_beq_eq_true hb3.2
                rw [he, hs'] at hn
                obtain ⟨⟨hone, hby, h63⟩, h⟩ := h
                obtain ⟨rw', h, hrw⟩ := strikeK_sound h
                rw [setRw_eq] at h
                obtain ⟨s', hk, hb1, hr1, _, hlt, hfr⟩ := putFK_fr h
                refine main _ none none (some (n, (e, te.size, xs))) none (n :: dn) s' (fun F hF => RecOk.appF hC hop hd hte hpos hz0 hone hby h63 (fun t x hx => (hF t).trans hx) hw hx hy) ⟨hr1.sv, hr1.ob, hr1.df⟩ hlt hfr (fun n x hx => .inr ⟨fun y h => (by cases h), by rw [hb1] at hx; exact hx⟩) (fun m x hm => ?_) (.inl ⟨rfl, fun n x h => by cases h⟩) ⟨fun n x h => (by cases h), fun m x hm => ?_⟩ (fun m hm => ?_) hk
                · rw [hr1.rw] at hm
                  obtain ⟨h1, h2⟩ := hrw m x hm
                  exact .inr ⟨fun y h => by injection h with h; injection h with h _; exact h2 h.symm, h1⟩
                · injection hm with hm
                  injection hm with h1 h2
                  subst h1; subst h2
                  exact ⟨hn, hno, hmem⟩
                · obtain ⟨h1, h2⟩ := memN_cons hm
                  exact ⟨h2, fun x h => (by cases h), fun x h => by injection h with h; injection h with h _; exact h1 h⟩
        | true =>
          rw [hmu] at h
          rw [Bool.and_eq_true] at hmu
          obtain rfl := Nat.eq_of_beq_eq_true hmu.2
          obtain ⟨x, q1, hx⟩ := operK_frame h
          clear h
          obtain ⟨y, q2, hy⟩ := operK_frame q1
          clear q1
          unfold appAtK at q2
          obtain ⟨ti, hl, q3⟩ := lookK_sound q2
          clear q2
          have ht := tab_ok hC.tab hl
          split at q3
          case h_2 => exact q3.elim
          rename_i e hki
          have hd := ht.slice_run hki
          obtain ⟨te, hle, h⟩ := lookK_sound q3
          clear q3
          have hte := tab_ok hC.tab hle
          cases hb : Nat.blt 0 te.size && Nat.beq te.zero.length te.size with
          | false => rw [hb] at h; exact h.elim
          | true =>
            rw [hb] at h
            simp only [cond_true] at h
            rw [Bool.and_eq_true] at hb
            have hpos : 0 < te.size := by simpa [Nat.blt_eq] using hb.1
            have hz0 := Nat.eq_of_beq_eq_true hb.2
            obtain ⟨n, rfl⟩ : ∃ n, x = .own n := by
              cases x with
              | own n => exact ⟨n, rfl⟩
              | p _ => exact h.elim
              | box _ _ => exact h.elim
              | rowp _ _ => exact h.elim
              | clo _ _ => exact h.elim
              | bnd _ _ => exact h.elim
            obtain ⟨sz, ys, rfl⟩ : ∃ sz ys, y = .p (.seq sz ys) := by
              cases y with
              | p q =>
                cases q with
                | seq sz ys => exact ⟨sz, ys, rfl⟩
                | v _ => exact h.elim
                | ref _ => exact h.elim
                | agg _ => exact h.elim
                | tup _ => exact h.elim
                | fn _ _ => exact h.elim
              | own _ => exact h.elim
              | box _ _ => exact h.elim
              | rowp _ _ => exact h.elim
              | clo _ _ => exact h.elim
              | bnd _ _ => exact h.elim
            simp only at h
            cases hb2 : Nat.beq sz te.size && !memN dn n with
            | false => rw [hb2] at h; exact h.elim
            | true =>
              rw [hb2] at h
              rw [Bool.and_eq_true] at hb2
              have hsz := Nat.eq_of_beq_eq_true hb2.1
              subst hsz
              have hmem : memN dn n = false := by simpa using hb2.2
              obtain ⟨q4, hno⟩ := notInK_sound h
              clear h
              obtain ⟨⟨e', sz', xs⟩, hn, h⟩ := lookK_sound q4
              clear q4
              cases hb3 : Nat.beq e' e && Nat.beq sz' te.size with
              | false => simp only [hb3] at h; exact h.elim
              | true =>
                simp only [hb3, cond_true] at h
                rw [Bool.and_eq_true] at hb3
                have he := Nat.eq_of_beq_eq_true hb3.1
                have hs' := Nat.eq_of_beq_eq_true hb3.2
                rw [he, hs'] at hn
                obtain ⟨⟨hone, hby, h63⟩, h⟩ := h
                obtain ⟨rw', h, hrw⟩ := strikeK_sound h
                refine made (some (n, (e, te.size, xs))) (e, te.size, xs ++ ys) rw' (n :: dn) (fun F hF => RecOk.app hC hop hd hte hpos hz0 hone hby h63 (fun t x hx => (hF t).trans hx) hw hx hy) (fun m x hm => ?_) (fun m x hm => ?_) (fun m hm => ?_) h
                · obtain ⟨h1, h2⟩ := hrw m x hm
                  exact ⟨fun y h => by injection h with h; injection h with h _; exact h2 h.symm, h1⟩
                · injection hm with hm
                  injection hm with h1 h2
                  subst h1; subst h2
                  exact ⟨hn, hno, hmem⟩
                · obtain ⟨h1, h2⟩ := memN_cons hm
                  exact ⟨h2, fun x h => by injection h with h; injection h with h _; exact h1 h⟩
      · rename_i A args tys hop
        cases hmu : inMu mu (o.dst.map (· + 1000)) with
        | false => rw [hmu] at h; exact value hw h
        | true =>
          rw [hmu] at h
          obtain ⟨ys, q1, hxs⟩ := opersK_frame h
          clear h
          unfold ownCallK at q1
          split at q1
          case h_2 => exact q1.elim
          obtain ⟨ps, q2, e⟩ := pureK_sound q1
          clear q1
          have q3 := appK_sound q2
          clear q2
          obtain ⟨z, hp, hV, h⟩ := q3
          subst e
          exact made none z s.rw dn (fun F hF => RecOk.ownCall hC hop rfl hp (fun t x hx => (hF t).trans hx) hw hxs hV) (fun n x hx => ⟨fun y h => (by cases h), hx⟩) (fun n x h => by cases h) (fun n h => ⟨h, fun x h => by cases h⟩) h
      · exact value hw h
    · obtain ⟨s', hk, hb1, hr1, _, hlt, hfr⟩ := putFK_fr h
      exact plain _ s' (fun F hF => RecOk.skip (fun t x hx => (hF t).trans hx) hw) hb1 hr1 hlt hfr hk
end
end Go.Proofs.Ab
end
section
/- The code of a body; a call's contract out of it. -/
set_option linter.unusedVariables false
set_option linter.unusedSimpArgs false
namespace Go.Proofs.Ab
open Go Go.RowKit

/-- The way out of a piece of code. -/
inductive Out where
  | normal | ret
  | exit (id : Nat)
  deriving Inhabited
def Out.to : Out → Exit
  | .normal => .normal
  | .ret => .ret
  | .exit id => .exit id

/-- From each state that s tells, the code comes to one that Q tells. -/
structure AWp (C : Cx) (nt : Nat) (c : Code) (Q : Out → AS → Prop) (s : AS) : Prop where
  wp : ∀ (F : Fence) (n : Nat), FW C F → ∀ (B : Nat) (ok0 : Base) (w0 : World) (a : Act) (w : World) (E : Env) (R : Exit → Act → World → Prop), Sat C nt s B ok0 w0 a w E →
    (∀ e s' a' w' E', Q e s' → Sat C nt s' B ok0 w0 a' w' E' → R e.to a' w') → c.wpIn F n C.P R a w

section
variable {C : Cx} {nt : Nat} {s : AS} {Q : Out → AS → Prop}

theorem AWp.seq {c d : Code} (h : AWp C nt c (fun e s' => match e with | .normal => AWp C nt d Q s' | e => Q e s') s) : AWp C nt (.seq c d) Q s :=
  ⟨fun F n hF B ok0 w0 a w E R hS hR => wpIn_seq (h.wp F n hF B ok0 w0 a w E _ hS fun e s' a' w' E' hq hS' => by
    cases e with
    | normal => exact hq.wp F n hF B ok0 w0 a' w' E' R hS' hR
    | ret => exact hR .ret s' a' w' E' hq hS'
    | exit id => exact hR (.exit id) s' a' w' E' hq hS')⟩
theorem AWp.skip (h : Q .normal s) : AWp C nt .skip Q s := ⟨fun F n hF B ok0 w0 a w E R hS hR => wpIn_skip (hR .normal s a w E h hS)⟩
theorem AWp.ret (h : Q .ret s) : AWp C nt .ret Q s := ⟨fun F n hF B ok0 w0 a w E R hS hR => wpIn_ret (hR .ret s a w E h hS)⟩
theorem AWp.exit {id : Nat} (h : Q (.exit id) s) : AWp C nt (.exit id) Q s := ⟨fun F n hF B ok0 w0 a w E R hS hR => wpIn_exit (hR (.exit id) s a w E h hS)⟩
theorem AWp.block {id : Nat} {c : Code} (h : AWp C nt c (fun e s' => match e with | .exit i => bif Nat.beq i id then Q .normal s' else Q (.exit i) s' | e => Q e s') s) : AWp C nt (.block id c) Q s :=
  ⟨fun F n hF B ok0 w0 a w E R hS hR => wpIn_block (h.wp F n hF B ok0 w0 a w E _ hS fun e s' a' w' E' hq hS' => by
    cases e with
    | normal => exact hR .normal s' a' w' E' hq hS'
    | ret => exact hR .ret s' a' w' E' hq hS'
    | exit i =>
      simp only at hq
      show if i = id then R .normal a' w' else R (.exit i) a' w'
      cases hb : Nat.beq i id with
      | true =>
        rw [hb] at hq
        rw [if_pos (Nat.eq_of_beq_eq_true hb)]
        exact hR .normal s' a' w' E' hq hS'
      | false =>
        rw [hb] at hq
        rw [if_neg (fun e => by rw [e, Nat.beq_refl] at hb; cases hb)]
        exact hR (.exit i) s' a' w' E' hq hS')⟩
theorem AWp.cond {A : Operand} {c d : Code} (h : operK C s A fun v => match v with | .p (.v (.bool true)) => AWp C nt c Q s | .p (.v (.bool false)) => AWp C nt d Q s | _ => False) : AWp C nt (.cond A c d) Q s := by
  obtain ⟨v, h, hv⟩ := operK_sound (nt := nt) h
  split at h
  · exact ⟨fun F n hF B ok0 w0 a w E R hS hR => wpIn_cond_true (v_inv (hv hS)) (h.wp F n hF B ok0 w0 a w E R hS hR)⟩
  · exact ⟨fun F n hF B ok0 w0 a w E R hS hR => wpIn_cond_false (v_inv (hv hS)) (h.wp F n hF B ok0 w0 a w E R hS hR)⟩
  · exact h.elim
theorem AWp.lex (hC : C.Good) {mu : List Nat} {ops : List Oper} {id : Nat} (h : lexK C nt mu ops ops s (Q .normal)) : AWp C nt (.region id ops.toArray false) Q s :=
  ⟨fun F n hF B ok0 w0 a w E R hS hR => lex_region hC hF h hS fun s' a' w' E' hk hS' => hR .normal s' a' w' E' hk hS'⟩
theorem AWp.mono {c : Code} {Q' : Out → AS → Prop} (h : AWp C nt c Q s) (hq : ∀ e s', Q e s' → Q' e s') : AWp C nt c Q' s :=
  ⟨fun F n hF B ok0 w0 a w E R hS hR => h.wp F n hF B ok0 w0 a w E R hS fun e s' a' w' E' hk hS' => hR e s' a' w' E' (hq e s' hk) hS'⟩

/-- State t tells no more than s does. -/
structure SLe (C : Cx) (nt : Nat) (s t : AS) : Prop where
  le : ∀ {B ok0 w0 a w E}, Sat C nt s B ok0 w0 a w E → ∃ E', Sat C nt t B ok0 w0 a w E'
theorem SLe.refl : SLe C nt s s := ⟨fun h => ⟨_, h⟩⟩
theorem AWp.le {c : Code} {t : AS} (hle : SLe C nt s t) (h : AWp C nt c Q t) : AWp C nt c Q s :=
  ⟨fun F n hF B ok0 w0 a w E R hS hR => let ⟨E', hS'⟩ := hle.le hS; h.wp F n hF B ok0 w0 a w E' R hS' hR⟩

/-- **A LOOP**: a family of states, a measure. -/
theorem AWp.loop {ι : Type} (I : ι → AS) (μ : ι → Nat) {c : Code} (i0 : ι) (h0 : SLe C nt s (I i0))
    (hr : ∀ i, AWp C nt c (fun e s' => match e with | .normal => ∃ j, μ j < μ i ∧ SLe C nt s' (I j) | e => Q e s') (I i)) : AWp C nt (.loop c) Q s := by
  refine ⟨fun F m hF B ok0 w0 a w E R hS hR => ?_⟩
  have key : ∀ n i a w E, μ i < n → Sat C nt (I i) B ok0 w0 a w E → Code.roundsIn F m C.P c R n a w := by
    intro n
    induction n with
    | zero => intro i a w E hn; omega
    | succ n ih =>
      intro i a w E hn hSi
      rw [roundsIn_succ]
      refine (hr i).wp F m hF B ok0 w0 a w E _ hSi (fun e s' a' w' E' hq hS' => ?_)
      cases e with
      | normal =>
        obtain ⟨j, hj, hle⟩ := hq
        obtain ⟨E2, hS2⟩ := hle.le hS'
        exact ih j a' w' E2 (by omega) hS2
      | ret => exact hR .ret s' a' w' E' hq hS'
      | exit id => exact hR (.exit id) s' a' w' E' hq hS'
  obtain ⟨E', hS'⟩ := h0.le hS
  exact wpIn_loop_rounds (μ i0 + 1) (key _ i0 a w E' (Nat.lt_succ_self _) hS')
/-- A loop of a known number of rounds. -/
def ARounds (C : Cx) (nt : Nat) (c : Code) (Q : Out → AS → Prop) : Nat → AS → Prop
  | 0, _ => False
  | n + 1, s => AWp C nt c (fun e s' => match e with | .normal => ARounds C nt c Q n s' | e => Q e s') s
theorem AWp.rounds {c : Code} (n : Nat) (h : ARounds C nt c Q n s) : AWp C nt (.loop c) Q s := by
  refine ⟨fun F m hF B ok0 w0 a w E R hS hR => wpIn_loop_rounds n ?_⟩
  have key : ∀ n s a w E, ARounds C nt c Q n s → Sat C nt s B ok0 w0 a w E → Code.roundsIn F m C.P c R n a w := by
    intro n
    induction n with
    | zero => intro s a w E h; exact h.elim
    | succ n ih =>
      intro s a w E h hS
      rw [roundsIn_succ]
      refine AWp.wp h F m hF B ok0 w0 a w E _ hS (fun e s' a' w' E' hq hS' => ?_)
      cases e with
      | normal => exact ih s' a' w' E' hq hS'
      | ret => exact hR .ret s' a' w' E' hq hS'
      | exit id => exact hR (.exit id) s' a' w' E' hq hS'
  exact key n s a w E h hS
end
end Go.Proofs.Ab
end
