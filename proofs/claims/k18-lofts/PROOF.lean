import PyProof.Rows.All
import Wide.All
import OpenK.AllK
import Wide.FinOn
import HandS.AnyAll
import HandS.CallSlots
import HandS.Comp
import HandS.Deep
import HandS.Defaults
import HandS.Dict
import HandS.DictComp
import HandS.DictSubView
import HandS.DictTup
import HandS.EndTab
import HandS.Exc
import HandS.ExcCtx
import HandS.ExcOwn
import HandS.ForMost
import HandS.GenCall
import HandS.GenList
import HandS.Head0
import HandS.Head1
import HandS.Head2
import HandS.HeadEnd
import HandS.HeadHook1
import HandS.HeadHook2
import HandS.HeadHook3
import HandS.HeadHook4
import HandS.HeadWalk
import HandS.Hot
import HandS.HotCalls
import HandS.Iter
import HandS.Lambda
import HandS.More
import HandS.Small
import HandS.Sort
import HandS.Style
import HandS.SuiteRaise
import HandS.Text
import HandS.TryMany
import HandS.TryOnly
import HandS.TupAny
import HandS.TupLen
import HandS.Walk
import HandS.Words
import HandS.WordsDict
import KE.DataMinMax
import KE.KDictSum
import KE.KItemsList
import KE.KStateDown
import KE.SortData
import PyProof.SumAnyB
import PySem.Challenge.RW_kitehall_k18_lofts
set_option Elab.async false
set_option linter.all false
set_option maxRecDepth 100000
set_option maxHeartbeats 1000000
/-! Rf1: deep data, what stands for it in the abstract heap, the machine's state and how it is held. -/
namespace Rf
open PySem L2

/-- plain data; obj n: the n-th object of the store -/
inductive D where
  | non | bl (b : Bool) | int (i : Int) | str (x : Str)
  | tup (xs : List D) | lst (xs : List D)
  /-- t: the keys are tuples -/
  | dct (t : Bool) (kvs : List (D × D)) | obj (n : Nat)
  /-- a list from outside, read only -/
  | ext (xs : List D)

/-! ### equality as Python has it, on the shapes that we need -/
mutual
def D.beq : D → D → Bool
  | .non, .non => true
  | .bl a, .bl b => a == b
  | .int a, .int b => a == b
  | .str a, .str b => a == b
  | .tup a, .tup b => D.beqs a b
  | .lst a, .lst b => D.beqs a b
  | .dct s a, .dct t b => s == t && D.beqp a b
  | .obj a, .obj b => a == b
  | .ext a, .ext b => D.beqs a b
  | _, _ => false
def D.beqs : List D → List D → Bool
  | [], [] => true
  | a :: as, b :: bs => D.beq a b && D.beqs as bs
  | _, _ => false
def D.beqp : List (D × D) → List (D × D) → Bool
  | [], [] => true
  | (a, x) :: as, (b, y) :: bs => D.beq a b && D.beq x y && D.beqp as bs
  | _, _ => false
end
mutual
theorem D.beq_iff : ∀ a b : D, D.beq a b = true ↔ a = b
  | .non, b => by cases b <;> simp [D.beq]
  | .bl a, b => by cases b <;> simp [D.beq]
  | .int a, b => by cases b <;> simp [D.beq]
  | .str a, b => by cases b <;> simp [D.beq]
  | .tup a, b => by
    cases b with
    | tup b => simp [D.beq, D.beqs_iff a b]
    | _ => simp [D.beq]
  | .lst a, b => by
    cases b with
    | lst b => simp [D.beq, D.beqs_iff a b]
    | _ => simp [D.beq]
  | .dct s a, b => by
    cases b with
    | dct t b => simp [D.beq, D.beqp_iff a b]
    | _ => simp [D.beq]
  | .obj a, b => by cases b <;> simp [D.beq]
  | .ext a, b => by
    cases b with
    | ext b => simp [D.beq, D.beqs_iff a b]
    | _ => simp [D.beq]
theorem D.beqs_iff : ∀ a b : List D, D.beqs a b = true ↔ a = b
  | [], b => by cases b <;> simp [D.beqs]
  | a :: as, b => by
    cases b with
    | nil => simp [D.beqs]
    | cons b bs => simp [D.beqs, D.beq_iff a b, D.beqs_iff as bs]
theorem D.beqp_iff : ∀ a b : List (D × D), D.beqp a b = true ↔ a = b
  | [], b => by cases b <;> simp [D.beqp]
  | (a, x) :: as, b => by
    cases b with
    | nil => simp [D.beqp]
    | cons b bs =>
      obtain ⟨b, y⟩ := b
      simp [D.beqp, D.beq_iff a b, D.beq_iff x y, D.beqp_iff as bs, and_assoc]
end
instance : BEq D := ⟨D.beq⟩
instance : ReflBEq D := ⟨(D.beq_iff _ _).mpr rfl⟩
instance : LawfulBEq D := ⟨fun h => (D.beq_iff _ _).mp h⟩
instance : DecidableEq D := fun a b => if h : D.beq a b = true then .isTrue ((D.beq_iff a b).mp h) else .isFalse fun e => h ((D.beq_iff a b).mpr e)

/-- an object of the store -/
inductive Ob where
  | ins (C : Str) (fs : List (Str × D)) | lst (xs : List D) | dct (t : Bool) (kvs : List (D × D))
/-- what a slot holds: shared data, or a container that this slot alone refers to -/
inductive S where
  | sh (d : D) | own (d : D)
structure W where
  env : List (Option S)
  st : List Ob
  lk : List Nat

/-! ### keys -/
def keyD : D → Option Key
  | .int i => some (.inl i)
  | .str x => some (.inr x)
  | _ => none
def keysD : List D → Option (List Key)
  | [] => some []
  | d :: r => match keyD d, keysD r with
    | some k, some ks => some (k :: ks)
    | _, _ => none
def keyT : D → Option (List Key)
  | .tup ds => keysD ds
  | _ => none
theorem keyD_inj {a b : D} {k : Key} (h : keyD a = some k) (h' : keyD b = some k) : a = b := by
  cases a <;> cases b <;> simp_all [keyD] <;> (subst_vars; simp_all)
theorem keysD_inj : ∀ {a b : List D} {k : List Key}, keysD a = some k → keysD b = some k → a = b
  | [], [], _, _, _ => rfl
  | [], b :: bs, k, h, h' => by
    simp [keysD] at h
    subst h
    simp only [keysD] at h'
    split at h' <;> simp at h'
  | a :: as, [], k, h, h' => by
    simp [keysD] at h'
    subst h'
    simp only [keysD] at h
    split at h <;> simp at h
  | a :: as, b :: bs, k, h, h' => by
    simp only [keysD] at h h'
    split at h
    · rename_i k1 ks1 e1 e2
      split at h'
      · rename_i k2 ks2 e3 e4
        simp only [Option.some.injEq] at h h'
        rw [← h] at h'
        injection h' with q1 q2
        subst q1 q2
        rw [keyD_inj e1 e3, keysD_inj e2 e4]
      · cases h'
    · cases h
theorem keyT_inj {a b : D} {k : List Key} (h : keyT a = some k) (h' : keyT b = some k) : a = b := by
  cases a <;> simp [keyT] at h
  cases b <;> simp [keyT] at h'
  rw [keysD_inj h h']

/-! ### what stands for data -/
def SL (K : PySem.W.Frag) (F : Hp) (a : Addr) (xs : List V) : Prop :=
  F a = some (.lst xs)
def ST (K : PySem.W.Frag) (F : Hp) (a : Addr) (xs : List V) : Prop :=
  F a = some (.tup xs) ∨ ∃ (o : Obj) (its : Array Value) (n : Nat), K.lookup a = some o ∧ o.cls = .type "tuple" ∧ o.data = .seq its n ∧ its.size ≤ sizeLine ∧ Vals xs its.toList

/-- a list from outside: locked, or written -/
def SX (K : PySem.W.Frag) (F : Hp) (a : Addr) (xs : List V) : Prop := (∃ o, F a = some (.frz o (.lst xs))) ∨ F a = some (.lst xs) ∨ ∀ H : Hp, SqL K H a xs
theorem SX.le {K : PySem.W.Frag} {F F' : Hp} {a : Addr} {xs : List V} (l : ∀ a o, F a = some o → F' a = some o) (h : SX K F a xs) : SX K F' a xs := by
  rcases h with ⟨o, h⟩ | h | h
  · exact .inl ⟨o, l _ _ h⟩
  · exact .inr (.inl (l _ _ h))
  · exact .inr (.inr h)

inductive Sh (K : PySem.W.Frag) (φ : List Addr) (F : Hp) : V → D → Prop
  | non : Sh K φ F .non .non
  | bl (b) : Sh K φ F (.bl b) (.bl b)
  | int (i) : Sh K φ F (.int i) (.int i)
  | str (x) : Sh K φ F (.str x) (.str x)
  | tup {a vs ds} (h : ST K F a vs) (hl : vs.length = ds.length) (hs : ∀ (i : Nat) v d, vs[i]? = some v → ds[i]? = some d → Sh K φ F v d) : Sh K φ F (.ref a) (.tup ds)
  | lst {a vs ds} (h : SL K F a vs) (hl : vs.length = ds.length) (hs : ∀ (i : Nat) v d, vs[i]? = some v → ds[i]? = some d → Sh K φ F v d) : Sh K φ F (.ref a) (.lst ds)
  | dctK {a kvs ds} (h : F a = some (.dK kvs)) (hl : kvs.length = ds.length) (hk : ∀ (i : Nat) p q, kvs[i]? = some p → ds[i]? = some q → keyD q.1 = some p.1) (hs : ∀ (i : Nat) p q, kvs[i]? = some p → ds[i]? = some q → Sh K φ F p.2 q.2) : Sh K φ F (.ref a) (.dct false ds)
  | dctT {a kvs ds} (h : F a = some (.dT kvs)) (hl : kvs.length = ds.length) (hk : ∀ (i : Nat) p q, kvs[i]? = some p → ds[i]? = some q → keyT q.1 = some p.1) (hs : ∀ (i : Nat) p q, kvs[i]? = some p → ds[i]? = some q → Sh K φ F p.2 q.2) : Sh K φ F (.ref a) (.dct true ds)
  | obj {n a} (h : φ[n]? = some a) : Sh K φ F (.ref a) (.obj n)
  | ext {a vs ds} (h : SX K F a vs) (hl : vs.length = ds.length) (hs : ∀ (i : Nat) v d, vs[i]? = some v → ds[i]? = some d → Sh K φ F v d) : Sh K φ F (.ref a) (.ext ds)

def Shs (K : PySem.W.Frag) (φ : List Addr) (F : Hp) (vs : List V) (ds : List D) : Prop := vs.length = ds.length ∧ ∀ (i : Nat) v d, vs[i]? = some v → ds[i]? = some d → Sh K φ F v d
def ShK (K : PySem.W.Frag) (φ : List Addr) (F : Hp) (kvs : List (Key × V)) (ds : List (D × D)) : Prop :=
  kvs.length = ds.length ∧ ∀ (i : Nat) p q, kvs[i]? = some p → ds[i]? = some q → keyD q.1 = some p.1 ∧ Sh K φ F p.2 q.2
def ShT (K : PySem.W.Frag) (φ : List Addr) (F : Hp) (kvs : List (List Key × V)) (ds : List (D × D)) : Prop :=
  kvs.length = ds.length ∧ ∀ (i : Nat) p q, kvs[i]? = some p → ds[i]? = some q → keyT q.1 = some p.1 ∧ Sh K φ F p.2 q.2

/-- F' knows more -/
def Le (F F' : Hp) : Prop := ∀ a o, F a = some o → F' a = some o
theorem Le.refl (F : Hp) : Le F F := fun _ _ h => h
theorem Le.trans {F F1 F2 : Hp} (a : Le F F1) (b : Le F1 F2) : Le F F2 := fun x o h => b x o (a x o h)
theorem Le.new {F : Hp} {p : Addr} {o : HO} (h : F p = none) : Le F (upd F p o) := fun a u e => by
  rw [upd_ne (ne_of_none e h)]; exact e
/-- φ' has more -/
def Pf (φ φ' : List Addr) : Prop := ∀ (n : Nat) a, φ[n]? = some a → φ'[n]? = some a
theorem Pf.refl (φ : List Addr) : Pf φ φ := fun _ _ h => h
theorem Pf.trans {a b c : List Addr} (h : Pf a b) (h' : Pf b c) : Pf a c := fun n x e => h' n x (h n x e)
theorem Pf.snoc (φ : List Addr) (a : Addr) : Pf φ (φ ++ [a]) := fun n x e => by
  obtain ⟨hn, _⟩ := List.getElem?_eq_some_iff.mp e
  rw [List.getElem?_append_left hn]; exact e
section
variable {K : PySem.W.Frag} {φ φ' : List Addr} {F F' : Hp} {a : Addr} {v : V} {d : D} {xs vs : List V} {ds : List D}
theorem SL.le (l : Le F F') (h : SL K F a xs) : SL K F' a xs := l _ _ h
theorem ST.le (l : Le F F') (h : ST K F a xs) : ST K F' a xs := h.elim (fun h => .inl (l _ _ h)) .inr
theorem Sh.le (l : Le F F') (p : Pf φ φ') (h : Sh K φ F v d) : Sh K φ' F' v d := by
  induction h with
  | non => exact .non
  | bl b => exact .bl b
  | int i => exact .int i
  | str x => exact .str x
  | tup h hl _ ih => exact .tup (h.le l) hl ih
  | lst h hl _ ih => exact .lst (h.le l) hl ih
  | dctK h hl hk _ ih => exact .dctK (l _ _ h) hl hk ih
  | dctT h hl hk _ ih => exact .dctT (l _ _ h) hl hk ih
  | obj h => exact .obj (p _ _ h)
  | ext h hl _ ih => exact .ext (h.le l) hl ih
theorem Shs.le (l : Le F F') (p : Pf φ φ') (h : Shs K φ F vs ds) : Shs K φ' F' vs ds := ⟨h.1, fun i v d a b => (h.2 i v d a b).le l p⟩
theorem ShK.le {kvs : List (Key × V)} {ds : List (D × D)} (l : Le F F') (p : Pf φ φ') (h : ShK K φ F kvs ds) : ShK K φ' F' kvs ds := ⟨h.1, fun i v d a b => ⟨(h.2 i v d a b).1, (h.2 i v d a b).2.le l p⟩⟩
theorem ShT.le {kvs : List (List Key × V)} {ds : List (D × D)} (l : Le F F') (p : Pf φ φ') (h : ShT K φ F kvs ds) : ShT K φ' F' kvs ds := ⟨h.1, fun i v d a b => ⟨(h.2 i v d a b).1, (h.2 i v d a b).2.le l p⟩⟩
theorem Shs.nil : Shs K φ F [] [] := ⟨rfl, fun i v d h => by simp at h⟩
theorem Shs.cons (h : Sh K φ F v d) (t : Shs K φ F vs ds) : Shs K φ F (v :: vs) (d :: ds) := by
  refine ⟨by simp [t.1], fun i w e h1 h2 => ?_⟩
  cases i with
  | zero => simp at h1 h2; subst h1 h2; exact h
  | succ i => simp at h1 h2; exact t.2 i w e h1 h2
theorem Shs.uncons {w : V} {e : D} (h : Shs K φ F (w :: vs) (e :: ds)) : Sh K φ F w e ∧ Shs K φ F vs ds :=
  ⟨h.2 0 w e rfl rfl, by simpa using h.1, fun i v d a b => h.2 (i + 1) v d (by simpa using a) (by simpa using b)⟩
theorem Shs.nil_l (h : Shs K φ F [] ds) : ds = [] := by
  cases ds with
  | nil => rfl
  | cons d r => have := h.1; simp at this
theorem Shs.cons_l {w : V} (h : Shs K φ F (w :: vs) ds) : ∃ e r, ds = e :: r ∧ Sh K φ F w e ∧ Shs K φ F vs r := by
  cases ds with
  | nil => have := h.1; simp at this
  | cons d r => exact ⟨d, r, rfl, h.uncons.1, h.uncons.2⟩
theorem Shs.nil_r (h : Shs K φ F vs []) : vs = [] := by
  cases vs with
  | nil => rfl
  | cons d r => have := h.1; simp at this
theorem Shs.cons_r {e : D} (h : Shs K φ F vs (e :: ds)) : ∃ w r, vs = w :: r ∧ Sh K φ F w e ∧ Shs K φ F r ds := by
  cases vs with
  | nil => have := h.1; simp at this
  | cons d r => exact ⟨d, r, rfl, h.uncons.1, h.uncons.2⟩
theorem Shs.append {ws : List V} {es : List D} (h : Shs K φ F vs ds) (h' : Shs K φ F ws es) : Shs K φ F (vs ++ ws) (ds ++ es) := by
  induction vs generalizing ds with
  | nil => rw [h.nil_l]; exact h'
  | cons v vs ih =>
    obtain ⟨e, r, rfl, h1, h2⟩ := h.cons_l
    exact Shs.cons h1 (ih h2)
theorem Shs.snoc (h : Shs K φ F vs ds) (h' : Sh K φ F v d) : Shs K φ F (vs ++ [v]) (ds ++ [d]) := h.append (.cons h' .nil)
theorem Shs.take (n : Nat) (h : Shs K φ F vs ds) : Shs K φ F (vs.take n) (ds.take n) := by
  refine ⟨by simp [h.1], fun i v d a b => ?_⟩
  rw [List.getElem?_take] at a b
  split at a
  · exact h.2 i v d a (by simpa [*] using b)
  · cases a
theorem Shs.drop (n : Nat) (h : Shs K φ F vs ds) : Shs K φ F (vs.drop n) (ds.drop n) := by
  refine ⟨by simp [h.1], fun i v d a b => ?_⟩
  rw [List.getElem?_drop] at a b
  exact h.2 _ v d a b
theorem Shs.get {i : Nat} (h : Shs K φ F vs ds) (e : vs[i]? = some v) : ∃ d, ds[i]? = some d ∧ Sh K φ F v d := by
  obtain ⟨hi, _⟩ := List.getElem?_eq_some_iff.mp e
  have hj : i < ds.length := by rw [← h.1]; exact hi
  exact ⟨ds[i], List.getElem?_eq_getElem hj, h.2 i v _ e (List.getElem?_eq_getElem hj)⟩
theorem Shs.getD {i : Nat} (h : Shs K φ F vs ds) (e : ds[i]? = some d) : ∃ v, vs[i]? = some v ∧ Sh K φ F v d := by
  obtain ⟨hi, _⟩ := List.getElem?_eq_some_iff.mp e
  have hj : i < vs.length := by rw [h.1]; exact hi
  exact ⟨vs[i], List.getElem?_eq_getElem hj, h.2 i _ d (List.getElem?_eq_getElem hj) e⟩
theorem Shs.set (i : Nat) (h : Shs K φ F vs ds) (h' : Sh K φ F v d) : Shs K φ F (vs.set i v) (ds.set i d) := by
  refine ⟨by simp [h.1], fun j w e a b => ?_⟩
  rw [List.getElem?_set] at a b
  split at a
  · rename_i hij
    split at a
    · rename_i hl
      have hl' : i < ds.length := by rw [← h.1]; exact hl
      simp only [hij, if_true] at b
      rw [if_pos (by omega)] at b
      cases a; cases b; exact h'
    · cases a
  · rename_i hij
    rw [if_neg hij] at b
    exact h.2 j w e a b
theorem Shs.reverse (h : Shs K φ F vs ds) : Shs K φ F vs.reverse ds.reverse := by
  refine ⟨by simp [h.1], fun i v d a b => ?_⟩
  obtain ⟨hi, _⟩ := List.getElem?_eq_some_iff.mp a
  obtain ⟨hi', _⟩ := List.getElem?_eq_some_iff.mp b
  rw [List.getElem?_reverse (by simpa using hi)] at a
  rw [List.getElem?_reverse (by simpa using hi')] at b
  rw [h.1] at a
  exact h.2 _ v d a b
theorem Shs.erase (n : Nat) (h : Shs K φ F vs ds) : Shs K φ F (vs.eraseIdx n) (ds.eraseIdx n) := by
  refine ⟨by rw [List.length_eraseIdx, List.length_eraseIdx, h.1], fun i v d a b => ?_⟩
  rw [List.getElem?_eraseIdx] at a b
  split at a
  · rename_i q; rw [if_pos q] at b; exact h.2 _ v d a b
  · rename_i q; rw [if_neg q] at b; exact h.2 _ v d a b
/-- shapes -/
theorem Sh.int_d {i : Int} (h : Sh K φ F v (.int i)) : v = .int i := by cases h; rfl
theorem Sh.str_d {x : Str} (h : Sh K φ F v (.str x)) : v = .str x := by cases h; rfl
theorem Sh.bl_d {b : Bool} (h : Sh K φ F v (.bl b)) : v = .bl b := by cases h; rfl
theorem Sh.non_d (h : Sh K φ F v .non) : v = .non := by cases h; rfl
theorem Sh.tup_d (h : Sh K φ F v (.tup ds)) : ∃ a vs, v = .ref a ∧ ST K F a vs ∧ Shs K φ F vs ds := by
  cases h with
  | tup h hl hs => exact ⟨_, _, rfl, h, hl, hs⟩
theorem Sh.lst_d (h : Sh K φ F v (.lst ds)) : ∃ a vs, v = .ref a ∧ SL K F a vs ∧ Shs K φ F vs ds := by
  cases h with
  | lst h hl hs => exact ⟨_, _, rfl, h, hl, hs⟩
theorem Sh.dct_d {ds : List (D × D)} (h : Sh K φ F v (.dct false ds)) : ∃ a kvs, v = .ref a ∧ F a = some (.dK kvs) ∧ ShK K φ F kvs ds := by
  cases h with
  | dctK h hl hk hs => exact ⟨_, _, rfl, h, hl, fun i p q a b => ⟨hk i p q a b, hs i p q a b⟩⟩
theorem Sh.dctT_d {ds : List (D × D)} (h : Sh K φ F v (.dct true ds)) : ∃ a kvs, v = .ref a ∧ F a = some (.dT kvs) ∧ ShT K φ F kvs ds := by
  cases h with
  | dctT h hl hk hs => exact ⟨_, _, rfl, h, hl, fun i p q a b => ⟨hk i p q a b, hs i p q a b⟩⟩
theorem Sh.obj_d {n : Nat} (h : Sh K φ F v (.obj n)) : ∃ a, v = .ref a ∧ φ[n]? = some a := by
  cases h with
  | obj h => exact ⟨_, rfl, h⟩
theorem Sh.ext_d (h : Sh K φ F v (.ext ds)) : ∃ a vs, v = .ref a ∧ SX K F a vs ∧ Shs K φ F vs ds := by
  cases h with
  | ext h hl hs => exact ⟨_, _, rfl, h, hl, hs⟩
theorem Sh.mk_tup (h : ST K F a vs) (hs : Shs K φ F vs ds) : Sh K φ F (.ref a) (.tup ds) := .tup h hs.1 hs.2
theorem Sh.mk_lst (h : SL K F a vs) (hs : Shs K φ F vs ds) : Sh K φ F (.ref a) (.lst ds) := .lst h hs.1 hs.2
end

/-! ### containers at an address -/
/-- the container c as what stands at an address -/
inductive CR (K : PySem.W.Frag) (φ : List Addr) (F : Hp) : HO → D → Prop
  | lst {vs ds} (h : Shs K φ F vs ds) : CR K φ F (.lst vs) (.lst ds)
  | dK {kvs ds} (h : ShK K φ F kvs ds) : CR K φ F (.dK kvs) (.dct false ds)
  | dT {kvs ds} (h : ShT K φ F kvs ds) : CR K φ F (.dT kvs) (.dct true ds)
theorem CR.le {K : PySem.W.Frag} {φ φ' : List Addr} {F F' : Hp} {o : HO} {c : D} (l : Le F F') (p : Pf φ φ') (h : CR K φ F o c) : CR K φ' F' o c := by
  cases h with
  | lst h => exact .lst (h.le l p)
  | dK h => exact .dK (h.le l p)
  | dT h => exact .dT (h.le l p)
theorem CR.sh {K : PySem.W.Frag} {φ : List Addr} {F : Hp} {a : Addr} {o : HO} {c : D} (h : CR K φ F o c) (e : F a = some o) : Sh K φ F (.ref a) c := by
  cases h with
  | lst h => exact .mk_lst e h
  | dK h => exact .dctK e h.1 (fun i p q a b => (h.2 i p q a b).1) fun i p q a b => (h.2 i p q a b).2
  | dT h => exact .dctT e h.1 (fun i p q a b => (h.2 i p q a b).1) fun i p q a b => (h.2 i p q a b).2
theorem CR.nofrz {K : PySem.W.Frag} {φ : List Addr} {F : Hp} {o : HO} {c : D} (h : CR K φ F o c) : ∀ od u, o ≠ .frz od u := by
  cases h <;> exact fun od u z => nomatch z
theorem CR.mut {K : PySem.W.Frag} {φ : List Addr} {F : Hp} {o : HO} {c : D} (h : CR K φ F o c) : Mut (some o) := by
  cases h <;> exact True.intro
end Rf
set_option maxHeartbeats 1000000
/-! Rf2: how the machine's state is held in the abstract heap. -/
namespace Rf
open PySem L2
/-- a def's code table: its place, the name of the code objects at the positions L -/
structure Tb where
  P : Addr
  q : Str
  L : List (Int × Int)
def Tb.at (t : Tb) (pos : Pos) : Bool := t.L.contains ((pos.line : Int), (pos.col : Int))
/-- the classes' addresses; the code tables of the defs -/
structure CA where
  c : Str → Addr
  tb : List Tb
instance : CoeFun CA (fun _ => Str → Addr) := ⟨CA.c⟩
def TabL (H : Hp) (t : Tb) : Prop := ∃ ps : Array Value, H t.P = some (.tbl ps) ∧ TriplesOk ps.toList ∧ ∀ (pos : Pos) (cv : Value), t.at pos = true → codeAmong pos ps.toList = some cv → ∃ c, cv = .ref c ∧ H c = some (LamX.CodeO c t.q)
/-- a code table stands, apart from all that is ours -/
def TabOk (F Pr H : Hp) (t : Tb) : Prop := TabL H t ∧ F t.P = none ∧ Pr t.P = none
section
variable {F Pr H : Hp} {t : Tb} {p : Addr} {o : HO}
theorem codeO_ext (c : Addr) (q : Str) : ∃ z, LamX.CodeO c q = .ext z := ⟨_, rfl⟩
theorem TabOk.ne (T : TabOk F Pr H t) (h : ∀ ps, H p ≠ some (.tbl ps)) : t.P ≠ p := fun z => by
  obtain ⟨⟨ps, q, _⟩, _⟩ := T
  exact h ps (z ▸ q)
theorem TabL.upd (T : TabL H t) (hn : t.P ≠ p) (hx : ∀ z, H p ≠ some (.ext z)) : TabL (upd H p o) t := by
  obtain ⟨ps, q, tr, a⟩ := T
  refine ⟨ps, by rw [upd_ne hn]; exact q, tr, fun pos cv h1 h2 => ?_⟩
  obtain ⟨c, e1, e2⟩ := a pos cv h1 h2
  obtain ⟨z, hz⟩ := codeO_ext c t.q
  have hc : c ≠ p := fun w => hx z (by rw [← w, e2, hz])
  exact ⟨c, e1, by rw [upd_ne hc]; exact e2⟩
theorem TabOk.upd (T : TabOk F Pr H t) (hn : t.P ≠ p) (hx : ∀ z, H p ≠ some (.ext z)) : TabOk F Pr (upd H p o) t := ⟨T.1.upd hn hx, T.2⟩
theorem TabOk.updF (T : TabOk F Pr H t) (hn : t.P ≠ p) : TabOk (L2.upd F p o) Pr H t := ⟨T.1, by rw [upd_ne hn]; exact T.2.1, T.2.2⟩
theorem TabOk.updP (T : TabOk F Pr H t) (hn : t.P ≠ p) : TabOk F (L2.upd Pr p o) H t := ⟨T.1, T.2.1, by rw [upd_ne hn]; exact T.2.2⟩
theorem TabOk.dropP (T : TabOk F (L2.upd Pr p o) H t) : t.P ≠ p ∧ TabOk F Pr H t := by
  obtain ⟨h1, h2, h3⟩ := T
  have hn : t.P ≠ p := fun z => by rw [z, upd_same] at h3; cases h3
  rw [upd_ne hn] at h3
  exact ⟨hn, h1, h2, h3⟩
end
/-- fields by name, in order -/
def FsR (K : PySem.W.Frag) (φ : List Addr) (F : Hp) (vfs : List (Str × V)) (fs : List (Str × D)) : Prop :=
  vfs.map (·.1) = fs.map (·.1) ∧ Shs K φ F (vfs.map (·.2)) (fs.map (·.2))
theorem FsR.le {K : PySem.W.Frag} {φ φ' : List Addr} {F F' : Hp} {vfs : List (Str × V)} {fs : List (Str × D)} (l : Le F F') (p : Pf φ φ') (h : FsR K φ F vfs fs) : FsR K φ' F' vfs fs := ⟨h.1, h.2.le l p⟩
def isDk : HO → Prop
  | .dK _ => True
  | .dT _ => True
  | _ => False
/-- what is frozen stands in the heap; a dict may be locked -/
def Fz (Lk : Addr → Option (Obj × HO)) (H : Hp) (a : Addr) (o : HO) : Prop := (Lk a = none ∧ H a = some o) ∨ (isDk o ∧ ∃ od, Lk a = some (od, o) ∧ H a = some (.frz od o))
/-- the object o of the store stands at a; lk: it is locked -/
def ObR (K : PySem.W.Frag) (cA : CA) (Lk : Addr → Option (Obj × HO)) (φ : List Addr) (F H : Hp) (lk : Prop) (a : Addr) : Ob → Prop
  | .ins C fs => ∃ dx vfs, H a = some (.ins (cA C) dx vfs) ∧ FsR K φ F vfs fs
  | .lst xs => ∃ ho, CR K φ F ho (.lst xs) ∧ Lk a = none ∧ H a = some ho
  | .dct t xs => ∃ ho, CR K φ F ho (.dct t xs) ∧ Fz Lk H a ho ∧ (Lk a ≠ none → lk)
/-- the value v of a slot -/
def SlotR (K : PySem.W.Frag) (φ : List Addr) (F Pr H : Hp) (v : V) : S → Prop
  | .sh d => Sh K φ F v d
  | .own c => ∃ a o, v = .ref a ∧ H a = some o ∧ CR K φ F o c ∧ F a = none ∧ Pr a = none ∧ ∀ n : Nat, φ[n]? ≠ some a
structure Rep (K : PySem.W.Frag) (cA : CA) (Lk : Addr → Option (Obj × HO)) (φ : List Addr) (F Pr : Hp) (w : W) (σ : St) (H : Hp) : Prop where
  len : w.env.length = σ.length
  lkh : ∀ a od, Lk a = some od → H a = some (.frz od.1 od.2)
  fz : ∀ a o, F a = some o → Fz Lk H a o ∧ Pr a = none
  pr : ∀ a o, Pr a = some o → H a = some o
  plen : φ.length = w.st.length
  ob : ∀ (n : Nat) a o, φ[n]? = some a → w.st[n]? = some o → ObR K cA Lk φ F H (n ∈ w.lk) a o
  of : ∀ (n : Nat) a, φ[n]? = some a → F a = none ∧ Pr a = none
  pnd : ∀ (m n : Nat) a, φ[m]? = some a → φ[n]? = some a → m = n
  sl : ∀ (i : Nat) s, w.env[i]? = some (some s) → ∃ v, σ[i]? = some (some v) ∧ SlotR K φ F Pr H v s
  inj : ∀ (i j : Nat) a c c', w.env[i]? = some (some (.own c)) → w.env[j]? = some (some (.own c')) → σ[i]? = some (some (V.ref a)) → σ[j]? = some (some (V.ref a)) → i = j
  tab : ∀ t ∈ cA.tb, TabOk F Pr H t

theorem CR.ntbl {K : PySem.W.Frag} {φ : List Addr} {F : Hp} {o : HO} {c : D} (h : CR K φ F o c) : ∀ ps, o ≠ .tbl ps := by
  cases h <;> exact fun ps z => nomatch z
theorem CR.next {K : PySem.W.Frag} {φ : List Addr} {F : Hp} {o : HO} {c : D} (h : CR K φ F o c) : ∀ z, o ≠ .ext z := by
  cases h <;> exact fun ps z => nomatch z
theorem Fz.rd {Lk : Addr → Option (Obj × HO)} {H : Hp} {a : Addr} {o : HO} (h : Fz Lk H a o) : Rd H a o := h.elim (fun h => .inl h.2) fun ⟨_, od, _, h⟩ => .inr ⟨od, h⟩
theorem Fz.lst {Lk : Addr → Option (Obj × HO)} {H : Hp} {a : Addr} {xs : List V} (h : Fz Lk H a (.lst xs)) : H a = some (.lst xs) := h.elim (·.2) fun h => h.1.elim
theorem SL.hp {K : PySem.W.Frag} {Lk : Addr → Option (Obj × HO)} {F H : Hp} {a : Addr} {xs : List V} (f : ∀ o, F a = some o → Fz Lk H a o) (h : SL K F a xs) : SqL K H a xs := .inl (f _ h).rd
theorem ST.hp {K : PySem.W.Frag} {Lk : Addr → Option (Obj × HO)} {F H : Hp} {a : Addr} {xs : List V} (f : ∀ o, F a = some o → Fz Lk H a o) (h : ST K F a xs) : SqT K H a xs := by
  rcases h with h | h
  · exact .inl (f _ h).rd
  · exact .inr h
theorem rd_some {H : Hp} {a : Addr} {u : HO} (h : Rd H a u) : ∃ o, H a = some o := by
  rcases h with h | ⟨o, h⟩
  · exact ⟨_, h⟩
  · exact ⟨_, h⟩
theorem fz_upd {Lk : Addr → Option (Obj × HO)} {H : Hp} {a p : Addr} {u o : HO} (h : Fz Lk H a u) (hne : a ≠ p) : Fz Lk (upd H p o) a u := by
  rcases h with ⟨hl, h⟩ | ⟨hd, o', hl, h⟩
  · exact .inl ⟨hl, by rw [L2.upd_ne hne]; exact h⟩
  · exact .inr ⟨hd, o', hl, by rw [L2.upd_ne hne]; exact h⟩
theorem fz_ne {Lk : Addr → Option (Obj × HO)} {H : Hp} {a p : Addr} {u : HO} (h : Fz Lk H a u) (hp : H p = none) : a ≠ p := by
  obtain ⟨o, h⟩ := rd_some h.rd
  exact ne_of_none h hp
theorem rd_upd {H : Hp} {a p : Addr} {u o : HO} (h : Rd H a u) (hne : a ≠ p) : Rd (upd H p o) a u := by
  rcases h with h | ⟨o', h⟩
  · exact .inl (by rw [L2.upd_ne hne]; exact h)
  · exact .inr ⟨o', by rw [L2.upd_ne hne]; exact h⟩
theorem rd_ne {H : Hp} {a p : Addr} {u : HO} (h : Rd H a u) (hp : H p = none) : a ≠ p := by
  obtain ⟨o, h⟩ := rd_some h
  exact ne_of_none h hp

section
variable {K : PySem.W.Frag} {cA : CA} {Lk : Addr → Option (Obj × HO)} {φ : List Addr} {F Pr H : Hp} {w : W} {σ : St} {p a : Addr} {o o' : HO} {c : D}
theorem Rep.sqL (R : Rep K cA Lk φ F Pr w σ H) {xs : List V} (h : SL K F a xs) : SqL K H a xs := h.hp fun _ e => (R.fz _ _ e).1
theorem Rep.sqT (R : Rep K cA Lk φ F Pr w σ H) {xs : List V} (h : ST K F a xs) : SqT K H a xs := h.hp fun _ e => (R.fz _ _ e).1
theorem ObR.some {lk : Prop} {ob : Ob} (h : ObR K cA Lk φ F H lk a ob) : ∃ o, H a = some o := by
  cases ob with
  | ins C fs => obtain ⟨dx, vfs, h, _⟩ := h; exact ⟨_, h⟩
  | lst xs => obtain ⟨ho, _, _, h⟩ := h; exact ⟨_, h⟩
  | dct t xs => obtain ⟨ho, _, h, _⟩ := h; exact rd_some h.rd
theorem Rep.obSome (R : Rep K cA Lk φ F Pr w σ H) {n : Nat} (h : φ[n]? = some a) : ∃ o, H a = some o := by
  obtain ⟨hn, _⟩ := List.getElem?_eq_some_iff.mp h
  have hn' : n < w.st.length := by rw [← R.plen]; exact hn
  exact (R.ob n a _ h (List.getElem?_eq_getElem hn')).some
/-- the heap changes where nothing of ours stands, but for what is told anew -/
theorem ObR.step {H' : Hp} {φ' : List Addr} {F' : Hp} {lk lk' : Prop} {ob : Ob} (l : Le F F') (pf : Pf φ φ') (hl : lk → lk') (e : H' a = H a) (h : ObR K cA Lk φ F H lk a ob) : ObR K cA Lk φ' F' H' lk' a ob := by
  have rd : ∀ u, Fz Lk H a u → Fz Lk H' a u := fun u q => by
    rcases q with ⟨hl, q⟩ | ⟨hd, ob, hl, q⟩
    · exact .inl ⟨hl, e.trans q⟩
    · exact .inr ⟨hd, ob, hl, e.trans q⟩
  cases ob with
  | ins C fs => obtain ⟨dx, vfs, h1, h2⟩ := h; exact ⟨dx, vfs, e.trans h1, h2.le l pf⟩
  | lst xs => obtain ⟨ho, h1, h0, h2⟩ := h; exact ⟨ho, h1.le l pf, h0, e.trans h2⟩
  | dct t xs => obtain ⟨ho, h1, h2, h3⟩ := h; exact ⟨ho, h1.le l pf, rd _ h2, fun q => hl (h3 q)⟩
theorem Rep.lkNew (R : Rep K cA Lk φ F Pr w σ H) (hp : H p = none) : Lk p = none := by
  cases e : Lk p with
  | none => rfl
  | some od => have q := R.lkh _ _ e; rw [hp] at q; cases q
theorem Rep.lkAt (R : Rep K cA Lk φ F Pr w σ H) (hp : H p = some o) (hd : ∀ od u, o ≠ .frz od u) : Lk p = none := by
  cases e : Lk p with
  | none => rfl
  | some od => have q := R.lkh _ _ e; rw [hp] at q; cases q; exact absurd rfl (hd _ _)
theorem Rep.lkUpd (R : Rep K cA Lk φ F Pr w σ H) (hl : Lk p = none) : ∀ a od, Lk a = some od → upd H p o a = some (.frz od.1 od.2) := fun a od e => by
  have ne : a ≠ p := fun z => by rw [z, hl] at e; cases e
  rw [upd_ne ne]; exact R.lkh a od e
/-- a new object that is frozen at once (a tuple) -/
theorem Rep.new (R : Rep K cA Lk φ F Pr w σ H) (hp : H p = none) : Rep K cA Lk φ (upd F p o) Pr w σ (upd H p o) := by
  have fp : F p = none := by
    cases e : F p with
    | none => rfl
    | some u => exact absurd rfl (fz_ne (R.fz _ _ e).1 hp)
  have pp : Pr p = none := by
    cases e : Pr p with
    | none => rfl
    | some u => have := R.pr _ _ e; rw [hp] at this; cases this
  have l : Le F (upd F p o) := Le.new fp
  refine ⟨R.len, R.lkUpd (R.lkNew hp), fun b u e => ?_, fun b u e => ?_, R.plen, fun n b u e1 e2 => ?_, fun n b e => ?_, R.pnd, fun i s e => ?_, R.inj, fun P hP => have T := R.tab P hP; have n := T.ne (p := p) (by simp [hp]); (T.upd n (by simp [hp])).updF n⟩
  · by_cases hb : b = p
    · subst hb; rw [upd_same] at e; cases e; exact ⟨.inl ⟨R.lkNew hp, upd_same⟩, pp⟩
    · rw [upd_ne hb] at e; exact ⟨fz_upd (R.fz _ _ e).1 hb, (R.fz _ _ e).2⟩
  · have q := R.pr _ _ e
    rw [upd_ne (ne_of_none q hp)]; exact q
  · obtain ⟨u', q⟩ := R.obSome e1
    exact (R.ob n b u e1 e2).step l (Pf.refl _) (fun z => z) (upd_ne (ne_of_none q hp))
  · obtain ⟨u', q⟩ := R.obSome e
    rw [upd_ne (ne_of_none q hp)]
    exact R.of n b e
  · obtain ⟨v, h1, h2⟩ := R.sl i s e
    refine ⟨v, h1, ?_⟩
    cases s with
    | sh d => exact h2.le l (Pf.refl _)
    | own c =>
      obtain ⟨a, u, rfl, h3, h4, h5, h6, h7⟩ := h2
      have ne := ne_of_none h3 hp
      exact ⟨a, u, rfl, by rw [upd_ne ne]; exact h3, h4.le l (Pf.refl _), by rw [upd_ne ne]; exact h5, h6, h7⟩
theorem Rep.fresh (R : Rep K cA Lk φ F Pr w σ H) (hp : H p = none) : F p = none ∧ Pr p = none ∧ ∀ n : Nat, φ[n]? ≠ some p := by
  refine ⟨?_, ?_, fun n e => ?_⟩
  · cases e : F p with
    | none => rfl
    | some u => exact absurd rfl (fz_ne (R.fz _ _ e).1 hp)
  · cases e : Pr p with
    | none => rfl
    | some u => have := R.pr _ _ e; rw [hp] at this; cases this
  · obtain ⟨u, q⟩ := R.obSome e
    rw [hp] at q; cases q
/-- a new object, pending -/
theorem Rep.pend (R : Rep K cA Lk φ F Pr w σ H) (hp : H p = none) : Rep K cA Lk φ F (upd Pr p o) w σ (upd H p o) := by
  obtain ⟨fp, pp, np⟩ := R.fresh hp
  refine ⟨R.len, R.lkUpd (R.lkNew hp), fun b u e => ?_, fun b u e => ?_, R.plen, fun n b u e1 e2 => ?_, fun n b e => ?_, R.pnd, fun i s e => ?_, R.inj, fun P hP => have T := R.tab P hP; have n := T.ne (p := p) (by simp [hp]); (T.upd n (by simp [hp])).updP n⟩
  · have hb : b ≠ p := fun z => by rw [z, fp] at e; cases e
    rw [upd_ne hb]
    exact ⟨fz_upd (R.fz _ _ e).1 hb, (R.fz _ _ e).2⟩
  · by_cases hb : b = p
    · subst hb; rw [upd_same] at e; cases e; exact upd_same
    · rw [upd_ne hb] at e ⊢; exact R.pr _ _ e
  · obtain ⟨u', q⟩ := R.obSome e1
    exact (R.ob n b u e1 e2).step (Le.refl _) (Pf.refl _) (fun z => z) (upd_ne (ne_of_none q hp))
  · have hb : b ≠ p := fun z => np n (z ▸ e)
    rw [upd_ne hb]; exact R.of n b e
  · obtain ⟨v, h1, h2⟩ := R.sl i s e
    refine ⟨v, h1, ?_⟩
    cases s with
    | sh d => exact h2
    | own c =>
      obtain ⟨a, u, rfl, h3, h4, h5, h6, h7⟩ := h2
      have ne := ne_of_none h3 hp
      exact ⟨a, u, rfl, by rw [upd_ne ne]; exact h3, h4, h5, by rw [upd_ne ne]; exact h6, h7⟩
/-- pending, then frozen -/
theorem Rep.thaw (R : Rep K cA Lk φ F (upd Pr p o) w σ H) (pp : Pr p = none) (hd : ∀ od u, o ≠ .frz od u) : Rep K cA Lk φ (upd F p o) Pr w σ H := by
  have hp : H p = some o := R.pr p o upd_same
  have fp : F p = none := by
    cases e : F p with
    | none => rfl
    | some u => have := (R.fz _ _ e).2; rw [upd_same] at this; cases this
  have np : ∀ n : Nat, φ[n]? ≠ some p := fun n e => by have := (R.of n p e).2; rw [upd_same] at this; cases this
  have l : Le F (upd F p o) := Le.new fp
  refine ⟨R.len, R.lkh, fun b u e => ?_, fun b u e => ?_, R.plen, fun n b u e1 e2 => (R.ob n b u e1 e2).step l (Pf.refl _) (fun z => z) rfl, fun n b e => ?_, R.pnd, fun i s e => ?_, R.inj, fun P hP => have T := (R.tab P hP).dropP; T.2.updF T.1⟩
  · by_cases hb : b = p
    · subst hb; rw [upd_same] at e; cases e; exact ⟨.inl ⟨R.lkAt hp hd, hp⟩, pp⟩
    · rw [upd_ne hb] at e
      have q := R.fz _ _ e
      rw [upd_ne hb] at q
      exact q
  · have hb : b ≠ p := fun z => by rw [z, pp] at e; cases e
    exact R.pr b u (by rw [upd_ne hb]; exact e)
  · have hb : b ≠ p := fun z => np n (z ▸ e)
    have q := R.of n b e
    rw [upd_ne hb] at q ⊢
    exact q
  · obtain ⟨v, h1, h2⟩ := R.sl i s e
    refine ⟨v, h1, ?_⟩
    cases s with
    | sh d => exact h2.le l (Pf.refl _)
    | own c =>
      obtain ⟨a, u, rfl, h3, h4, h5, h6, h7⟩ := h2
      have ne : a ≠ p := fun z => by rw [z, upd_same] at h6; cases h6
      rw [upd_ne ne] at h6
      exact ⟨a, u, rfl, h3, h4.le l (Pf.refl _), by rw [upd_ne ne]; exact h5, h6, h7⟩
/-- pending, then dropped -/
theorem Rep.drop (R : Rep K cA Lk φ F (upd Pr p o) w σ H) (pp : Pr p = none) : Rep K cA Lk φ F Pr w σ H := by
  refine ⟨R.len, R.lkh, fun b u e => ⟨(R.fz _ _ e).1, ?_⟩, fun b u e => ?_, R.plen, R.ob, fun n b e => ⟨(R.of n b e).1, ?_⟩, R.pnd, fun i s e => ?_, R.inj, fun P hP => (R.tab P hP).dropP.2⟩
  · have q := (R.fz _ _ e).2
    have hb : b ≠ p := fun z => by rw [z, upd_same] at q; cases q
    rw [upd_ne hb] at q; exact q
  · have hb : b ≠ p := fun z => by rw [z, pp] at e; cases e
    exact R.pr b u (by rw [upd_ne hb]; exact e)
  · have q := (R.of n b e).2
    have hb : b ≠ p := fun z => by rw [z, upd_same] at q; cases q
    rw [upd_ne hb] at q; exact q
  · obtain ⟨v, h1, h2⟩ := R.sl i s e
    refine ⟨v, h1, ?_⟩
    cases s with
    | sh d => exact h2
    | own c =>
      obtain ⟨a, u, rfl, h3, h4, h5, h6, h7⟩ := h2
      have ne : a ≠ p := fun z => by rw [z, upd_same] at h6; cases h6
      rw [upd_ne ne] at h6
      exact ⟨a, u, rfl, h3, h4, h5, h6, h7⟩
/-- a slot takes shared data -/
theorem Rep.setSh {i : Nat} {v : V} {d : D} (R : Rep K cA Lk φ F Pr w σ H) (h : Sh K φ F v d) : Rep K cA Lk φ F Pr { w with env := w.env.set i (some (.sh d)) } (σ.set i (some v)) H := by
  refine ⟨by simpa using R.len, R.lkh, R.fz, R.pr, R.plen, R.ob, R.of, R.pnd, fun j s e => ?_, fun j k a c c' e1 e2 e3 e4 => ?_, R.tab⟩
  · by_cases hj : j = i
    · subst hj
      have hl : j < w.env.length := by
        have := (List.getElem?_eq_some_iff.mp e).1
        simpa using this
      have e' : (w.env.set j (some (S.sh d)))[j]? = some (some s) := e
      rw [List.getElem?_set_self hl] at e'
      cases e'
      exact ⟨v, by rw [List.getElem?_set_self (by rw [← R.len]; exact hl)], h⟩
    · have e' : (w.env.set i (some (S.sh d)))[j]? = some (some s) := e
      rw [List.getElem?_set_ne (Ne.symm hj)] at e'
      obtain ⟨v', h1, h2⟩ := R.sl j s e'
      exact ⟨v', by rw [List.getElem?_set_ne (Ne.symm hj)]; exact h1, h2⟩
  · have ne : ∀ (x : Nat) c, (w.env.set i (some (S.sh d)))[x]? = some (some (S.own c)) → x ≠ i := fun x c q z => by
      subst z
      have hl : x < w.env.length := by
        have := (List.getElem?_eq_some_iff.mp q).1
        simpa using this
      rw [List.getElem?_set_self hl] at q; cases q
    have n1 := ne j c e1
    have n2 := ne k c' e2
    have e1' : (w.env.set i (some (S.sh d)))[j]? = some (some (S.own c)) := e1
    have e2' : (w.env.set i (some (S.sh d)))[k]? = some (some (S.own c')) := e2
    rw [List.getElem?_set_ne (Ne.symm n1)] at e1' e3
    rw [List.getElem?_set_ne (Ne.symm n2)] at e2' e4
    exact R.inj j k a c c' e1' e2' e3 e4
/-- a slot takes a pending container -/
theorem Rep.setOwn {i : Nat} (R : Rep K cA Lk φ F (upd Pr p o) w σ H) (pp : Pr p = none) (h : CR K φ F o c) : Rep K cA Lk φ F Pr { w with env := w.env.set i (some (.own c)) } (σ.set i (some (.ref p))) H := by
  have R' := R.drop pp
  have hp : H p = some o := R.pr p o upd_same
  have fp : F p = none := by
    cases e : F p with
    | none => rfl
    | some u => have := (R.fz _ _ e).2; rw [upd_same] at this; cases this
  have np : ∀ n : Nat, φ[n]? ≠ some p := fun n e => by have := (R.of n p e).2; rw [upd_same] at this; cases this
  have nop : ∀ (j : Nat) c a, w.env[j]? = some (some (.own c)) → σ[j]? = some (some (V.ref a)) → a ≠ p := fun j c a e1 e2 z => by
    obtain ⟨v, h1, a', u, h2, _, _, _, h6, _⟩ := R.sl j _ e1
    rw [e2] at h1; cases h1; cases h2
    rw [z, upd_same] at h6; cases h6
  refine ⟨by simpa using R'.len, R'.lkh, R'.fz, R'.pr, R'.plen, R'.ob, R'.of, R'.pnd, fun j s e => ?_, fun j k a c1 c2 e1 e2 e3 e4 => ?_, R'.tab⟩
  · by_cases hj : j = i
    · subst hj
      have hl : j < w.env.length := by
        have := (List.getElem?_eq_some_iff.mp e).1
        simpa using this
      have e' : (w.env.set j (some (S.own c)))[j]? = some (some s) := e
      rw [List.getElem?_set_self hl] at e'
      cases e'
      exact ⟨.ref p, by rw [List.getElem?_set_self (by rw [← R'.len]; exact hl)], p, o, rfl, hp, h, fp, pp, np⟩
    · have e' : (w.env.set i (some (S.own c)))[j]? = some (some s) := e
      rw [List.getElem?_set_ne (Ne.symm hj)] at e'
      obtain ⟨v', h1, h2⟩ := R'.sl j s e'
      exact ⟨v', by rw [List.getElem?_set_ne (Ne.symm hj)]; exact h1, h2⟩
  · have e1' : (w.env.set i (some (S.own c)))[j]? = some (some (S.own c1)) := e1
    have e2' : (w.env.set i (some (S.own c)))[k]? = some (some (S.own c2)) := e2
    have lt : ∀ (x : Nat) s, (w.env.set i (some (S.own c)))[x]? = some s → x < σ.length := fun x s q => by
      have := (List.getElem?_eq_some_iff.mp q).1
      rw [← R'.len]
      simpa using this
    by_cases hj : j = i
    · by_cases hk : k = i
      · rw [hj, hk]
      · rw [hj, List.getElem?_set_self (hj ▸ lt j _ e1')] at e3
        rw [List.getElem?_set_ne (Ne.symm hk)] at e2' e4
        cases e3
        exact absurd rfl (nop k c2 p e2' e4)
    · by_cases hk : k = i
      · rw [hk, List.getElem?_set_self (hk ▸ lt k _ e2')] at e4
        rw [List.getElem?_set_ne (Ne.symm hj)] at e1' e3
        cases e4
        exact absurd rfl (nop j c1 p e1' e3)
      · rw [List.getElem?_set_ne (Ne.symm hj)] at e1' e3
        rw [List.getElem?_set_ne (Ne.symm hk)] at e2' e4
        exact R'.inj j k a c1 c2 e1' e2' e3 e4
/-- a slot is forgotten (the value may stand or not) -/
theorem Rep.clear {i : Nat} {x : Option V} (R : Rep K cA Lk φ F Pr w σ H) : Rep K cA Lk φ F Pr { w with env := w.env.set i none } (σ.set i x) H := by
  have key : ∀ (j : Nat) s, (w.env.set i none)[j]? = some (some s) → j ≠ i ∧ w.env[j]? = some (some s) := fun j s e => by
    by_cases hj : j = i
    · subst hj
      have hl : j < w.env.length := by
        have := (List.getElem?_eq_some_iff.mp e).1
        simpa using this
      rw [List.getElem?_set_self hl] at e; cases e
    · rw [List.getElem?_set_ne (Ne.symm hj)] at e
      exact ⟨hj, e⟩
  refine ⟨by simpa using R.len, R.lkh, R.fz, R.pr, R.plen, R.ob, R.of, R.pnd, fun j s e => ?_, fun j k a c c' e1 e2 e3 e4 => ?_, R.tab⟩
  · obtain ⟨hj, e⟩ := key j s e
    obtain ⟨v', h1, h2⟩ := R.sl j s e
    exact ⟨v', by rw [List.getElem?_set_ne (Ne.symm hj)]; exact h1, h2⟩
  · obtain ⟨n1, e1⟩ := key j _ e1
    obtain ⟨n2, e2⟩ := key k _ e2
    rw [List.getElem?_set_ne (Ne.symm n1)] at e3
    rw [List.getElem?_set_ne (Ne.symm n2)] at e4
    exact R.inj j k a c c' e1 e2 e3 e4
/-- a slot's own container is frozen -/
theorem Rep.freeze {i : Nat} (R : Rep K cA Lk φ F Pr w σ H) (e : w.env[i]? = some (some (.own c))) :
    ∃ a o, σ[i]? = some (some (V.ref a)) ∧ H a = some o ∧ F a = none ∧ CR K φ F o c ∧ Rep K cA Lk φ (upd F a o) Pr { w with env := w.env.set i (some (.sh c)) } σ H := by
  obtain ⟨v, h1, a, o, rfl, h3, h4, h5, h6, h7⟩ := R.sl i _ e
  refine ⟨a, o, h1, h3, h5, h4, ?_⟩
  have l : Le F (upd F a o) := Le.new h5
  have hi : i < w.env.length := (List.getElem?_eq_some_iff.mp e).1
  have key : ∀ (j : Nat) s, (w.env.set i (some (S.sh c)))[j]? = some (some s) → (j = i ∧ s = .sh c) ∨ (j ≠ i ∧ w.env[j]? = some (some s)) := fun j s q => by
    by_cases hj : j = i
    · subst hj
      rw [List.getElem?_set_self hi] at q; cases q
      exact .inl ⟨rfl, rfl⟩
    · rw [List.getElem?_set_ne (Ne.symm hj)] at q
      exact .inr ⟨hj, q⟩
  refine ⟨by simpa using R.len, R.lkh, fun b u q => ?_, R.pr, R.plen, fun n b u e1 e2 => (R.ob n b u e1 e2).step l (Pf.refl _) (fun z => z) rfl, fun n b q => ?_, R.pnd, fun j s q => ?_, fun j k b c1 c2 e1 e2 e3 e4 => ?_, fun P hP => (R.tab P hP).updF ((R.tab P hP).ne fun ps z => h4.ntbl ps (Option.some.inj (h3.symm.trans z)))⟩
  · by_cases hb : b = a
    · subst hb; rw [upd_same] at q; cases q; exact ⟨.inl ⟨R.lkAt h3 h4.nofrz, h3⟩, h6⟩
    · rw [upd_ne hb] at q; exact R.fz _ _ q
  · have hb : b ≠ a := fun z => h7 n (z ▸ q)
    rw [upd_ne hb]; exact R.of n b q
  · rcases key j s q with ⟨rfl, rfl⟩ | ⟨hj, q⟩
    · exact ⟨_, h1, (h4.le l (Pf.refl _)).sh upd_same⟩
    · obtain ⟨v', g1, g2⟩ := R.sl j s q
      refine ⟨v', g1, ?_⟩
      cases s with
      | sh d => exact g2.le l (Pf.refl _)
      | own c' =>
        obtain ⟨a', u, rfl, g3, g4, g5, g6, g7⟩ := g2
        have ne : a' ≠ a := fun z => hj (R.inj j i a c' c q e (z ▸ g1) h1)
        exact ⟨a', u, rfl, g3, g4.le l (Pf.refl _), by rw [upd_ne ne]; exact g5, g6, g7⟩
  · rcases key j _ e1 with ⟨_, z⟩ | ⟨hj, q1⟩
    · cases z
    · rcases key k _ e2 with ⟨_, z⟩ | ⟨hk, q2⟩
      · cases z
      · exact R.inj j k b c1 c2 q1 q2 e3 e4
/-- a slot's own container is changed in place -/
theorem Rep.mutSlot {i : Nat} {c' : D} (R : Rep K cA Lk φ F Pr w σ H) (e : w.env[i]? = some (some (.own c))) (e1 : σ[i]? = some (some (V.ref a))) (h : CR K φ F o' c') :
    Rep K cA Lk φ F Pr { w with env := w.env.set i (some (.own c')) } σ (upd H a o') := by
  obtain ⟨v, h1, a2, o, e2, h3, h4, h5, h6, h7⟩ := R.sl i _ e
  rw [e1] at h1; cases h1; cases e2
  have hi : i < w.env.length := (List.getElem?_eq_some_iff.mp e).1
  have key : ∀ (j : Nat) s, (w.env.set i (some (S.own c')))[j]? = some (some s) → (j = i ∧ s = .own c') ∨ (j ≠ i ∧ w.env[j]? = some (some s)) := fun j s q => by
    by_cases hj : j = i
    · subst hj
      rw [List.getElem?_set_self hi] at q; cases q
      exact .inl ⟨rfl, rfl⟩
    · rw [List.getElem?_set_ne (Ne.symm hj)] at q
      exact .inr ⟨hj, q⟩
  refine ⟨by simpa using R.len, R.lkUpd (R.lkAt h3 h4.nofrz), fun b u q => ?_, fun b u q => ?_, R.plen, fun n b u q1 q2 => ?_, R.of, R.pnd, fun j s q => ?_, fun j k b c1 c2 e1 e2 e3 e4 => ?_, fun P hP => (R.tab P hP).upd ((R.tab P hP).ne fun ps z => h4.ntbl ps (Option.some.inj (h3.symm.trans z))) fun z q => h4.next z (Option.some.inj (h3.symm.trans q))⟩
  · have hb : b ≠ a := fun z => by rw [z, h5] at q; cases q
    exact ⟨fz_upd (R.fz _ _ q).1 hb, (R.fz _ _ q).2⟩
  · have hb : b ≠ a := fun z => by rw [z, h6] at q; cases q
    rw [upd_ne hb]; exact R.pr _ _ q
  · have hb : b ≠ a := fun z => h7 n (z ▸ q1)
    exact (R.ob n b u q1 q2).step (Le.refl _) (Pf.refl _) (fun z => z) (upd_ne hb)
  · rcases key j s q with ⟨rfl, rfl⟩ | ⟨hj, q⟩
    · exact ⟨_, e1, a, o', rfl, upd_same, h, h5, h6, h7⟩
    · obtain ⟨v', g1, g2⟩ := R.sl j s q
      refine ⟨v', g1, ?_⟩
      cases s with
      | sh d => exact g2
      | own c2 =>
        obtain ⟨a', u, rfl, g3, g4, g5, g6, g7⟩ := g2
        have ne : a' ≠ a := fun z => hj (R.inj j i a c2 c q e (z ▸ g1) e1)
        exact ⟨a', u, rfl, by rw [upd_ne ne]; exact g3, g4, g5, g6, g7⟩
  · have un : ∀ (x : Nat) c1, (w.env.set i (some (S.own c')))[x]? = some (some (S.own c1)) → ∃ c2, w.env[x]? = some (some (S.own c2)) := fun x c1 q => by
      rcases key x _ q with ⟨rfl, _⟩ | ⟨_, q⟩
      · exact ⟨_, e⟩
      · exact ⟨_, q⟩
    obtain ⟨d1, q1⟩ := un j c1 e1
    obtain ⟨d2, q2⟩ := un k c2 e2
    exact R.inj j k b d1 d2 q1 q2 e3 e4
theorem Rep.obNt (R : Rep K cA Lk φ F Pr w σ H) {n : Nat} (h : φ[n]? = some a) : (∀ ps : Array Value, H a ≠ some (.tbl ps)) ∧ ∀ z, H a ≠ some (.ext z) := by
  obtain ⟨hn, _⟩ := List.getElem?_eq_some_iff.mp h
  have hn' : n < w.st.length := by rw [← R.plen]; exact hn
  have q := R.ob n a _ h (List.getElem?_eq_getElem hn')
  generalize w.st[n] = ob at q
  cases ob with
  | ins C fs => obtain ⟨dx, vfs, h1, h2⟩ := q; exact ⟨fun ps z => (by rw [z] at h1; cases h1), fun ps z => (by rw [z] at h1; cases h1)⟩
  | lst xs => obtain ⟨ho, h1, h0, h2⟩ := q; exact ⟨fun ps z => h1.ntbl ps (Option.some.inj (h2.symm.trans z)), fun ps z => h1.next ps (Option.some.inj (h2.symm.trans z))⟩
  | dct t xs =>
    obtain ⟨ho, h1, h2, h3⟩ := q
    rcases h2 with ⟨_, h2⟩ | ⟨_, od, _, h2⟩
    · exact ⟨fun ps z => h1.ntbl ps (Option.some.inj (h2.symm.trans z)), fun ps z => h1.next ps (Option.some.inj (h2.symm.trans z))⟩
    · exact ⟨fun ps z => (by rw [z] at h2; cases h2), fun ps z => (by rw [z] at h2; cases h2)⟩
/-- an object of the store is changed -/
theorem Rep.mutOb {n : Nat} {ob' : Ob} (R : Rep K cA Lk φ F Pr w σ H) (e : φ[n]? = some a) (hl : Lk a = none) (h : ObR K cA Lk φ F (upd H a o') (n ∈ w.lk) a ob') :
    Rep K cA Lk φ F Pr { w with st := w.st.set n ob' } σ (upd H a o') := by
  obtain ⟨f1, f2⟩ := R.of n a e
  refine ⟨R.len, R.lkUpd hl, fun b u q => ?_, fun b u q => ?_, by simpa using R.plen, fun m b u q1 q2 => ?_, R.of, R.pnd, fun j s q => ?_, R.inj, fun P hP => (R.tab P hP).upd ((R.tab P hP).ne fun ps z => (R.obNt e).1 ps z) fun z q => (R.obNt e).2 z q⟩
  · have hb : b ≠ a := fun z => by rw [z, f1] at q; cases q
    exact ⟨fz_upd (R.fz _ _ q).1 hb, (R.fz _ _ q).2⟩
  · have hb : b ≠ a := fun z => by rw [z, f2] at q; cases q
    rw [upd_ne hb]; exact R.pr _ _ q
  · by_cases hm : m = n
    · subst hm
      rw [e] at q1; cases q1
      have hn : m < w.st.length := by rw [← R.plen]; exact (List.getElem?_eq_some_iff.mp e).1
      have q2' : (w.st.set m ob')[m]? = some u := q2
      rw [List.getElem?_set_self hn] at q2'; cases q2'
      exact h
    · have hb : b ≠ a := fun z => hm (R.pnd m n a (z ▸ q1) e)
      have q2' : (w.st.set n ob')[m]? = some u := q2
      rw [List.getElem?_set_ne (Ne.symm hm)] at q2'
      exact (R.ob m b u q1 q2').step (Le.refl _) (Pf.refl _) (fun z => z) (upd_ne hb)
  · obtain ⟨v', g1, g2⟩ := R.sl j s q
    refine ⟨v', g1, ?_⟩
    cases s with
    | sh d => exact g2
    | own c2 =>
      obtain ⟨a', u, rfl, g3, g4, g5, g6, g7⟩ := g2
      have ne : a' ≠ a := fun z => g7 n (z ▸ e)
      exact ⟨a', u, rfl, by rw [upd_ne ne]; exact g3, g4, g5, g6, g7⟩
/-- a pending container becomes an object of the store; so does a new instance -/
theorem Rep.boxed {ob : Ob} (R : Rep K cA Lk φ F (upd Pr p o) w σ H) (pp : Pr p = none) (h : ObR K cA Lk (φ ++ [p]) F H (w.st.length ∈ w.lk) p ob) : Rep K cA Lk (φ ++ [p]) F Pr { w with st := w.st ++ [ob] } σ H := by
  have R' := R.drop pp
  have fp : F p = none := by
    cases e : F p with
    | none => rfl
    | some u => have := (R.fz _ _ e).2; rw [upd_same] at this; cases this
  have np : ∀ n : Nat, φ[n]? ≠ some p := fun n e => by have := (R.of n p e).2; rw [upd_same] at this; cases this
  have key : ∀ (n : Nat) b, (φ ++ [p])[n]? = some b → (n < φ.length ∧ φ[n]? = some b) ∨ (n = φ.length ∧ b = p) := fun n b q => by
    by_cases hn : n < φ.length
    · rw [List.getElem?_append_left hn] at q; exact .inl ⟨hn, q⟩
    · have hl := (List.getElem?_eq_some_iff.mp q).1
      simp at hl
      have e : n = φ.length := by omega
      subst e
      simp at q
      exact .inr ⟨rfl, q.symm⟩
  have pf : Pf φ (φ ++ [p]) := Pf.snoc φ p
  refine ⟨R'.len, R'.lkh, R'.fz, R'.pr, by simp [R'.plen], fun n b u q1 q2 => ?_, fun n b q => ?_, fun m n b q1 q2 => ?_, fun j s q => ?_, R'.inj, R'.tab⟩
  · have q2' : (w.st ++ [ob])[n]? = some u := q2
    rcases key n b q1 with ⟨hn, q1⟩ | ⟨rfl, rfl⟩
    · rw [List.getElem?_append_left (by rw [← R'.plen]; exact hn)] at q2'
      exact (R'.ob n b u q1 q2').step (Le.refl _) pf (fun z => z) rfl
    · rw [R'.plen] at q2'
      simp at q2'
      subst q2'
      rw [R'.plen]
      exact h
  · rcases key n b q with ⟨_, q⟩ | ⟨_, rfl⟩
    · exact R'.of n b q
    · exact ⟨fp, pp⟩
  · rcases key m b q1 with ⟨h1, q3⟩ | ⟨e1, e2⟩
    · rcases key n b q2 with ⟨h2, q4⟩ | ⟨e3, e4⟩
      · exact R'.pnd m n b q3 q4
      · exact absurd (e4 ▸ q3) (np m)
    · rcases key n b q2 with ⟨h2, q4⟩ | ⟨e3, e4⟩
      · exact absurd (e2 ▸ q4) (np n)
      · rw [e1, e3]
  · obtain ⟨v', g1, g2⟩ := R.sl j s q
    refine ⟨v', g1, ?_⟩
    cases s with
    | sh d => exact g2.le (Le.refl _) pf
    | own c2 =>
      obtain ⟨a', u, rfl, g3, g4, g5, g6, g7⟩ := g2
      have ne : a' ≠ p := fun z => by rw [z, upd_same] at g6; cases g6
      rw [upd_ne ne] at g6
      refine ⟨a', u, rfl, g3, g4.le (Le.refl _) pf, g5, g6, fun n q => ?_⟩
      rcases key n a' q with ⟨_, q⟩ | ⟨_, z⟩
      · exact g7 n q
      · exact ne z
/-- known more: the frozen part and the ids grow elsewhere -/
theorem Rep.env0 (R : Rep K cA Lk φ F Pr w σ H) : ∃ Pr' : Hp, (∀ a o, Pr a = some o → Pr' a = some o) ∧ (∀ (i : Nat) c, w.env[i]? = some (some (.own c)) → ∃ a o, σ[i]? = some (some (V.ref a)) ∧ Pr' a = some o ∧ CR K φ F o c ∧ Pr a = none) ∧
    Rep K cA Lk φ F Pr' { w with env := [] } [] H ∧
    ∀ {φ' : List Addr} {F' H' : Hp} {st' : List Ob} {lk' : List Nat} {σ' : St}, Le F F' → Pf φ φ' → Rep K cA Lk φ' F' Pr' { env := [], st := st', lk := lk' } [] H' → (σ'.length = σ.length ∧ ∀ (i : Nat) s, w.env[i]? = some (some s) → σ'[i]? = σ[i]?) →
      Rep K cA Lk φ' F' Pr { env := w.env, st := st', lk := lk' } σ' H' := by
  classical
  let own : Addr → Prop := fun a => ∃ (i : Nat) (c : D), w.env[i]? = some (some (.own c)) ∧ σ[i]? = some (some (V.ref a))
  have ownF : ∀ a, own a → ∃ o, H a = some o ∧ F a = none ∧ Pr a = none ∧ ∀ n : Nat, φ[n]? ≠ some a := fun a ⟨i, c, e1, e2⟩ => by
    obtain ⟨v, h1, a2, o, rfl, h3, h4, h5, h6, h7⟩ := R.sl i _ e1
    rw [e2] at h1; cases h1
    exact ⟨o, h3, h5, h6, h7⟩
  refine ⟨fun a => if own a then H a else Pr a, fun a o e => ?_, fun i c e => ?_, ⟨rfl, R.lkh, fun a o e => ⟨(R.fz a o e).1, ?_⟩, fun a o e => ?_, R.plen, R.ob, fun n a e => ⟨(R.of n a e).1, ?_⟩, R.pnd, fun i s e => by simp at e, fun i j a c c' e => by simp at e, fun P hP => ⟨(R.tab P hP).1, (R.tab P hP).2.1, ?_⟩⟩, fun {φ' F' H' st' lk' σ'} l pf R' hσ => ?_⟩
  · have ho : ¬ own a := fun z => by
      obtain ⟨_, _, _, q, _⟩ := ownF a z
      rw [e] at q; cases q
    show (if own a then H a else Pr a) = _
    rw [if_neg ho]; exact e
  · obtain ⟨v, h1, a, o, rfl, h3, h4, h5, h6, h7⟩ := R.sl i _ e
    exact ⟨a, o, h1, by show (if own a then H a else Pr a) = _; rw [if_pos ⟨i, c, e, h1⟩]; exact h3, h4, h6⟩
  · show (if own a then H a else Pr a) = _
    have ho : ¬ own a := fun z => by
      obtain ⟨_, _, q, _⟩ := ownF a z
      rw [e] at q; cases q
    rw [if_neg ho]; exact (R.fz a o e).2
  · have e' : (if own a then H a else Pr a) = some o := e
    by_cases ho : own a
    · rw [if_pos ho] at e'; exact e'
    · rw [if_neg ho] at e'; exact R.pr _ _ e'
  · show (if own a then H a else Pr a) = _
    have ho : ¬ own a := fun z => by
      obtain ⟨_, _, _, _, q⟩ := ownF a z
      exact q n e
    rw [if_neg ho]; exact (R.of n a e).2
  · show (if own P.P then H P.P else Pr P.P) = _
    have ho : ¬ own P.P := fun ⟨i, c, e1, e2⟩ => by
      obtain ⟨v, h1, a2, o, rfl, h3, h4, _⟩ := R.sl i _ e1
      rw [e2] at h1; cases h1
      obtain ⟨⟨ps, q, _⟩, _⟩ := R.tab P hP
      exact h4.ntbl ps (Option.some.inj (h3.symm.trans q))
    rw [if_neg ho]; exact (R.tab P hP).2.2
  · have pn : ∀ a, (if own a then H a else Pr a) = none → Pr a = none := fun a e => by
      by_cases ho : own a
      · exact (ownF a ho).choose_spec.2.2.1
      · rw [if_neg ho] at e; exact e
    refine ⟨R.len.trans hσ.1.symm, R'.lkh, fun a o e => ⟨(R'.fz a o e).1, pn a (R'.fz a o e).2⟩, fun a o e => ?_, R'.plen, R'.ob, fun n a e => ⟨(R'.of n a e).1, pn a (R'.of n a e).2⟩, R'.pnd, fun i s e => ?_, fun i j a c c' e1 e2 e3 e4 => ?_, fun P hP => ⟨(R'.tab P hP).1, (R'.tab P hP).2.1, pn P.P (R'.tab P hP).2.2⟩⟩
    · refine R'.pr a o ?_
      have ho : ¬ own a := fun z => by
        obtain ⟨_, _, _, q, _⟩ := ownF a z
        rw [e] at q; cases q
      show (if own a then H a else Pr a) = _
      rw [if_neg ho]; exact e
    · obtain ⟨v, h1, h2⟩ := R.sl i s e
      refine ⟨v, (hσ.2 i s e).trans h1, ?_⟩
      cases s with
      | sh d => exact h2.le l pf
      | own c =>
        obtain ⟨a, o, rfl, h3, h4, h5, h6, h7⟩ := h2
        have ho : own a := ⟨i, c, e, h1⟩
        have hP : (if own a then H a else Pr a) = some o := by rw [if_pos ho]; exact h3
        refine ⟨a, o, rfl, R'.pr a o hP, h4.le l pf, ?_, h6, fun n q => ?_⟩
        · cases q : F' a with
          | none => rfl
          | some u =>
            have := (R'.fz _ _ q).2
            have z : (if own a then H a else Pr a) = none := this
            rw [hP] at z; cases z
        · have := (R'.of n a q).2
          have z : (if own a then H a else Pr a) = none := this
          rw [hP] at z; cases z
    · rw [hσ.2 i _ e1] at e3
      rw [hσ.2 j _ e2] at e4
      exact R.inj i j a c c' e1 e2 e3 e4
/-- all but the code tables stays -/
def ExtP (tb : List Tb) (H H' : Hp) : Prop := ∀ b o, H b = some o → (∀ t ∈ tb, b ≠ t.P) → H' b = some o
theorem Rep.extP {H' : Hp} (R : Rep K cA Lk φ F Pr w σ H) (x : ExtP cA.tb H H') (ht : ∀ t ∈ cA.tb, TabL H' t) : Rep K cA Lk φ F Pr w σ H' := by
  have nF : ∀ a o, F a = some o → ∀ t ∈ cA.tb, a ≠ t.P := fun a o e t h z => by rw [z, (R.tab t h).2.1] at e; cases e
  have nPr : ∀ a o, Pr a = some o → ∀ t ∈ cA.tb, a ≠ t.P := fun a o e t h z => by rw [z, (R.tab t h).2.2] at e; cases e
  have nt : ∀ a o, H a = some o → (∀ ps, o ≠ .tbl ps) → ∀ t ∈ cA.tb, a ≠ t.P := fun a o e n t h z => by
    obtain ⟨⟨ps, q, _⟩, _⟩ := R.tab t h
    rw [z, q] at e; cases e; exact n ps rfl
  have fz' : ∀ a o, Fz Lk H a o → (∀ t ∈ cA.tb, a ≠ t.P) → Fz Lk H' a o := fun a o h n => by
    rcases h with ⟨h1, h2⟩ | ⟨h0, od, h1, h2⟩
    · exact .inl ⟨h1, x a o h2 n⟩
    · exact .inr ⟨h0, od, h1, x a _ h2 n⟩
  refine ⟨R.len, fun a od e => ?_, fun a o e => ⟨fz' a o (R.fz a o e).1 (nF a o e), (R.fz a o e).2⟩, fun a o e => x a o (R.pr a o e) (nPr a o e), R.plen, fun n a o e1 e2 => ?_, R.of, R.pnd, fun i s e => ?_, R.inj, fun t h => ⟨ht t h, (R.tab t h).2⟩⟩
  · have q := R.lkh a od e
    exact x a _ q (nt a _ q fun ps z => nomatch z)
  · obtain ⟨u, q⟩ := R.obSome e1
    exact (R.ob n a o e1 e2).step (Le.refl _) (Pf.refl _) (fun z => z) ((x a u q (nt a u q fun ps z => (R.obNt e1).1 ps (by rw [q, z]))).trans q.symm)
  · obtain ⟨v, h1, h2⟩ := R.sl i s e
    refine ⟨v, h1, ?_⟩
    cases s with
    | sh d => exact h2
    | own c =>
      obtain ⟨a, o, rfl, h3, h4, h5⟩ := h2
      exact ⟨a, o, rfl, x a o h3 (nt a o h3 h4.ntbl), h4, h5⟩
end
end Rf
set_option maxHeartbeats 1000000
/-! Rf3: what an expression means, and how a meaning is read over the abstract heap. -/
namespace Rf
open PySem L2

inductive R where
  | sh (d : D) | own (d : D) | bor (i : Nat)
structure Exn where
  cls : Str
  row : Option D
inductive Res (α : Type) where
  | ok (a : α) (w : W) | ex (x : Exn) (w : W) | no
abbrev ME := W → Res R
abbrev MT := W → Res Bool
abbrev MA := W → Res (List R)
def Res.bind {α β : Type} : Res α → (α → W → Res β) → Res β
  | .ok a w, f => f a w
  | .ex x w, _ => .ex x w
  | .no, _ => .no
/-- a container of the store, as data -/
def deref (w : W) : D → D
  | .obj n => match w.st[n]? with
    | some (.lst xs) => .lst xs
    | some (.dct t kvs) => .dct t kvs
    | _ => .obj n
  | d => d
/-- the data of a result, as it stands in w -/
def R.d (w : W) : R → Option D
  | .sh d => some (deref w d)
  | .own d => some d
  | .bor i => match w.env[i]? with
    | some (some (.sh d)) => some (deref w d)
    | some (some (.own d)) => some d
    | _ => none
/-- what stands for a result -/
def RV (K : PySem.W.Frag) (φ : List Addr) (F Pr Pr2 : Hp) (σ : St) (v : V) : R → Prop
  | .sh d => Sh K φ F v d
  | .own c => ∃ p o, v = .ref p ∧ Pr p = none ∧ Pr2 p = some o ∧ CR K φ F o c
  | .bor i => σ[i]? = some (some v)
theorem RV.le {K : PySem.W.Frag} {φ φ' : List Addr} {F F' Pr Pr2 Pr3 : Hp} {σ : St} {v : V} {r : R} (l : Le F F') (pf : Pf φ φ') (lp : Le Pr2 Pr3) (h : RV K φ F Pr Pr2 σ v r) : RV K φ' F' Pr Pr3 σ v r := by
  cases r with
  | sh d => exact Sh.le l pf h
  | own c => obtain ⟨p, o, h1, h2, h3, h4⟩ := h; exact ⟨p, o, h1, h2, lp _ _ h3, h4.le l pf⟩
  | bor i => exact h
/-- readable now -/
def Rdv (K : PySem.W.Frag) (Lk : Addr → Option (Obj × HO)) (φ : List Addr) (F H : Hp) (v : V) (d : D) : Prop := Sh K φ F v d ∨ ∃ a o, v = .ref a ∧ Fz Lk H a o ∧ CR K φ F o d
def RVs (K : PySem.W.Frag) (φ : List Addr) (F Pr Pr2 : Hp) (σ : St) (vs : List V) (rs : List R) : Prop := vs.length = rs.length ∧ ∀ (i : Nat) v r, vs[i]? = some v → rs[i]? = some r → RV K φ F Pr Pr2 σ v r
def Rdvs (K : PySem.W.Frag) (Lk : Addr → Option (Obj × HO)) (φ : List Addr) (F H : Hp) (vs : List V) (ds : List D) : Prop := vs.length = ds.length ∧ ∀ (i : Nat) v d, vs[i]? = some v → ds[i]? = some d → Rdv K Lk φ F H v d

section
variable {K : PySem.W.Frag} {cA : CA} {Lk : Addr → Option (Obj × HO)} {φ φ' : List Addr} {F F' Pr Pr' Pr2 H : Hp} {w : W} {σ : St} {v : V} {d : D} {r : R} {vs : List V} {ds : List D} {rs : List R}
theorem Rep.weak (R : Rep K cA Lk φ F Pr2 w σ H) (l : Le Pr Pr2) : Rep K cA Lk φ F Pr w σ H := by
  have pn : ∀ a, Pr2 a = none → Pr a = none := fun a e => by
    cases q : Pr a with
    | none => rfl
    | some o => rw [l _ _ q] at e; cases e
  refine ⟨R.len, R.lkh, fun b u e => ⟨(R.fz _ _ e).1, pn _ (R.fz _ _ e).2⟩, fun b u e => R.pr _ _ (l _ _ e), R.plen, R.ob, fun n b e => ⟨(R.of n b e).1, pn _ (R.of n b e).2⟩, R.pnd, fun i s e => ?_, R.inj, fun P hP => ⟨(R.tab P hP).1, (R.tab P hP).2.1, pn P.P (R.tab P hP).2.2⟩⟩
  obtain ⟨v, h1, h2⟩ := R.sl i s e
  refine ⟨v, h1, ?_⟩
  cases s with
  | sh d => exact h2
  | own c =>
    obtain ⟨a, u, rfl, h3, h4, h5, h6, h7⟩ := h2
    exact ⟨a, u, rfl, h3, h4, h5, pn _ h6, h7⟩
theorem rdv_deref (R : Rep K cA Lk φ F Pr2 w σ H) (h : Sh K φ F v d) : Rdv K Lk φ F H v (deref w d) := by
  cases d with
  | obj n =>
    obtain ⟨a, rfl, e⟩ := h.obj_d
    have hn : n < w.st.length := by rw [← R.plen]; exact (List.getElem?_eq_some_iff.mp e).1
    have q := R.ob n a _ e (List.getElem?_eq_getElem hn)
    show Rdv K Lk φ F H (.ref a) (match w.st[n]? with
      | some (.lst xs) => .lst xs
      | some (.dct t kvs) => .dct t kvs
      | _ => .obj n)
    rw [List.getElem?_eq_getElem hn]
    generalize w.st[n] = ob at q
    cases ob with
    | ins C fs => exact .inl h
    | lst xs => obtain ⟨ho, h1, h0, h2⟩ := q; exact .inr ⟨a, ho, rfl, .inl ⟨h0, h2⟩, h1⟩
    | dct t xs => obtain ⟨ho, h1, h2, _⟩ := q; exact .inr ⟨a, ho, rfl, h2, h1⟩
  | _ => exact .inl h
theorem rdv_of (R : Rep K cA Lk φ F Pr2 w σ H) (h : RV K φ F Pr Pr2 σ v r) (e : r.d w = some d) : Rdv K Lk φ F H v d := by
  cases r with
  | sh d' => cases e; exact rdv_deref R h
  | own c => cases e; obtain ⟨p, o, h1, h2, h3, h4⟩ := h; exact .inr ⟨p, o, h1, .inl ⟨R.lkAt (R.pr _ _ h3) h4.nofrz, R.pr _ _ h3⟩, h4⟩
  | bor i =>
    have e' : (match w.env[i]? with
      | some (some (.sh d)) => some (deref w d)
      | some (some (.own d)) => some d
      | _ => none) = some d := e
    have h' : σ[i]? = some (some v) := h
    cases q : w.env[i]? with
    | none => rw [q] at e'; cases e'
    | some s =>
      rw [q] at e'
      cases s with
      | none => cases e'
      | some s =>
        obtain ⟨v', g1, g2⟩ := R.sl i s q
        rw [h'] at g1; cases g1
        cases s with
        | sh d' => cases e'; exact rdv_deref R g2
        | own c => cases e'; obtain ⟨a, o, h1, h2, h3, _⟩ := g2; exact .inr ⟨a, o, h1, .inl ⟨R.lkAt h2 h3.nofrz, h2⟩, h3⟩
theorem Rdv.lst (h : Rdv K Lk φ F H v (.lst ds)) (R : Rep K cA Lk φ F Pr w σ H) : ∃ a xs, v = .ref a ∧ SqL K H a xs ∧ Shs K φ F xs ds := by
  rcases h with h | ⟨a, o, rfl, h1, h2⟩
  · obtain ⟨a, vs, rfl, h1, h2⟩ := h.lst_d
    exact ⟨a, vs, rfl, R.sqL h1, h2⟩
  · cases h2 with
    | lst h2 => exact ⟨a, _, rfl, .inl h1.rd, h2⟩
/-- a list that stands plain -/
theorem Rdv.lstP (h : Rdv K Lk φ F H v (.lst ds)) (R : Rep K cA Lk φ F Pr w σ H) : ∃ a xs, v = .ref a ∧ H a = some (.lst xs) ∧ Shs K φ F xs ds := by
  rcases h with h | ⟨a, o, rfl, h1, h2⟩
  · obtain ⟨a, vs, rfl, h1, h2⟩ := h.lst_d
    exact ⟨a, vs, rfl, (R.fz _ _ h1).1.lst, h2⟩
  · cases h2 with
    | lst h2 => exact ⟨a, _, rfl, h1.lst, h2⟩
theorem Rdv.tup (h : Rdv K Lk φ F H v (.tup ds)) (R : Rep K cA Lk φ F Pr w σ H) : ∃ a xs, v = .ref a ∧ SqT K H a xs ∧ Shs K φ F xs ds := by
  rcases h with h | ⟨a, o, rfl, h1, h2⟩
  · obtain ⟨a, vs, rfl, h1, h2⟩ := h.tup_d
    exact ⟨a, vs, rfl, R.sqT h1, h2⟩
  · cases h2
theorem Rdv.int {i : Int} (h : Rdv K Lk φ F H v (.int i)) : v = .int i := by
  rcases h with h | ⟨a, o, rfl, h1, h2⟩
  · exact h.int_d
  · cases h2
theorem Rdv.str {x : Str} (h : Rdv K Lk φ F H v (.str x)) : v = .str x := by
  rcases h with h | ⟨a, o, rfl, h1, h2⟩
  · exact h.str_d
  · cases h2
theorem Rdv.bl {b : Bool} (h : Rdv K Lk φ F H v (.bl b)) : v = .bl b := by
  rcases h with h | ⟨a, o, rfl, h1, h2⟩
  · exact h.bl_d
  · cases h2
theorem Rdv.non (h : Rdv K Lk φ F H v .non) : v = .non := by
  rcases h with h | ⟨a, o, rfl, h1, h2⟩
  · exact h.non_d
  · cases h2
theorem Rdv.obj {n : Nat} (h : Rdv K Lk φ F H v (.obj n)) : ∃ a, v = .ref a ∧ φ[n]? = some a := by
  rcases h with h | ⟨a, o, rfl, h1, h2⟩
  · exact h.obj_d
  · cases h2
theorem Rdv.dct {kvs : List (D × D)} (h : Rdv K Lk φ F H v (.dct false kvs)) (R : Rep K cA Lk φ F Pr w σ H) : ∃ a ks, v = .ref a ∧ Rd H a (.dK ks) ∧ ShK K φ F ks kvs := by
  rcases h with h | ⟨a, o, rfl, h1, h2⟩
  · obtain ⟨a, ks, rfl, h1, h2⟩ := h.dct_d
    exact ⟨a, ks, rfl, (R.fz _ _ h1).1.rd, h2⟩
  · cases h2 with
    | dK h2 => exact ⟨a, _, rfl, h1.rd, h2⟩
theorem Rdv.dctT {kvs : List (D × D)} (h : Rdv K Lk φ F H v (.dct true kvs)) (R : Rep K cA Lk φ F Pr w σ H) : ∃ a ks, v = .ref a ∧ Rd H a (.dT ks) ∧ ShT K φ F ks kvs := by
  rcases h with h | ⟨a, o, rfl, h1, h2⟩
  · obtain ⟨a, ks, rfl, h1, h2⟩ := h.dctT_d
    exact ⟨a, ks, rfl, (R.fz _ _ h1).1.rd, h2⟩
  · cases h2 with
    | dT h2 => exact ⟨a, _, rfl, h1.rd, h2⟩
theorem RVs.nil : RVs K φ F Pr Pr2 σ [] [] := ⟨rfl, fun i v d h => by simp at h⟩
theorem RVs.cons (h : RV K φ F Pr Pr2 σ v r) (t : RVs K φ F Pr Pr2 σ vs rs) : RVs K φ F Pr Pr2 σ (v :: vs) (r :: rs) := by
  refine ⟨by simp [t.1], fun i w e h1 h2 => ?_⟩
  cases i with
  | zero => simp at h1 h2; subst h1 h2; exact h
  | succ i => simp at h1 h2; exact t.2 i w e h1 h2
theorem RVs.le {Pr3 : Hp} (l : Le F F') (pf : Pf φ φ') (lp : Le Pr2 Pr3) (h : RVs K φ F Pr Pr2 σ vs rs) : RVs K φ' F' Pr Pr3 σ vs rs := ⟨h.1, fun i v r a b => (h.2 i v r a b).le l pf lp⟩
end

/-! ### readings -/
/-- what is told of an exception in flight -/
def XR (cA : CA) (K : PySem.W.Frag) (φ : List Addr) (F H : Hp) (x : Exn) (cls : Value) (dx : Option Addr) : Prop :=
  cls = .ref (cA x.cls) ∧ match x.row with
    | none => dx = none
    | some d => ∃ e v, dx = some e ∧ H e = some (.xd [("row", v)]) ∧ Sh K φ F v d
section
variable (K : PySem.W.Frag) (cA : CA) (Wd : WX)
def tM (m : ME) : TE := fun σ H Q => ∃ Lk φ F Pr w, Rep K cA Lk φ F Pr w σ H ∧ match m w with
  | .ok r w' => ∀ v H' φ' F' Pr2, Le F F' → Pf φ φ' → Le Pr Pr2 → Rep K cA Lk φ' F' Pr2 w' σ H' → RV K φ' F' Pr Pr2 σ v r → Q v H'
  | .ex x w' => ∀ cls dx H' φ' F' Pr2, Le F F' → Pf φ φ' → Le Pr Pr2 → Rep K cA Lk φ' F' Pr2 w' σ H' → XR cA K φ' F' H' x cls dx → Wd cls dx σ H'
  | .no => False
def tMT (m : MT) : TT := fun σ H Q => ∃ Lk φ F Pr w, Rep K cA Lk φ F Pr w σ H ∧ match m w with
  | .ok r w' => ∀ H' φ' F' Pr2, Le F F' → Pf φ φ' → Le Pr Pr2 → Rep K cA Lk φ' F' Pr2 w' σ H' → Q r H'
  | .ex x w' => ∀ cls dx H' φ' F' Pr2, Le F F' → Pf φ φ' → Le Pr Pr2 → Rep K cA Lk φ' F' Pr2 w' σ H' → XR cA K φ' F' H' x cls dx → Wd cls dx σ H'
  | .no => False
def tMA (m : MA) : TA := fun σ H Q => ∃ Lk φ F Pr w, Rep K cA Lk φ F Pr w σ H ∧ match m w with
  | .ok rs w' => ∀ vs H' φ' F' Pr2, Le F F' → Pf φ φ' → Le Pr Pr2 → Rep K cA Lk φ' F' Pr2 w' σ H' → RVs K φ' F' Pr Pr2 σ vs rs → Q vs H'
  | .ex x w' => ∀ cls dx H' φ' F' Pr2, Le F F' → Pf φ φ' → Le Pr Pr2 → Rep K cA Lk φ' F' Pr2 w' σ H' → XR cA K φ' F' H' x cls dx → Wd cls dx σ H'
  | .no => False
end
/-- a stronger reading serves -/
theorem pe_imp {X : Cx} {e : Expr} {t t' : TE} (h : PE X e t) (i : ∀ σ H Q, t' σ H Q → t σ H Q) : PE X e t' := ⟨fun pins s σ H Q I q => h.run pins s σ H Q I (i σ H Q q)⟩
theorem pt_imp {X : Cx} {e : Expr} {t t' : TT} (h : PT X e t) (i : ∀ σ H Q, t' σ H Q → t σ H Q) : PT X e t' := ⟨fun pins s σ H Q I q => h.run pins s σ H Q I (i σ H Q q)⟩
theorem pw_imp {X : Cx} {e : Expr} {t t' : TT} (h : PW X e t) (i : ∀ σ H Q, t' σ H Q → t σ H Q) : PW X e t' := ⟨fun wh pins s σ H Q I q => h.run wh pins s σ H Q I (i σ H Q q)⟩
theorem pa_imp {X : Cx} {e : List Expr} {t t' : TA} (h : PA X e t) (i : ∀ σ H Q, t' σ H Q → t σ H Q) : PA X e t' := ⟨fun ps pins s σ H Q I q => h.run ps pins s σ H Q I (i σ H Q q)⟩
theorem ps_imp {X : Cx} {e : Stmt} {t t' : TS} (h : PS X e t) (i : ∀ D σ H, t' D σ H → t D σ H) : PS X e t' := ⟨fun pins s σ H Q I q => h.run pins s σ H Q I (i Q σ H q)⟩
theorem pss_imp {X : Cx} {e : List Stmt} {t t' : TS} (h : PSs X e t) (i : ∀ D σ H, t' D σ H → t D σ H) : PSs X e t' := ⟨fun pins s σ H Q I q => h.run pins s σ H Q I (i Q σ H q)⟩

/-! ### two values, one value, several values -/
def eBin (g : D → D → Option R) (ma mb : ME) : ME := fun w => (ma w).bind fun r1 w1 => (mb w1).bind fun r2 w2 => match r1.d w2, r2.d w2 with
  | some d1, some d2 => match g d1 d2 with
    | some r => .ok r w2
    | none => .no
  | _, _ => .no
def eUn (g : D → Option R) (ma : ME) : ME := fun w => (ma w).bind fun r1 w1 => match r1.d w1 with
  | some d1 => match g d1 with
    | some r => .ok r w1
    | none => .no
  | none => .no
def dAll (w : W) : List R → Option (List D)
  | [] => some []
  | r :: rs => match r.d w, dAll w rs with
    | some d, some ds => some (d :: ds)
    | _, _ => none
def eCall (g : List D → Option R) (ma : MA) : ME := fun w => (ma w).bind fun rs w1 => match dAll w1 rs with
  | some ds => match g ds with
    | some r => .ok r w1
    | none => .no
  | none => .no
def aNil : MA := fun w => .ok [] w
def aCons (ma : ME) (mb : MA) : MA := fun w => (ma w).bind fun r w1 => (mb w1).bind fun rs w2 => .ok (r :: rs) w2

section
variable (K : PySem.W.Frag) (cA : CA)
/-- the rule r does to values what g does to data -/
def Fit2 (r : R2) (g : D → D → Option R) : Prop := ∀ (Lk : Addr → Option (Obj × HO)) (φ : List Addr) (F Pr : Hp) (w : W) (σ : St) (H : Hp) (v1 v2 : V) (d1 d2 : D) (rr : R) (Q : VK), Rep K cA Lk φ F Pr w σ H → Rdv K Lk φ F H v1 d1 → Rdv K Lk φ F H v2 d2 → g d1 d2 = some rr →
  (∀ v H' F' Pr2, Le F F' → Le Pr Pr2 → Rep K cA Lk φ F' Pr2 w σ H' → RV K φ F' Pr Pr2 σ v rr → Q v H') → r v1 v2 H Q
def Fit1 (r : V → Hp → VK → Prop) (g : D → Option R) : Prop := ∀ (Lk : Addr → Option (Obj × HO)) (φ : List Addr) (F Pr : Hp) (w : W) (σ : St) (H : Hp) (v1 : V) (d1 : D) (rr : R) (Q : VK), Rep K cA Lk φ F Pr w σ H → Rdv K Lk φ F H v1 d1 → g d1 = some rr →
  (∀ v H' F' Pr2, Le F F' → Le Pr Pr2 → Rep K cA Lk φ F' Pr2 w σ H' → RV K φ F' Pr Pr2 σ v rr → Q v H') → r v1 H Q
def FitN (r : List V → Hp → VK → Prop) (g : List D → Option R) : Prop := ∀ (Lk : Addr → Option (Obj × HO)) (φ : List Addr) (F Pr : Hp) (w : W) (σ : St) (H : Hp) (vs : List V) (ds : List D) (rr : R) (Q : VK), Rep K cA Lk φ F Pr w σ H → Rdvs K Lk φ F H vs ds → g ds = some rr →
  (∀ v H' F' Pr2, Le F F' → Le Pr Pr2 → Rep K cA Lk φ F' Pr2 w σ H' → RV K φ F' Pr Pr2 σ v rr → Q v H') → r vs H Q
end
section
variable {K : PySem.W.Frag} {cA : CA} {Wd : WX} {σ : St} {H : Hp} {Q : VK} {ma mb : ME}
/-- from a narrower protected part to a wider one -/
theorem RV.narrow {φ : List Addr} {F Pr Pr1 Pr2 : Hp} {v : V} {r : R} (l : Le Pr Pr1) (h : RV K φ F Pr1 Pr2 σ v r) : RV K φ F Pr Pr2 σ v r := by
  cases r with
  | sh d => exact h
  | own c =>
    obtain ⟨p, o, h1, h2, h3, h4⟩ := h
    refine ⟨p, o, h1, ?_, h3, h4⟩
    cases q : Pr p with
    | none => rfl
    | some u => rw [l _ _ q] at h2; cases h2
  | bor i => exact h
theorem rd_bin {r : R2} {g : D → D → Option R} (ft : Fit2 K cA r g) (h : tM K cA Wd (eBin g ma mb) σ H Q) : tOp r (tM K cA Wd ma) (tM K cA Wd mb) σ H Q := by
  obtain ⟨Lk, φ, F, Pr, w, Rp, h⟩ := h
  unfold eBin at h
  refine ⟨Lk, φ, F, Pr, w, Rp, ?_⟩
  cases e1 : ma w with
  | no => simp only [e1, Res.bind] at h
  | ex x w1 => simp only [e1, Res.bind] at h; exact h
  | ok r1 w1 =>
    simp only [e1, Res.bind] at h
    intro v1 H1 φ1 F1 Pr1 l1 p1 q1 Rp1 rv1
    refine ⟨Lk, φ1, F1, Pr1, w1, Rp1, ?_⟩
    cases e2 : mb w1 with
    | no => simp only [e2] at h
    | ex x w2 =>
      simp only [e2] at h
      exact fun cls dx H' φ' F' Pr2 l2 p2 q2 Rp2 xr => h cls dx H' φ' F' Pr2 (l1.trans l2) (p1.trans p2) (q1.trans q2) Rp2 xr
    | ok r2 w2 =>
      simp only [e2] at h
      intro v2 H2 φ2 F2 Pr2 l2 p2 q2 Rp2 rv2
      cases g1 : r1.d w2 with
      | none => simp only [g1] at h
      | some d1 =>
        cases g2 : r2.d w2 with
        | none => simp only [g1, g2] at h
        | some d2 =>
          simp only [g1, g2] at h
          cases g3 : g d1 d2 with
          | none => simp only [g3] at h
          | some rr =>
            simp only [g3] at h
            exact ft Lk φ2 F2 Pr2 w2 σ H2 v1 v2 d1 d2 rr Q Rp2 (rdv_of Rp2 (rv1.le l2 p2 q2) g1) (rdv_of Rp2 rv2 g2) g3 fun v H3 F3 Pr3 l3 q3 Rp3 rv3 =>
              h v H3 φ2 F3 Pr3 ((l1.trans l2).trans l3) (p1.trans p2) ((q1.trans q2).trans q3) Rp3 (rv3.narrow (q1.trans q2))
theorem rd_un {r : V → Hp → VK → Prop} {g : D → Option R} (ft : Fit1 K cA r g) (h : tM K cA Wd (eUn g ma) σ H Q) : tUn r (tM K cA Wd ma) σ H Q := by
  obtain ⟨Lk, φ, F, Pr, w, Rp, h⟩ := h
  unfold eUn at h
  refine ⟨Lk, φ, F, Pr, w, Rp, ?_⟩
  cases e1 : ma w with
  | no => simp only [e1, Res.bind] at h
  | ex x w1 => simp only [e1, Res.bind] at h; exact h
  | ok r1 w1 =>
    simp only [e1, Res.bind] at h
    intro v1 H1 φ1 F1 Pr1 l1 p1 q1 Rp1 rv1
    cases g1 : r1.d w1 with
    | none => simp only [g1] at h
    | some d1 =>
      simp only [g1] at h
      cases g3 : g d1 with
      | none => simp only [g3] at h
      | some rr =>
        simp only [g3] at h
        exact ft Lk φ1 F1 Pr1 w1 σ H1 v1 d1 rr Q Rp1 (rdv_of Rp1 rv1 g1) g3 fun v H3 F3 Pr3 l3 q3 Rp3 rv3 =>
          h v H3 φ1 F3 Pr3 (l1.trans l3) p1 (q1.trans q3) Rp3 (rv3.narrow q1)
theorem rdvs_of {Lk : Addr → Option (Obj × HO)} {φ : List Addr} {F Pr Pr2 : Hp} {w : W} (Rp : Rep K cA Lk φ F Pr2 w σ H) : ∀ {vs : List V} {rs : List R} {ds : List D}, RVs K φ F Pr Pr2 σ vs rs → dAll w rs = some ds → Rdvs K Lk φ F H vs ds
  | [], [], ds, _, e => by
    simp [dAll] at e; subst e
    exact ⟨rfl, fun i v d h => by simp at h⟩
  | [], _ :: _, _, h, _ => by have := h.1; simp at this
  | _ :: _, [], _, h, _ => by have := h.1; simp at this
  | v :: vs, r :: rs, ds, h, e => by
    simp only [dAll] at e
    cases g1 : r.d w with
    | none => rw [g1] at e; cases e
    | some d =>
      cases g2 : dAll w rs with
      | none => rw [g1, g2] at e; cases e
      | some ds' =>
        rw [g1, g2] at e; cases e
        have t : RVs K φ F Pr Pr2 σ vs rs := ⟨by simpa using h.1, fun i v d a b => h.2 (i + 1) v d (by simpa using a) (by simpa using b)⟩
        have ih := rdvs_of Rp t g2
        refine ⟨by simp [ih.1], fun i v' d' a b => ?_⟩
        cases i with
        | zero => simp at a b; subst a b; exact rdv_of Rp (h.2 0 _ _ rfl rfl) g1
        | succ i => simp at a b; exact ih.2 i v' d' a b
theorem rd_call {r : List V → Hp → VK → Prop} {g : List D → Option R} {ms : MA} (ft : FitN K cA r g) (h : tM K cA Wd (eCall g ms) σ H Q) : tCB r (tMA K cA Wd ms) σ H Q := by
  obtain ⟨Lk, φ, F, Pr, w, Rp, h⟩ := h
  unfold eCall at h
  refine ⟨Lk, φ, F, Pr, w, Rp, ?_⟩
  cases e1 : ms w with
  | no => simp only [e1, Res.bind] at h
  | ex x w1 => simp only [e1, Res.bind] at h; exact h
  | ok r1 w1 =>
    simp only [e1, Res.bind] at h
    intro v1 H1 φ1 F1 Pr1 l1 p1 q1 Rp1 rv1
    cases g1 : dAll w1 r1 with
    | none => simp only [g1] at h
    | some d1 =>
      simp only [g1] at h
      cases g3 : g d1 with
      | none => simp only [g3] at h
      | some rr =>
        simp only [g3] at h
        exact ft Lk φ1 F1 Pr1 w1 σ H1 v1 d1 rr Q Rp1 (rdvs_of Rp1 rv1 g1) g3 fun v H3 F3 Pr3 l3 q3 Rp3 rv3 =>
          h v H3 φ1 F3 Pr3 (l1.trans l3) p1 (q1.trans q3) Rp3 (rv3.narrow q1)
theorem rd_nil {Q : List V → Hp → Prop} (h : tMA K cA Wd aNil σ H Q) : tNil σ H Q := by
  obtain ⟨Lk, φ, F, Pr, w, Rp, h⟩ := h
  exact h [] H φ F Pr (Le.refl _) (Pf.refl _) (Le.refl _) Rp .nil
theorem rd_cons {Q : List V → Hp → Prop} {ms : MA} (h : tMA K cA Wd (aCons ma ms) σ H Q) : tCons (tM K cA Wd ma) (tMA K cA Wd ms) σ H Q := by
  obtain ⟨Lk, φ, F, Pr, w, Rp, h⟩ := h
  unfold aCons at h
  refine ⟨Lk, φ, F, Pr, w, Rp, ?_⟩
  cases e1 : ma w with
  | no => simp only [e1, Res.bind] at h
  | ex x w1 => simp only [e1, Res.bind] at h; exact h
  | ok r1 w1 =>
    simp only [e1, Res.bind] at h
    intro v1 H1 φ1 F1 Pr1 l1 p1 q1 Rp1 rv1
    refine ⟨Lk, φ1, F1, Pr1, w1, Rp1, ?_⟩
    cases e2 : ms w1 with
    | no => simp only [e2] at h
    | ex x w2 =>
      simp only [e2] at h
      exact fun cls dx H' φ' F' Pr2 l2 p2 q2 Rp2 xr => h cls dx H' φ' F' Pr2 (l1.trans l2) (p1.trans p2) (q1.trans q2) Rp2 xr
    | ok r2 w2 =>
      simp only [e2] at h
      intro v2 H2 φ2 F2 Pr2 l2 p2 q2 Rp2 rv2
      refine h (v1 :: v2) H2 φ2 F2 Pr2 (l1.trans l2) (p1.trans p2) (q1.trans q2) Rp2 (.cons (rv1.le l2 p2 q2) ⟨rv2.1, fun i v r a b => (rv2.2 i v r a b).narrow q1⟩)
end
end Rf
set_option maxHeartbeats 1000000
/-! Rf4: operators, comparisons, subscripts and slices, by data. -/
namespace Rf
open PySem L2
open PyProof.Rows hiding St

mutual
def D.py : D → PyData
  | .non => .none
  | .bl b => .bool b
  | .int i => .int i
  | .str x => .str x
  | .tup xs => .tuple (D.pys xs)
  | .lst xs => .list (D.pys xs)
  | .dct _ _ => .dict []
  | .obj _ => .dict []
  | .ext _ => .dict []
def D.pys : List D → List PyData
  | [] => []
  | d :: ds => D.py d :: D.pys ds
end
theorem D.pys_eq : ∀ ds : List D, D.pys ds = ds.map D.py
  | [] => rfl
  | d :: ds => by rw [D.pys, D.pys_eq ds, List.map_cons]
def shp (d : D) : Bool := SeqAt.shaped d.py
section
variable {K : PySem.W.Frag} {cA : CA} {Lk : Addr → Option (Obj × HO)} {φ : List Addr} {F Pr H : Hp} {w : W} {σ : L2.St} {v : V} {d : D}
theorem dpAll_of {vs : List V} {ds : List D} (hl : vs.length = ds.length) (h : ∀ (i : Nat) v d, vs[i]? = some v → ds[i]? = some d → Dp K H v d.py) : DpAll K H vs (D.pys ds) := by
  induction vs generalizing ds with
  | nil =>
    cases ds with
    | nil => exact .nil
    | cons d ds => simp at hl
  | cons v vs ih =>
    cases ds with
    | nil => simp at hl
    | cons d ds =>
      rw [D.pys]
      exact .cons (h 0 v d rfl rfl) (ih (by simpa using hl) fun i v' d' a b => h (i + 1) v' d' (by simpa using a) (by simpa using b))
theorem canLay_get : ∀ {ds : List D} {i : Nat} {d : D}, PyData.canLayAll0 (D.pys ds) = true → ds[i]? = some d → d.py.canLay0 = true
  | [], i, d, _, e => by simp at e
  | x :: xs, 0, d, h, e => by
    simp at e; subst e
    rw [D.pys, PyData.canLayAll0, Bool.and_eq_true] at h
    exact h.1
  | x :: xs, i + 1, d, h, e => by
    rw [D.pys, PyData.canLayAll0, Bool.and_eq_true] at h
    exact canLay_get h.2 (by simpa using e)
theorem sh_dp (R : Rep K cA Lk φ F Pr w σ H) (h : Sh K φ F v d) : d.py.canLay0 = true → Dp K H v d.py := by
  induction h with
  | non => exact fun _ => .non
  | bl b => exact fun _ => .bl b
  | int i => exact fun _ => .int i
  | str x => exact fun _ => .str x
  | tup h hl hs ih =>
    intro c
    rw [D.py] at c ⊢
    have c := (by simpa [PyData.canLay0] using c : PyData.canLayAll0 (D.pys _) = true)
    exact .tup (R.sqT h) (dpAll_of hl fun i v d a b => ih i v d a b (canLay_get c b))
  | lst h hl hs ih =>
    intro c
    rw [D.py] at c ⊢
    have c := (by simpa [PyData.canLay0] using c : PyData.canLayAll0 (D.pys _) = true)
    exact .lst (R.sqL h) (dpAll_of hl fun i v d a b => ih i v d a b (canLay_get c b))
  | dctK h hl hk hs ih => intro c; simp [D.py, PyData.canLay0] at c
  | dctT h hl hk hs ih => intro c; simp [D.py, PyData.canLay0] at c
  | obj h => intro c; simp [D.py, PyData.canLay0] at c
  | ext h hl hs ih => intro c; simp [D.py, PyData.canLay0] at c
theorem rdv_dp (R : Rep K cA Lk φ F Pr w σ H) (h : Rdv K Lk φ F H v d) (c : d.py.canLay0 = true) : Dp K H v d.py := by
  rcases h with h | ⟨a, o, rfl, h1, h2⟩
  · exact sh_dp R h c
  · cases h2 with
    | lst h2 =>
      rw [D.py] at c ⊢
      have c := (by simpa [PyData.canLay0] using c : PyData.canLayAll0 (D.pys _) = true)
      exact .lst (.inl h1.rd) (dpAll_of h2.1 fun i v d a b => sh_dp R (h2.2 i v d a b) (canLay_get c b))
    | dK h2 => simp [D.py, PyData.canLay0] at c
    | dT h2 => simp [D.py, PyData.canLay0] at c
theorem rdv_shp (R : Rep K cA Lk φ F Pr w σ H) (h : Rdv K Lk φ F H v d) (c : shp d = true) : Dp K H v d.py := rdv_dp R h (SeqAt.canLay_of_shaped c)
end

/-! ### small words for fitting -/
section
variable {K : PySem.W.Frag} {cA : CA}
theorem fit2_or {r r' : R2} {g g' : D → D → Option R} (h : Fit2 K cA r g) (h' : Fit2 K cA r' g') : Fit2 K cA (fun x y H Q => r x y H Q ∨ r' x y H Q) (fun a b => (g a b).or (g' a b)) := by
  intro Lk φ F Pr w σ H v1 v2 d1 d2 rr Q Rp h1 h2 e k
  have e : (g d1 d2).or (g' d1 d2) = some rr := e
  cases q : g d1 d2 with
  | some r1 => rw [q] at e; cases e; exact .inl (h Lk φ F Pr w σ H v1 v2 d1 d2 _ Q Rp h1 h2 q k)
  | none => rw [q] at e; exact .inr (h' Lk φ F Pr w σ H v1 v2 d1 d2 rr Q Rp h1 h2 e k)
theorem fitN_or {r r' : List V → Hp → VK → Prop} {g g' : List D → Option R} (h : FitN K cA r g) (h' : FitN K cA r' g') : FitN K cA (fun x H Q => r x H Q ∨ r' x H Q) (fun a => (g a).or (g' a)) := by
  intro Lk φ F Pr w σ H vs ds rr Q Rp h1 e k
  have e : (g ds).or (g' ds) = some rr := e
  cases q : g ds with
  | some r1 => rw [q] at e; cases e; exact .inl (h Lk φ F Pr w σ H vs ds _ Q Rp h1 q k)
  | none => rw [q] at e; exact .inr (h' Lk φ F Pr w σ H vs ds rr Q Rp h1 e k)
/-- a plain answer -/
theorem say {Lk : Addr → Option (Obj × HO)} {φ : List Addr} {F Pr : Hp} {w : W} {σ : L2.St} {H : Hp} {Q : VK} {rr : R} {v : V} {d : D} (Rp : Rep K cA Lk φ F Pr w σ H) (k : ∀ v H' F' Pr2, Le F F' → Le Pr Pr2 → Rep K cA Lk φ F' Pr2 w σ H' → RV K φ F' Pr Pr2 σ v rr → Q v H') (e : rr = .sh d) (h : Sh K φ F v d) : Q v H :=
  k v H F Pr (Le.refl _) (Le.refl _) Rp (by rw [e]; exact h)
/-- a new tuple -/
theorem sayTup {Lk : Addr → Option (Obj × HO)} {φ : List Addr} {F Pr : Hp} {w : W} {σ : L2.St} {H : Hp} {Q : VK} {rr : R} {xs : List V} {ds : List D} {p : Addr} (Rp : Rep K cA Lk φ F Pr w σ H) (k : ∀ v H' F' Pr2, Le F F' → Le Pr Pr2 → Rep K cA Lk φ F' Pr2 w σ H' → RV K φ F' Pr Pr2 σ v rr → Q v H') (hp : H p = none) (e : rr = .sh (.tup ds)) (h : Shs K φ F xs ds) : Q (.ref p) (upd H p (.tup xs)) := by
  have l : Le F (upd F p (.tup xs)) := Le.new (Rp.fresh hp).1
  refine k _ _ (upd F p (.tup xs)) Pr l (Le.refl _) (Rp.new hp) ?_
  rw [e]
  exact Sh.mk_tup (.inl upd_same) (h.le l (Pf.refl _))
/-- a new list -/
theorem sayLst {Lk : Addr → Option (Obj × HO)} {φ : List Addr} {F Pr : Hp} {w : W} {σ : L2.St} {H : Hp} {Q : VK} {rr : R} {xs : List V} {ds : List D} {p : Addr} (Rp : Rep K cA Lk φ F Pr w σ H) (k : ∀ v H' F' Pr2, Le F F' → Le Pr Pr2 → Rep K cA Lk φ F' Pr2 w σ H' → RV K φ F' Pr Pr2 σ v rr → Q v H') (hp : H p = none) (e : rr = .own (.lst ds)) (h : Shs K φ F xs ds) : Q (.ref p) (upd H p (.lst xs)) := by
  obtain ⟨fp, pp, np⟩ := Rp.fresh hp
  refine k _ _ F (upd Pr p (.lst xs)) (Le.refl _) (Le.new pp) (Rp.pend hp) ?_
  rw [e]
  exact ⟨p, _, rfl, pp, upd_same, .lst h⟩
theorem sayOwn {Lk : Addr → Option (Obj × HO)} {φ : List Addr} {F Pr : Hp} {w : W} {σ : L2.St} {H : Hp} {Q : VK} {rr : R} {o : HO} {c : D} {p : Addr} (Rp : Rep K cA Lk φ F Pr w σ H) (k : ∀ v H' F' Pr2, Le F F' → Le Pr Pr2 → Rep K cA Lk φ F' Pr2 w σ H' → RV K φ F' Pr Pr2 σ v rr → Q v H') (hp : H p = none) (e : rr = .own c) (h : CR K φ F o c) : Q (.ref p) (upd H p o) := by
  obtain ⟨fp, pp, np⟩ := Rp.fresh hp
  refine k _ _ F (upd Pr p o) (Le.refl _) (Le.new pp) (Rp.pend hp) ?_
  rw [e]
  exact ⟨p, _, rfl, pp, upd_same, h⟩
end

/-! ### arithmetic -/
def gI2 (C : Int → Int → Bool) (f : Int → Int → D) : D → D → Option R
  | .int i, .int j => if C i j then some (.sh (f i j)) else none
  | _, _ => none
def sizeOk (n : Nat) : Bool := Nat.ble n 16777216
theorem sizeOk_iff {n : Nat} : sizeOk n = true ↔ n ≤ 16777216 := by simp [sizeOk]
theorem sizeOk_le {n : Nat} (h : sizeOk n = true) : n ≤ sizeLine := by rw [sizeLine_eq]; exact sizeOk_iff.mp h
def gAdd : D → D → Option R
  | .int i, .int j => some (.sh (.int (i + j)))
  | .str x, .str y => if sizeOk (x.length + y.length) then some (.sh (.str (x ++ y))) else none
  | .lst xs, .lst ys => if sizeOk (xs.length + ys.length) then some (.own (.lst (xs ++ ys))) else none
  | .tup xs, .tup ys => if sizeOk (xs.length + ys.length) then some (.sh (.tup (xs ++ ys))) else none
  | _, _ => none
def gSub : D → D → Option R
  | .int i, .int j => some (.sh (.int (i - j)))
  | _, _ => none
/-- by natAbs: the kernel must not count down from a large number -/
def smallI (i : Int) : Bool := Nat.blt i.natAbs 18446744073709551616
def small63 (i : Int) : Bool := Nat.blt i.natAbs 9223372036854775808
def gMul : D → D → Option R
  | .int i, .int j => if smallI i || smallI j then some (.sh (.int (i * j))) else none
  | .lst xs, .int k => if small63 k && sizeOk (xs.length * k.toNat) then some (.own (.lst (List.replicate k.toNat xs).flatten)) else none
  | _, _ => none
def gDiv : D → D → Option R
  | .int i, .int j => if decide (j ≠ 0) && Nat.blt j.natAbs 1073741824 then some (.sh (.int (i.fdiv j))) else none
  | _, _ => none
def gMod : D → D → Option R
  | .int i, .int j => if decide (j ≠ 0) then some (.sh (.int (i.fmod j))) else none
  | _, _ => none
def gPow : D → D → Option R
  | .int i, .int j => if decide (0 ≤ j) && decide (j ≤ 1000000) && Nat.blt i.natAbs 18446744073709551616 then some (.sh (.int (i ^ j.toNat))) else none
  | _, _ => none
section
variable {K : PySem.W.Frag} {cA : CA}
def rAddAll (K : PySem.W.Frag) : R2 := fun x y H Q => rI0 (fun i j => .int (i + j)) x y H Q ∨ (∃ i j, x = .str i ∧ y = .str j ∧ i.length + j.length ≤ sizeLine ∧ Q (.str (i ++ j)) H) ∨ rCat x y H Q ∨ rCatA K x y H Q
theorem op_addAll {X : Cx} : OpR X (binaryOp .Add) (rAddAll X.K) := op_add.or (op_add_str.or (op_cat.or op_catA))
theorem fit_add : Fit2 K cA (rAddAll K) gAdd := by
  intro Lk φ F Pr w σ H v1 v2 d1 d2 rr Q Rp h1 h2 e k
  cases d1 <;> cases d2 <;> simp only [gAdd] at e <;> try (cases e; done)
  · cases e
    rw [h1.int, h2.int]
    exact .inl ⟨_, _, rfl, rfl, say Rp k rfl (.int _)⟩
  · split at e
    · rename_i hz
      cases e
      rw [h1.str, h2.str]
      exact .inr (.inl ⟨_, _, rfl, rfl, sizeOk_le hz, say Rp k rfl (.str _)⟩)
    · cases e
  · split at e
    · rename_i hz
      cases e
      obtain ⟨a, xs, rfl, ha, sa⟩ := h1.tup Rp
      obtain ⟨b, ys, rfl, hb, sb⟩ := h2.tup Rp
      refine .inr (.inr (.inr ⟨a, b, xs, ys, rfl, rfl, ha, hb, by rw [sa.1, sb.1]; exact sizeOk_le hz, fun z => ?_, fun _ z => ?_, fun _ _ p hp => sayTup Rp k hp rfl (sa.append sb)⟩))
      · subst z
        have z2 := sa.nil_l
        subst z2
        rcases h2 with h2 | ⟨_, _, _, _, q⟩
        · exact say Rp k rfl h2
        · cases q
      · subst z
        have z2 := sb.nil_l
        subst z2
        rcases h1 with h1 | ⟨_, _, _, _, q⟩
        · exact say Rp k (by rw [List.append_nil]) h1
        · cases q
    · cases e
  · split at e
    · rename_i hz
      cases e
      obtain ⟨a, xs, rfl, ha, sa⟩ := h1.lstP Rp
      obtain ⟨b, ys, rfl, hb, sb⟩ := h2.lstP Rp
      exact .inr (.inr (.inl ⟨a, b, xs, ys, rfl, rfl, ha, hb, by rw [sa.1, sb.1]; exact sizeOk_le hz, fun p hp => sayLst Rp k hp rfl (sa.append sb)⟩))
    · cases e
theorem fit_sub : Fit2 K cA (rI0 fun i j => .int (i - j)) gSub := by
  intro Lk φ F Pr w σ H v1 v2 d1 d2 rr Q Rp h1 h2 e k
  cases d1 <;> cases d2 <;> simp only [gSub] at e <;> try (cases e; done)
  cases e
  rw [h1.int, h2.int]
  exact ⟨_, _, rfl, rfl, say Rp k rfl (.int _)⟩
def rMulAll : R2 := fun x y H Q => rI CMul (fun i j => .int (i * j)) x y H Q ∨ rRep x y H Q
theorem op_mulAll {X : Cx} : OpR X (binaryOp .Mult) rMulAll := op_mul.or op_rep
theorem Shs.rep {φ : List Addr} {F : Hp} {xs : List V} {ds : List D} (h : Shs K φ F xs ds) : ∀ n : Nat, Shs K φ F (List.replicate n xs).flatten (List.replicate n ds).flatten
  | 0 => .nil
  | n + 1 => by
    rw [List.replicate_succ, List.replicate_succ, List.flatten_cons, List.flatten_cons]
    exact h.append (Shs.rep h n)
theorem smallI_iff {i : Int} : smallI i = true ↔ (-(2 ^ 64) < i ∧ i < 2 ^ 64) := by
  unfold smallI
  rw [Nat.blt_eq]
  omega
theorem small63_of {i : Int} (h : small63 i = true) : -9223372036854775808 ≤ i ∧ i < 9223372036854775808 := by
  unfold small63 at h
  rw [Nat.blt_eq] at h
  omega
theorem fit_mul : Fit2 K cA rMulAll gMul := by
  intro Lk φ F Pr w σ H v1 v2 d1 d2 rr Q Rp h1 h2 e k
  cases d1 <;> cases d2 <;> simp only [gMul] at e <;> try (cases e; done)
  · split at e
    · rename_i hz
      cases e
      rw [h1.int, h2.int]
      refine .inl ⟨_, _, rfl, rfl, ?_, say Rp k rfl (.int _)⟩
      rcases Bool.or_eq_true_iff.mp hz with z | z
      · exact .inl (smallI_iff.mp z)
      · exact .inr (smallI_iff.mp z)
    · cases e
  · split at e
    · rename_i hz
      cases e
      simp only [Bool.and_eq_true, decide_eq_true_eq] at hz
      obtain ⟨z12, z3⟩ := hz
      obtain ⟨z1, z2⟩ := small63_of z12
      obtain ⟨a, xs, rfl, ha, sa⟩ := h1.lstP Rp
      rw [h2.int]
      exact .inr ⟨a, _, xs, rfl, rfl, ha, by omega, by omega, by rw [sa.1]; exact sizeOk_le z3, fun p hp => sayLst Rp k hp rfl (sa.rep _)⟩
    · cases e
theorem fit_div : Fit2 K cA (rI CDivN fun i j => .int (i.fdiv j)) gDiv := by
  intro Lk φ F Pr w σ H v1 v2 d1 d2 rr Q Rp h1 h2 e k
  cases d1 <;> cases d2 <;> simp only [gDiv] at e <;> try (cases e; done)
  split at e
  · rename_i hz
    cases e
    simp only [Bool.and_eq_true, decide_eq_true_eq, Nat.blt_eq] at hz
    rw [h1.int, h2.int]
    exact ⟨_, _, rfl, rfl, hz, say Rp k rfl (.int _)⟩
  · cases e
theorem fit_mod : Fit2 K cA (rI (fun _ j => j ≠ 0) fun i j => .int (i.fmod j)) gMod := by
  intro Lk φ F Pr w σ H v1 v2 d1 d2 rr Q Rp h1 h2 e k
  cases d1 <;> cases d2 <;> simp only [gMod] at e <;> try (cases e; done)
  split at e
  · rename_i hz
    cases e
    rw [h1.int, h2.int]
    exact ⟨_, _, rfl, rfl, of_decide_eq_true hz, say Rp k rfl (.int _)⟩
  · cases e
theorem fit_pow : Fit2 K cA (rI CPow fun i j => .int (i ^ j.toNat)) gPow := by
  intro Lk φ F Pr w σ H v1 v2 d1 d2 rr Q Rp h1 h2 e k
  cases d1 <;> cases d2 <;> simp only [gPow] at e <;> try (cases e; done)
  split at e
  · rename_i hz
    cases e
    simp only [Bool.and_eq_true, decide_eq_true_eq, Nat.blt_eq] at hz
    rw [h1.int, h2.int]
    exact ⟨_, _, rfl, rfl, ⟨hz.1.1, hz.1.2, by omega⟩, say Rp k rfl (.int _)⟩
  · cases e
end

/-! ### comparisons -/
def gCmp (f : Int → Int → Bool) (g : List Nat → List Nat → Bool) : D → D → Option R
  | .int i, .int j => some (.sh (.bl (f i j)))
  | .str x, .str y => some (.sh (.bl (g x.cps.toList y.cps.toList)))
  | _, _ => none
def gEq0 : D → D → Option R := fun d e => if shp d && shp e then some (.sh (.bl (PyData.eqv d.py e.py))) else none
def gNe0 : D → D → Option R := fun d e => if shp d && shp e then some (.sh (.bl (!PyData.eqv d.py e.py))) else none
def gLt := gCmp (fun i j => decide (i < j)) (fun x y => decide (x < y))
def gLe := gCmp (fun i j => decide (i ≤ j)) (fun x y => !decide (y < x))
def gGt := gCmp (fun i j => decide (j < i)) (fun x y => decide (y < x))
def gGe := gCmp (fun i j => decide (j ≤ i)) (fun x y => !decide (x < y))
def gIs : D → D → Option R
  | d, .non => some (.sh (.bl (decide (d = .non))))
  | _, _ => none
def gIsNot : D → D → Option R
  | d, .non => some (.sh (.bl (!decide (d = .non))))
  | _, _ => none
/-- look-up in a dict's data -/
def lookD : List (D × D) → D → Option D
  | [], _ => none
  | (a, x) :: r, k => if a = k then some x else lookD r k
def strIn (x y : Str) : Bool := !(Builtin.Str.occurrences y x 0 y.length 1).isEmpty
def anyEqv (ds : List D) (d : D) : Bool := ds.any fun z => PyData.eqv z.py d.py
def isKey (d : D) : Bool := (keyD d).isSome || (keyT d).isSome
/-- all keys of one kind with k -/
def keysFit (kvs : List (D × D)) (k : D) : Bool := ((keyD k).isSome && kvs.all fun p => (keyD p.1).isSome) || ((keyT k).isSome && kvs.all fun p => (keyT p.1).isSome)
def gIn : D → D → Option Bool
  | .str x, .str y => some (strIn x y)
  | d, .lst ds => if shp d && shp (.lst ds) then some (anyEqv ds d) else none
  | d, .tup ds => if shp d && shp (.tup ds) then some (anyEqv ds d) else none
  | _, _ => none
/-- in, where the second may be a dict -/
def gInD : D → D → Option Bool
  | k, .dct t kvs => if (if t = true then (keyT k).isSome else (keyD k).isSome) = true then some (lookD kvs k).isSome else none
  | a, b => gIn a b
def gInR : D → D → Option R := fun a b => (gInD a b).map fun b => .sh (.bl b)
def gNotInR : D → D → Option R := fun a b => (gInD a b).map fun b => .sh (.bl (!b))
section
variable {K : PySem.W.Frag} {cA : CA}
def rCmpB (f : Int → Int → Bool) (g : List Nat → List Nat → Bool) : R2 := fun x y H Q => rI0 (fun i j => .bl (f i j)) x y H Q ∨ ∃ i j, x = .str i ∧ y = .str j ∧ Q (.bl (g i.cps.toList j.cps.toList)) H
theorem fit_cmp {f : Int → Int → Bool} {g : List Nat → List Nat → Bool} : Fit2 K cA (rCmpB f g) (gCmp f g) := by
  intro Lk φ F Pr w σ H v1 v2 d1 d2 rr Q Rp h1 h2 e k
  cases d1 <;> cases d2 <;> simp only [gCmp] at e <;> try (cases e; done)
  · cases e
    rw [h1.int, h2.int]
    exact .inl ⟨_, _, rfl, rfl, say Rp k rfl (.bl _)⟩
  · cases e
    rw [h1.str, h2.str]
    exact .inr ⟨_, _, rfl, rfl, say Rp k rfl (.bl _)⟩
theorem op_ltA {X : Cx} : OpR X (compareOp .Lt) (rCmpB (fun i j => decide (i < j)) (fun x y => decide (x < y))) := op_lt.or op_lt_str
theorem op_leA {X : Cx} : OpR X (compareOp .LtE) (rCmpB (fun i j => decide (i ≤ j)) (fun x y => !decide (y < x))) := op_le.or op_le_str
theorem op_gtA {X : Cx} : OpR X (compareOp .Gt) (rCmpB (fun i j => decide (j < i)) (fun x y => decide (y < x))) := op_gt.or op_gt_str
theorem op_geA {X : Cx} : OpR X (compareOp .GtE) (rCmpB (fun i j => decide (j ≤ i)) (fun x y => !decide (x < y))) := op_ge.or op_ge_str
theorem fit_eq0 : Fit2 K cA (rEqD K) gEq0 := by
  intro Lk φ F Pr w σ H v1 v2 d1 d2 rr Q Rp h1 h2 e k
  unfold gEq0 at e
  split at e
  · rename_i hz
    cases e
    rw [Bool.and_eq_true] at hz
    exact ⟨_, _, rdv_shp Rp h1 hz.1, rdv_shp Rp h2 hz.2, hz.1, hz.2, say Rp k rfl (.bl _)⟩
  · cases e
theorem fit_ne0 : Fit2 K cA (rNeD K) gNe0 := by
  intro Lk φ F Pr w σ H v1 v2 d1 d2 rr Q Rp h1 h2 e k
  unfold gNe0 at e
  split at e
  · rename_i hz
    cases e
    rw [Bool.and_eq_true] at hz
    exact ⟨_, _, rdv_shp Rp h1 hz.1, rdv_shp Rp h2 hz.2, hz.1, hz.2, say Rp k rfl (.bl _)⟩
  · cases e
theorem Rdv.is_non {Lk : Addr → Option (Obj × HO)} {φ : List Addr} {F H : Hp} {v : V} {d : D} (h : Rdv K Lk φ F H v d) : decide (v = .non) = decide (d = .non) := by
  rcases h with h | ⟨a, o, rfl, h1, h2⟩
  · cases h <;> simp
  · cases h2 <;> simp
def rIsN : R2 := fun x y H Q => y = .non ∧ Q (.bl (decide (x = .non))) H
def rNotN : R2 := fun x y H Q => y = .non ∧ Q (.bl (!decide (x = .non))) H
theorem fit_is : Fit2 K cA rIsN gIs := by
  intro Lk φ F Pr w σ H v1 v2 d1 d2 rr Q Rp h1 h2 e k
  cases d2 <;> simp only [gIs] at e <;> try (cases e; done)
  cases e
  refine ⟨h2.non, ?_⟩
  rw [h1.is_non]
  exact say Rp k rfl (.bl _)
theorem fit_isnot : Fit2 K cA rNotN gIsNot := by
  intro Lk φ F Pr w σ H v1 v2 d1 d2 rr Q Rp h1 h2 e k
  cases d2 <;> simp only [gIsNot] at e <;> try (cases e; done)
  cases e
  refine ⟨h2.non, ?_⟩
  rw [h1.is_non]
  exact say Rp k rfl (.bl _)
/-- in a tuple of data of any depth -/
def rInTD (K : PySem.W.Frag) (neg : Bool) : R2 := fun x y H Q => ∃ d ds, Dp K H x d ∧ Dp K H y (.tuple ds) ∧ SeqAt.shaped d = true ∧ SeqAt.shaped (.tuple ds) = true ∧ Q (.bl (neg ^^ (ds.any fun z => PyData.eqv z d))) H
theorem tup_reads {X : Cx} {pins : List (Addr × Obj)} {σ : L2.St} {H : Hp} {s : Shared} (I : Inv X pins σ H s) {a : Addr} {ds : List PyData} (h : Dp X.K H (.ref a) (.tuple ds)) (c : PyData.canLayAll0 ds = true) :
    ∃ its : List Value, IsTup s.heap a its.toArray ∧ (∃ as, ReadsAll s.heap its ds as) ∧ its.map (SeqAt.readOf s.heap) = ds := by
  cases h with
  | tup hs ha =>
    obtain ⟨its, rv, ht, hz⟩ := I.tuple hs
    obtain ⟨as, h4⟩ := Dp.readsAll I ds _ its ha rv
    exact ⟨its, ht, ⟨as, h4⟩, SeqAt.readsAll_map ds its as c h4⟩
theorem op_inTD {X : Cx} (hu : X.A.units + 65 < cLine) : OpR X (compareOp .In) (rInTD X.K false) := by
  intro pins s σ H x y v u Q I rx ry h
  obtain ⟨d, ds, hd, he, sd, se, q⟩ := h
  obtain ⟨as, r1⟩ := Dp.reads I d x v hd rx
  have cds : PyData.canLayAll0 ds = true := by
    have := SeqAt.canLay_of_shaped se
    simpa [PyData.canLay0] using this
  have key := he
  cases he with
  | tup hs ha =>
    rename_i a xs
    cases ry
    obtain ⟨its, ht, ⟨bs, h4⟩, hmap⟩ := tup_reads I key cds
    have hroom : X.A.units + 1 + min (PyData.depthAll ds) d.depth < cLine := room_in_shaped sd hu
    refine SeqAt.in_tupleAt (fun u => PyData.eqv (SeqAt.readOf s.heap u) d) ht (SeqAt.items_eqAt (vs := its.toArray) (show ReadsAll s.heap its.toArray.toList ds bs from h4) r1 cds (SeqAt.canLay_of_shaped sd) hroom) ⟨.bl _, H, I, rfl, ?_⟩
    have e : (its.toArray.any fun u => PyData.eqv (SeqAt.readOf s.heap u) d) = ds.any fun z => PyData.eqv z d := by
      rw [← hmap, List.any_map]
      simp [Function.comp_def]
    rw [e]
    simpa using q
theorem op_notInTD {X : Cx} (hu : X.A.units + 65 < cLine) : OpR X (compareOp .NotIn) (rInTD X.K true) := by
  intro pins s σ H x y v u Q I rx ry h
  obtain ⟨d, ds, hd, he, sd, se, q⟩ := h
  obtain ⟨as, r1⟩ := Dp.reads I d x v hd rx
  have cds : PyData.canLayAll0 ds = true := by
    have := SeqAt.canLay_of_shaped se
    simpa [PyData.canLay0] using this
  have key := he
  cases he with
  | tup hs ha =>
    rename_i a xs
    cases ry
    obtain ⟨its, ht, ⟨bs, h4⟩, hmap⟩ := tup_reads I key cds
    have hroom : X.A.units + 1 + min (PyData.depthAll ds) d.depth < cLine := room_in_shaped sd hu
    refine SeqAt.notIn_tupleAt (fun u => PyData.eqv (SeqAt.readOf s.heap u) d) ht (SeqAt.items_eqAt (vs := its.toArray) (show ReadsAll s.heap its.toArray.toList ds bs from h4) r1 cds (SeqAt.canLay_of_shaped sd) hroom) ⟨.bl _, H, I, rfl, ?_⟩
    have e : (its.toArray.any fun u => PyData.eqv (SeqAt.readOf s.heap u) d) = ds.any fun z => PyData.eqv z d := by
      rw [← hmap, List.any_map]
      simp [Function.comp_def]
    rw [e]
    simpa using q
def rInDct : R2 := fun x y H Q => ∃ a o, y = .ref a ∧ DGet H a x o ∧ Q (.bl o.isSome) H
def rNotInDct : R2 := fun x y H Q => ∃ a o, y = .ref a ∧ DGet H a x o ∧ Q (.bl (!o.isSome)) H
theorem op_inDct {X : Cx} (hu : X.A.units + 1 < cLine) : OpR X (compareOp .In) rInDct := by
  intro pins s σ H x y v u Q I rx ry h
  obtain ⟨a, o, rfl, g, q⟩ := h
  cases ry
  exact d_in hu I g rx fun s3 I3 => ⟨.bl o.isSome, H, I3, rfl, q⟩
theorem op_notInDct {X : Cx} (hu : X.A.units + 1 < cLine) : OpR X (compareOp .NotIn) rNotInDct := by
  intro pins s σ H x y v u Q I rx ry h
  obtain ⟨a, o, rfl, g, q⟩ := h
  cases ry
  exact d_notIn hu I g rx fun s3 I3 => ⟨.bl (!o.isSome), H, I3, rfl, q⟩
end
end Rf
set_option maxHeartbeats 1000000
/-! Rf5: the rules of expressions, in their last form. -/
namespace Rf
open PySem L2
open PyProof.Rows hiding St

/-! ### meanings -/
def eVar (i : Nat) : ME := fun w => match w.env[i]? with
  | some (some (.sh d)) => .ok (.sh d) w
  | some (some (.own _)) => .ok (.bor i) w
  | _ => .no
def eC (d : D) : ME := fun w => .ok (.sh d) w
/-- shared from now on -/
def eEsc (m : ME) : ME := fun w => (m w).bind fun r w1 => match r with
  | .sh d => .ok (.sh d) w1
  | .own d => .ok (.sh d) w1
  | .bor i => match w1.env[i]? with
    | some (some (.sh d)) => .ok (.sh d) w1
    | some (some (.own d)) => .ok (.sh d) { w1 with env := w1.env.set i (some (.sh d)) }
    | _ => .no
def shAll : List R → Option (List D)
  | [] => some []
  | .sh d :: rs => (shAll rs).map (d :: ·)
  | _ :: _ => none
def eTup (ms : MA) : ME := fun w => (ms w).bind fun rs w1 => match shAll rs with
  | some ds => if sizeOk ds.length then .ok (.sh (.tup ds)) w1 else .no
  | none => .no
def eLst (ms : MA) : ME := fun w => (ms w).bind fun rs w1 => match shAll rs with
  | some ds => if sizeOk ds.length then .ok (.own (.lst ds)) w1 else .no
  | none => .no
/-- a field's datum -/
def lookF : List (Str × D) → Str → Option D
  | [], _ => none
  | (a, x) :: r, k => if a = k then some x else lookF r k
def eFld (okf : Str → Str → Bool) (m : ME) (f : Str) : ME := fun w => (m w).bind fun r w1 => match r with
  | .sh (.obj n) => match w1.st[n]? with
    | some (.ins C fs) => if okf C f then (match lookF fs f with
      | some d => .ok (.sh d) w1
      | none => .no) else .no
    | _ => .no
  | _ => .no
/-- a value that is a bool, as a test -/
def eTest (m : ME) : MT := fun w => (m w).bind fun r w1 => match r with
  | .sh (.bl b) => .ok b w1
  | _ => .no
/-- a value by its truth -/
def truD : D → Option Bool
  | .non => some false
  | .bl b => some b
  | .int i => some (i != 0)
  | .str y => if sizeOk y.length then some ((y.length : Int) != 0) else none
  | .lst xs => some (!xs.isEmpty)
  | .tup xs => some (!xs.isEmpty)
  | _ => none
def eTru (m : ME) : MT := fun w => (m w).bind fun r w1 => match (r.d w1).bind truD with
  | some b => .ok b w1
  | none => .no
def bAnd (a b : MT) : MT := fun w => (a w).bind fun c w1 => if c = true then b w1 else .ok false w1
def bOr (a b : MT) : MT := fun w => (a w).bind fun c w1 => if c = true then .ok true w1 else b w1
def bNot (a : MT) : MT := fun w => (a w).bind fun c w1 => .ok (!c) w1
def eIf (t : MT) (a b : ME) : ME := fun w => (t w).bind fun c w1 => if c = true then a w1 else b w1
/-- and, or, not as values; all but the last are bools -/
def eAndV (a b : ME) : ME := fun w => (a w).bind fun r w1 => match r with
  | .sh (.bl c) => if c = true then b w1 else .ok (.sh (.bl false)) w1
  | _ => .no
def eOrV (a b : ME) : ME := fun w => (a w).bind fun r w1 => match r with
  | .sh (.bl c) => if c = true then .ok (.sh (.bl true)) w1 else b w1
  | _ => .no
def eNotV (a : ME) : ME := fun w => (a w).bind fun r w1 => match r with
  | .sh (.bl c) => .ok (.sh (.bl (!c))) w1
  | _ => .no
/-- a op b op' c -/
def eChain (g g' : D → D → Option R) (ma mb mc : ME) : ME := fun w => (ma w).bind fun r1 w1 => (mb w1).bind fun r2 w2 => match r1.d w2, r2.d w2 with
  | some d1, some d2 => match g d1 d2 with
    | some (.sh (.bl k)) => if k = true then (mc w2).bind fun r3 w3 => match r2.d w3, r3.d w3 with
        | some d2', some d3 => match g' d2' d3 with
          | some r => .ok r w3
          | none => .no
        | _, _ => .no
      else .ok (.sh (.bl false)) w2
    | _ => .no
  | _, _ => .no

/-! ### small readings -/
section
variable {K : PySem.W.Frag} {cA : CA} {Wd : WX} {σ : L2.St} {H : Hp}
theorem rd_var {i : Nat} {Q : VK} (h : tM K cA Wd (eVar i) σ H Q) : tVar i σ H Q := by
  obtain ⟨Lk, φ, F, Pr, w, Rp, h⟩ := h
  unfold eVar at h
  cases e : w.env[i]? with
  | none => simp only [e] at h
  | some s =>
    cases s with
    | none => simp only [e] at h
    | some s =>
      obtain ⟨v, h1, h2⟩ := Rp.sl i s e
      cases s with
      | sh d => simp only [e] at h; exact ⟨v, h1, h v H φ F Pr (Le.refl _) (Pf.refl _) (Le.refl _) Rp h2⟩
      | own c => simp only [e] at h; exact ⟨v, h1, h v H φ F Pr (Le.refl _) (Pf.refl _) (Le.refl _) Rp h1⟩
theorem rd_c {d : D} {v : V} {Q : VK} (hv : ∀ φ F, Sh K φ F v d) (h : tM K cA Wd (eC d) σ H Q) : tC v σ H Q := by
  obtain ⟨Lk, φ, F, Pr, w, Rp, h⟩ := h
  exact h v H φ F Pr (Le.refl _) (Pf.refl _) (Le.refl _) Rp (hv φ F)
/-- a pending thing of the protected part is frozen -/
theorem Rep.thawIn {Lk : Addr → Option (Obj × HO)} {φ : List Addr} {F Pr Pr2 : Hp} {w : W} {p : Addr} {o : HO} (R : Rep K cA Lk φ F Pr2 w σ H) (l : Le Pr Pr2) (h1 : Pr p = none) (h2 : Pr2 p = some o) (hd : ∀ od u, o ≠ .frz od u) :
    ∃ Pr3, Le Pr Pr3 ∧ Le F (upd F p o) ∧ Rep K cA Lk φ (upd F p o) Pr3 w σ H := by
  have e : upd (fun b => if b = p then none else Pr2 b) p o = Pr2 := by
    funext b
    by_cases hb : b = p
    · rw [hb, upd_same, h2]
    · rw [upd_ne hb]; simp [hb]
  have fp : F p = none := by
    cases q : F p with
    | none => rfl
    | some u => have := (R.fz _ _ q).2; rw [h2] at this; cases this
  refine ⟨fun b => if b = p then none else Pr2 b, fun b u q => ?_, Le.new fp, ?_⟩
  · have hb : b ≠ p := fun z => by rw [z, h1] at q; cases q
    simp [hb, l _ _ q]
  · rw [← e] at R
    exact R.thaw (by simp) hd
theorem rd_esc {m : ME} {Q : VK} (h : tM K cA Wd (eEsc m) σ H Q) : tM K cA Wd m σ H Q := by
  obtain ⟨Lk, φ, F, Pr, w, Rp, h⟩ := h
  unfold eEsc at h
  refine ⟨Lk, φ, F, Pr, w, Rp, ?_⟩
  cases e1 : m w with
  | no => simp only [e1, Res.bind] at h
  | ex x w1 => simp only [e1, Res.bind] at h; exact h
  | ok r w1 =>
    simp only [e1, Res.bind] at h
    intro v H1 φ1 F1 Pr1 l1 p1 q1 Rp1 rv1
    cases r with
    | sh d => simp only at h; exact h v H1 φ1 F1 Pr1 l1 p1 q1 Rp1 rv1
    | own c =>
      simp only at h
      obtain ⟨p, o, rfl, h1, h2, h3⟩ := rv1
      obtain ⟨Pr3, l3, l4, Rp3⟩ := Rp1.thawIn q1 h1 h2 h3.nofrz
      exact h _ H1 φ1 _ Pr3 (l1.trans l4) p1 l3 Rp3 ((h3.le l4 (Pf.refl _)).sh upd_same)
    | bor i =>
      simp only at h
      cases e2 : w1.env[i]? with
      | none => simp only [e2] at h
      | some s =>
        cases s with
        | none => simp only [e2] at h
        | some s =>
          obtain ⟨v', h1, h2⟩ := Rp1.sl i s e2
          have hv : σ[i]? = some (some v) := rv1
          rw [hv] at h1; cases h1
          cases s with
          | sh d => simp only [e2] at h; exact h v H1 φ1 F1 Pr1 l1 p1 q1 Rp1 h2
          | own c =>
            simp only [e2] at h
            obtain ⟨a, o, g1, g2, g3, g4, Rp2⟩ := Rp1.freeze e2
            rw [hv] at g1; cases g1
            have l2 : Le F1 (upd F1 a o) := Le.new g3
            exact h _ H1 φ1 _ Pr1 (l1.trans l2) p1 q1 Rp2 ((g4.le l2 (Pf.refl _)).sh upd_same)
theorem shs_of {φ : List Addr} {F Pr Pr2 : Hp} : ∀ {vs : List V} {rs : List R} {ds : List D}, RVs K φ F Pr Pr2 σ vs rs → shAll rs = some ds → Shs K φ F vs ds
  | [], [], ds, _, e => by simp [shAll] at e; subst e; exact .nil
  | [], _ :: _, _, h, _ => by have := h.1; simp at this
  | _ :: _, [], _, h, _ => by have := h.1; simp at this
  | v :: vs, r :: rs, ds, h, e => by
    cases r with
    | sh d =>
      simp only [shAll, Option.map_eq_some_iff] at e
      obtain ⟨ds', e1, rfl⟩ := e
      have t : RVs K φ F Pr Pr2 σ vs rs := ⟨by simpa using h.1, fun i v d a b => h.2 (i + 1) v d (by simpa using a) (by simpa using b)⟩
      exact .cons (h.2 0 v _ rfl rfl) (shs_of t e1)
    | own d => simp [shAll] at e
    | bor d => simp [shAll] at e
theorem rd_tup {ms : MA} {Q : VK} (h : tM K cA Wd (eTup ms) σ H Q) : tTup (tMA K cA Wd ms) σ H Q := by
  obtain ⟨Lk, φ, F, Pr, w, Rp, h⟩ := h
  unfold eTup at h
  refine ⟨Lk, φ, F, Pr, w, Rp, ?_⟩
  cases e1 : ms w with
  | no => simp only [e1, Res.bind] at h
  | ex x w1 => simp only [e1, Res.bind] at h; exact h
  | ok rs w1 =>
    simp only [e1, Res.bind] at h
    intro vs H1 φ1 F1 Pr1 l1 p1 q1 Rp1 rv1
    cases e2 : shAll rs with
    | none => simp only [e2] at h
    | some ds =>
      simp only [e2] at h
      by_cases hz : sizeOk ds.length = true
      · rw [if_pos hz] at h
        have s1 := shs_of rv1 e2
        refine ⟨by rw [s1.1]; exact sizeOk_le hz, fun p hp => ?_⟩
        have l : Le F1 (upd F1 p (.tup vs)) := Le.new (Rp1.fresh hp).1
        exact h _ _ φ1 _ Pr1 (l1.trans l) p1 q1 (Rp1.new hp) (Sh.mk_tup (.inl upd_same) (s1.le l (Pf.refl _)))
      · rw [if_neg hz] at h; exact h.elim
theorem rd_lst {ms : MA} {Q : VK} (h : tM K cA Wd (eLst ms) σ H Q) : tLst (tMA K cA Wd ms) σ H Q := by
  obtain ⟨Lk, φ, F, Pr, w, Rp, h⟩ := h
  unfold eLst at h
  refine ⟨Lk, φ, F, Pr, w, Rp, ?_⟩
  cases e1 : ms w with
  | no => simp only [e1, Res.bind] at h
  | ex x w1 => simp only [e1, Res.bind] at h; exact h
  | ok rs w1 =>
    simp only [e1, Res.bind] at h
    intro vs H1 φ1 F1 Pr1 l1 p1 q1 Rp1 rv1
    cases e2 : shAll rs with
    | none => simp only [e2] at h
    | some ds =>
      simp only [e2] at h
      by_cases hz : sizeOk ds.length = true
      · rw [if_pos hz] at h
        have s1 := shs_of rv1 e2
        refine ⟨by rw [s1.1]; exact sizeOk_le hz, fun p hp => ?_⟩
        obtain ⟨fp, pp, np⟩ := Rp1.fresh hp
        have pp0 : Pr p = none := by
          cases q : Pr p with
          | none => rfl
          | some u => rw [q1 _ _ q] at pp; cases pp
        exact h _ _ φ1 F1 (upd Pr1 p (.lst vs)) l1 p1 (q1.trans (Le.new pp)) (Rp1.pend hp) ⟨p, _, rfl, pp0, upd_same, .lst s1⟩
      · rw [if_neg hz] at h; exact h.elim
theorem fsR_look {φ : List Addr} {F : Hp} {f : Str} {d : D} : ∀ {vfs : List (Str × V)} {fs : List (Str × D)}, FsR K φ F vfs fs → lookF fs f = some d → ∃ v, vfs.lookup f = some v ∧ Sh K φ F v d
  | [], [], _, e => by simp [lookF] at e
  | [], (b, y) :: r, h, _ => by have := h.1; simp at this
  | (a, x) :: vr, [], h, _ => by have := h.1; simp at this
  | (a, x) :: vr, (b, y) :: r, h, e => by
    obtain ⟨h1, h2⟩ := h
    simp only [List.map_cons, List.cons.injEq] at h1 h2
    obtain ⟨rfl, h1⟩ := h1
    obtain ⟨s1, s2⟩ := h2.uncons
    simp only [lookF] at e
    split at e
    · rename_i q
      subst q
      cases e
      exact ⟨x, by simp [List.lookup], s1⟩
    · rename_i q
      obtain ⟨v, g1, g2⟩ := fsR_look (vfs := vr) ⟨h1, s2⟩ e
      refine ⟨v, ?_, g2⟩
      have qf : (f == a) = false := by simpa using fun z => q z.symm
      simp [List.lookup, qf, g1]
theorem rd_fld {okf : Str → Str → Bool} {m : ME} {f : Str} {Q : VK} (hk : ∀ C, okf C f = true → Cls K (cA C) ∧ NoAttr K (cA C) f) (h : tM K cA Wd (eFld okf m f) σ H Q) : tFld K (tM K cA Wd m) f σ H Q := by
  obtain ⟨Lk, φ, F, Pr, w, Rp, h⟩ := h
  unfold eFld at h
  refine ⟨Lk, φ, F, Pr, w, Rp, ?_⟩
  cases e1 : m w with
  | no => simp only [e1, Res.bind] at h
  | ex x w1 => simp only [e1, Res.bind] at h; exact h
  | ok r w1 =>
    simp only [e1, Res.bind] at h
    intro v H1 φ1 F1 Pr1 l1 p1 q1 Rp1 rv1
    cases r with
    | own d => simp only at h
    | bor d => simp only at h
    | sh d =>
      cases d with
      | obj n =>
        simp only at h
        cases e2 : w1.st[n]? with
        | none => simp only [e2] at h
        | some ob =>
          cases ob with
          | lst xs => simp only [e2] at h
          | dct t xs => simp only [e2] at h
          | ins C fs =>
            simp only [e2] at h
            by_cases hz : okf C f = true
            · rw [if_pos hz] at h
              cases e3 : lookF fs f with
              | none => simp only [e3] at h
              | some d =>
                simp only [e3] at h
                obtain ⟨a, rfl, ea⟩ := Sh.obj_d rv1
                obtain ⟨dx, vfs, g1, g2⟩ := Rp1.ob n a _ ea e2
                obtain ⟨v, g3, g4⟩ := fsR_look g2 e3
                exact ⟨a, cA C, dx, vfs, v, rfl, g1, (hk C hz).1, (hk C hz).2, g3, h v H1 φ1 F1 Pr1 l1 p1 q1 Rp1 g4⟩
            · rw [if_neg hz] at h; exact h.elim
      | _ => simp only at h
theorem rd_test {m : ME} {Q : Bool → Hp → Prop} (h : tMT K cA Wd (eTest m) σ H Q) : tTest (tM K cA Wd m) σ H Q := by
  obtain ⟨Lk, φ, F, Pr, w, Rp, h⟩ := h
  unfold eTest at h
  refine ⟨Lk, φ, F, Pr, w, Rp, ?_⟩
  cases e1 : m w with
  | no => simp only [e1, Res.bind] at h
  | ex x w1 => simp only [e1, Res.bind] at h; exact h
  | ok r w1 =>
    simp only [e1, Res.bind] at h
    intro v H1 φ1 F1 Pr1 l1 p1 q1 Rp1 rv1
    cases r with
    | own d => simp only at h
    | bor d => simp only at h
    | sh d =>
      cases d with
      | bl b => simp only at h; exact ⟨b, Sh.bl_d rv1, h H1 φ1 F1 Pr1 l1 p1 q1 Rp1⟩
      | _ => simp only at h
theorem tru_of {Lk : Addr → Option (Obj × HO)} {φ : List Addr} {F Pr : Hp} {w : W} {v : V} {d : D} {b : Bool} (R : Rep K cA Lk φ F Pr w σ H) (h : Rdv K Lk φ F H v d) (e : truD d = some b) : TruV K v H b := by
  cases d with
  | non => cases e; rw [h.non]; rfl
  | bl c => cases e; rw [h.bl]; rfl
  | int i => cases e; rw [h.int]; rfl
  | str y =>
    simp only [truD] at e
    split at e
    · rename_i hz; cases e; rw [h.str]; exact ⟨sizeOk_le hz, rfl⟩
    · cases e
  | lst xs =>
    cases e
    obtain ⟨a, ys, rfl, h1, h2⟩ := h.lst R
    refine .inl ⟨ys, h1, ?_⟩
    cases xs with
    | nil => rw [h2.nil_r]; rfl
    | cons x r => obtain ⟨y, ys', rfl, _⟩ := h2.cons_r; rfl
  | tup xs =>
    cases e
    obtain ⟨a, ys, rfl, h1, h2⟩ := h.tup R
    refine .inr (.inl ⟨ys, h1, ?_⟩)
    cases xs with
    | nil => rw [h2.nil_r]; rfl
    | cons x r => obtain ⟨y, ys', rfl, _⟩ := h2.cons_r; rfl
  | _ => simp [truD] at e
theorem rd_tru {m : ME} {Q : Bool → Hp → Prop} (h : tMT K cA Wd (eTru m) σ H Q) : tM K cA Wd m σ H fun x H' => ∃ k, TruV K x H' k ∧ Q k H' := by
  obtain ⟨Lk, φ, F, Pr, w, Rp, h⟩ := h
  unfold eTru at h
  refine ⟨Lk, φ, F, Pr, w, Rp, ?_⟩
  cases e1 : m w with
  | no => simp only [e1, Res.bind] at h
  | ex x w1 => simp only [e1, Res.bind] at h; exact h
  | ok r w1 =>
    simp only [e1, Res.bind] at h
    intro v H1 φ1 F1 Pr1 l1 p1 q1 Rp1 rv1
    cases e2 : r.d w1 with
    | none => simp only [e2, Option.bind_none] at h
    | some d =>
      cases e3 : truD d with
      | none => simp only [e2, e3, Option.bind_some] at h
      | some b =>
        simp only [e2, e3, Option.bind_some] at h
        exact ⟨b, tru_of Rp1 (rdv_of Rp1 rv1 e2) e3, h H1 φ1 F1 Pr1 l1 p1 q1 Rp1⟩
theorem rd_and {ma mb : MT} {Q : Bool → Hp → Prop} (h : tMT K cA Wd (bAnd ma mb) σ H Q) : tAnd (tMT K cA Wd ma) (tMT K cA Wd mb) σ H Q := by
  obtain ⟨Lk, φ, F, Pr, w, Rp, h⟩ := h
  unfold bAnd at h
  refine ⟨Lk, φ, F, Pr, w, Rp, ?_⟩
  cases e1 : ma w with
  | no => simp only [e1, Res.bind] at h
  | ex x w1 => simp only [e1, Res.bind] at h; exact h
  | ok c w1 =>
    simp only [e1, Res.bind] at h
    intro H1 φ1 F1 Pr1 l1 p1 q1 Rp1
    cases c with
    | false =>
      simp only [Bool.false_eq_true, if_false] at h ⊢
      exact h H1 φ1 F1 Pr1 l1 p1 q1 Rp1
    | true =>
      simp only [if_true] at h ⊢
      refine ⟨Lk, φ1, F1, Pr1, w1, Rp1, ?_⟩
      cases e2 : mb w1 with
      | no => simp only [e2] at h
      | ex x w2 => simp only [e2] at h; exact fun cls dx H' φ' F' Pr2 l2 p2 q2 Rp2 xr => h cls dx H' φ' F' Pr2 (l1.trans l2) (p1.trans p2) (q1.trans q2) Rp2 xr
      | ok c2 w2 => simp only [e2] at h; exact fun H' φ' F' Pr2 l2 p2 q2 Rp2 => h H' φ' F' Pr2 (l1.trans l2) (p1.trans p2) (q1.trans q2) Rp2
theorem rd_or {ma mb : MT} {Q : Bool → Hp → Prop} (h : tMT K cA Wd (bOr ma mb) σ H Q) : tOr (tMT K cA Wd ma) (tMT K cA Wd mb) σ H Q := by
  obtain ⟨Lk, φ, F, Pr, w, Rp, h⟩ := h
  unfold bOr at h
  refine ⟨Lk, φ, F, Pr, w, Rp, ?_⟩
  cases e1 : ma w with
  | no => simp only [e1, Res.bind] at h
  | ex x w1 => simp only [e1, Res.bind] at h; exact h
  | ok c w1 =>
    simp only [e1, Res.bind] at h
    intro H1 φ1 F1 Pr1 l1 p1 q1 Rp1
    cases c with
    | true =>
      simp only [if_true] at h ⊢
      exact h H1 φ1 F1 Pr1 l1 p1 q1 Rp1
    | false =>
      simp only [Bool.false_eq_true, if_false] at h ⊢
      refine ⟨Lk, φ1, F1, Pr1, w1, Rp1, ?_⟩
      cases e2 : mb w1 with
      | no => simp only [e2] at h
      | ex x w2 => simp only [e2] at h; exact fun cls dx H' φ' F' Pr2 l2 p2 q2 Rp2 xr => h cls dx H' φ' F' Pr2 (l1.trans l2) (p1.trans p2) (q1.trans q2) Rp2 xr
      | ok c2 w2 => simp only [e2] at h; exact fun H' φ' F' Pr2 l2 p2 q2 Rp2 => h H' φ' F' Pr2 (l1.trans l2) (p1.trans p2) (q1.trans q2) Rp2
theorem rd_not {ma : MT} {Q : Bool → Hp → Prop} (h : tMT K cA Wd (bNot ma) σ H Q) : tNot (tMT K cA Wd ma) σ H Q := by
  obtain ⟨Lk, φ, F, Pr, w, Rp, h⟩ := h
  unfold bNot at h
  refine ⟨Lk, φ, F, Pr, w, Rp, ?_⟩
  cases e1 : ma w with
  | no => simp only [e1, Res.bind] at h
  | ex x w1 => simp only [e1, Res.bind] at h; exact h
  | ok c w1 => simp only [e1, Res.bind] at h; exact h
theorem rd_if {mt : MT} {ma mb : ME} {Q : VK} (h : tM K cA Wd (eIf mt ma mb) σ H Q) : tIf (tMT K cA Wd mt) (tM K cA Wd ma) (tM K cA Wd mb) σ H Q := by
  obtain ⟨Lk, φ, F, Pr, w, Rp, h⟩ := h
  unfold eIf at h
  refine ⟨Lk, φ, F, Pr, w, Rp, ?_⟩
  cases e1 : mt w with
  | no => simp only [e1, Res.bind] at h
  | ex x w1 => simp only [e1, Res.bind] at h; exact h
  | ok c w1 =>
    simp only [e1, Res.bind] at h
    intro H1 φ1 F1 Pr1 l1 p1 q1 Rp1
    have go : ∀ {m : ME}, (match m w1 with
        | .ok r w' => ∀ v H' φ' F' Pr2, Le F F' → Pf φ φ' → Le Pr Pr2 → Rep K cA Lk φ' F' Pr2 w' σ H' → RV K φ' F' Pr Pr2 σ v r → Q v H'
        | .ex x w' => ∀ cls dx H' φ' F' Pr2, Le F F' → Pf φ φ' → Le Pr Pr2 → Rep K cA Lk φ' F' Pr2 w' σ H' → XR cA K φ' F' H' x cls dx → Wd cls dx σ H'
        | .no => False) → tM K cA Wd m σ H1 Q := fun {m} h => by
      refine ⟨Lk, φ1, F1, Pr1, w1, Rp1, ?_⟩
      cases e2 : m w1 with
      | no => simp only [e2] at h
      | ex x w2 => simp only [e2] at h; exact fun cls dx H' φ' F' Pr2 l2 p2 q2 Rp2 xr => h cls dx H' φ' F' Pr2 (l1.trans l2) (p1.trans p2) (q1.trans q2) Rp2 xr
      | ok c2 w2 => simp only [e2] at h; exact fun v H' φ' F' Pr2 l2 p2 q2 Rp2 rv => h v H' φ' F' Pr2 (l1.trans l2) (p1.trans p2) (q1.trans q2) Rp2 (rv.narrow q1)
    cases c with
    | true => simp only [if_true] at h ⊢; exact go h
    | false => simp only [Bool.false_eq_true, if_false] at h ⊢; exact go h
end
end Rf
set_option maxHeartbeats 1000000
/-! Rf6: statements. -/
namespace Rf
open PySem L2
open PyProof.Rows hiding St

section
variable {K : PySem.W.Frag} {cA : CA} {Lk : Addr → Option (Obj × HO)} {φ : List Addr} {F Pr H : Hp} {w : W} {σ : L2.St} {p a : Addr} {o o' : HO} {c : D}
/-- a slot's own container is taken out, pending -/
theorem Rep.take {i : Nat} (R : Rep K cA Lk φ F Pr w σ H) (e : w.env[i]? = some (some (.own c))) :
    ∃ a o, σ[i]? = some (some (V.ref a)) ∧ CR K φ F o c ∧ Pr a = none ∧ Rep K cA Lk φ F (upd Pr a o) { w with env := w.env.set i none } σ H := by
  obtain ⟨v, h1, a, o, rfl, h3, h4, h5, h6, h7⟩ := R.sl i _ e
  refine ⟨a, o, h1, h4, h6, ?_⟩
  have key : ∀ (j : Nat) s, (w.env.set i none)[j]? = some (some s) → j ≠ i ∧ w.env[j]? = some (some s) := fun j s e => by
    by_cases hj : j = i
    · subst hj
      have hl : j < w.env.length := by
        have := (List.getElem?_eq_some_iff.mp e).1
        simpa using this
      rw [List.getElem?_set_self hl] at e; cases e
    · rw [List.getElem?_set_ne (Ne.symm hj)] at e
      exact ⟨hj, e⟩
  refine ⟨by simpa using R.len, R.lkh, fun b u q => ?_, fun b u q => ?_, R.plen, R.ob, fun n b q => ?_, R.pnd, fun j s q => ?_, fun j k b c1 c2 e1 e2 e3 e4 => ?_, fun t ht => (R.tab t ht).updP ((R.tab t ht).ne fun ps z => h4.ntbl ps (Option.some.inj (h3.symm.trans z)))⟩
  · have hb : b ≠ a := fun z => by rw [z, h5] at q; cases q
    rw [upd_ne hb]; exact R.fz _ _ q
  · by_cases hb : b = a
    · subst hb; rw [upd_same] at q; cases q; exact h3
    · rw [upd_ne hb] at q; exact R.pr _ _ q
  · have hb : b ≠ a := fun z => h7 n (z ▸ q)
    rw [upd_ne hb]; exact R.of n b q
  · obtain ⟨hj, q⟩ := key j s q
    obtain ⟨v', g1, g2⟩ := R.sl j s q
    refine ⟨v', g1, ?_⟩
    cases s with
    | sh d => exact g2
    | own c2 =>
      obtain ⟨a', u, rfl, g3, g4, g5, g6, g7⟩ := g2
      have ne : a' ≠ a := fun z => hj (R.inj j i a c2 c q e (z ▸ g1) h1)
      exact ⟨a', u, rfl, g3, g4, g5, by rw [upd_ne ne]; exact g6, g7⟩
  · obtain ⟨_, q1⟩ := key j _ e1
    obtain ⟨_, q2⟩ := key k _ e2
    exact R.inj j k b c1 c2 q1 q2 e3 e4
theorem Rep.noenv (R : Rep K cA Lk φ F Pr w σ H) : Rep K cA Lk φ F Pr { w with env := [] } [] H :=
  ⟨rfl, R.lkh, R.fz, R.pr, R.plen, R.ob, R.of, R.pnd, fun i s e => by simp at e, fun i j a c c' e => by simp at e, R.tab⟩
end

/-! ### statements -/
inductive Sig where
  | nx | rt (r : R) | bk | ct
abbrev MS := W → Res Sig
section
variable (K : PySem.W.Frag) (cA : CA) (Wd : WX)
def tMS (m : MS) : TS := fun D σ H => ∃ Lk φ F Pr w, Rep K cA Lk φ F Pr w σ H ∧ match m w with
  | .ok .nx w' => ∀ σ' H' φ' F', Le F F' → Pf φ φ' → Rep K cA Lk φ' F' Pr w' σ' H' → D.nx σ' H'
  | .ok .bk w' => ∀ σ' H' φ' F', Le F F' → Pf φ φ' → Rep K cA Lk φ' F' Pr w' σ' H' → D.bk σ' H'
  | .ok .ct w' => ∀ σ' H' φ' F', Le F F' → Pf φ φ' → Rep K cA Lk φ' F' Pr w' σ' H' → D.ct σ' H'
  | .ok (.rt r) w' => ∀ v σ' H' φ' F' Pr2, Le F F' → Pf φ φ' → Le Pr Pr2 → Rep K cA Lk φ' F' Pr2 w' σ' H' → RV K φ' F' Pr Pr2 σ' v r → D.rt v H'
  | .ex x w' => ∀ cls dx σ' H' φ' F', Le F F' → Pf φ φ' → Rep K cA Lk φ' F' Pr w' σ' H' → XR cA K φ' F' H' x cls dx → Wd cls dx σ' H'
  | .no => False
end
/-- what tMS asks behind it -/
def MSP (K : PySem.W.Frag) (cA : CA) (Wd : WX) (Lk : Addr → Option (Obj × HO)) (φ : List Addr) (F Pr : Hp) (D : Ends) (r : Res Sig) : Prop := match r with
  | .ok .nx w' => ∀ σ' H' φ' F', Le F F' → Pf φ φ' → Rep K cA Lk φ' F' Pr w' σ' H' → D.nx σ' H'
  | .ok .bk w' => ∀ σ' H' φ' F', Le F F' → Pf φ φ' → Rep K cA Lk φ' F' Pr w' σ' H' → D.bk σ' H'
  | .ok .ct w' => ∀ σ' H' φ' F', Le F F' → Pf φ φ' → Rep K cA Lk φ' F' Pr w' σ' H' → D.ct σ' H'
  | .ok (.rt r) w' => ∀ v σ' H' φ' F' Pr2, Le F F' → Pf φ φ' → Le Pr Pr2 → Rep K cA Lk φ' F' Pr2 w' σ' H' → RV K φ' F' Pr Pr2 σ' v r → D.rt v H'
  | .ex x w' => ∀ cls dx σ' H' φ' F', Le F F' → Pf φ φ' → Rep K cA Lk φ' F' Pr w' σ' H' → XR cA K φ' F' H' x cls dx → Wd cls dx σ' H'
  | .no => False
/-- what tM asks behind it -/
def MP (K : PySem.W.Frag) (cA : CA) (Wd : WX) (Lk : Addr → Option (Obj × HO)) (φ : List Addr) (F Pr : Hp) (σ : L2.St) (Q : VK) (r : Res R) : Prop := match r with
  | .ok r w' => ∀ v H' φ' F' Pr2, Le F F' → Pf φ φ' → Le Pr Pr2 → Rep K cA Lk φ' F' Pr2 w' σ H' → RV K φ' F' Pr Pr2 σ v r → Q v H'
  | .ex x w' => ∀ cls dx H' φ' F' Pr2, Le F F' → Pf φ φ' → Le Pr Pr2 → Rep K cA Lk φ' F' Pr2 w' σ H' → XR cA K φ' F' H' x cls dx → Wd cls dx σ H'
  | .no => False
def MPT (K : PySem.W.Frag) (cA : CA) (Wd : WX) (Lk : Addr → Option (Obj × HO)) (φ : List Addr) (F Pr : Hp) (σ : L2.St) (Q : Bool → Hp → Prop) (r : Res Bool) : Prop := match r with
  | .ok r w' => ∀ H' φ' F' Pr2, Le F F' → Pf φ φ' → Le Pr Pr2 → Rep K cA Lk φ' F' Pr2 w' σ H' → Q r H'
  | .ex x w' => ∀ cls dx H' φ' F' Pr2, Le F F' → Pf φ φ' → Le Pr Pr2 → Rep K cA Lk φ' F' Pr2 w' σ H' → XR cA K φ' F' H' x cls dx → Wd cls dx σ H'
  | .no => False
section
variable {K : PySem.W.Frag} {cA : CA} {Wd : WX} {Lk : Addr → Option (Obj × HO)} {φ φ' : List Addr} {F F' Pr Pr2 H : Hp} {σ : L2.St} {D : Ends} {w : W}
theorem tMS_of {m : MS} (R : Rep K cA Lk φ F Pr w σ H) (h : MSP K cA Wd Lk φ F Pr D (m w)) : tMS K cA Wd m D σ H := ⟨Lk, φ, F, Pr, w, R, h⟩
theorem tM_of {m : ME} {Q : VK} (R : Rep K cA Lk φ F Pr w σ H) (h : MP K cA Wd Lk φ F Pr σ Q (m w)) : tM K cA Wd m σ H Q := ⟨Lk, φ, F, Pr, w, R, h⟩
theorem MSP.step {r : Res Sig} (l : Le F F') (p : Pf φ φ') (lp : Le Pr Pr2) (h : MSP K cA Wd Lk φ F Pr D r) : MSP K cA Wd Lk φ' F' Pr2 D r := by
  match r, h with
  | .ok .nx w', h => exact fun σ' H' φ'' F'' l2 p2 R => h σ' H' φ'' F'' (l.trans l2) (p.trans p2) (R.weak lp)
  | .ok .bk w', h => exact fun σ' H' φ'' F'' l2 p2 R => h σ' H' φ'' F'' (l.trans l2) (p.trans p2) (R.weak lp)
  | .ok .ct w', h => exact fun σ' H' φ'' F'' l2 p2 R => h σ' H' φ'' F'' (l.trans l2) (p.trans p2) (R.weak lp)
  | .ok (.rt r) w', h => exact fun v σ' H' φ'' F'' Pr3 l2 p2 lp2 R rv => h v σ' H' φ'' F'' Pr3 (l.trans l2) (p.trans p2) (lp.trans lp2) R (rv.narrow lp)
  | .ex x w', h => exact fun cls dx σ' H' φ'' F'' l2 p2 R x => h cls dx σ' H' φ'' F'' (l.trans l2) (p.trans p2) (R.weak lp) x
theorem MP.step {r : Res R} {Q : VK} (l : Le F F') (p : Pf φ φ') (lp : Le Pr Pr2) (h : MP K cA Wd Lk φ F Pr σ Q r) : MP K cA Wd Lk φ' F' Pr2 σ Q r := by
  match r, h with
  | .ok r w', h => exact fun v H' φ'' F'' Pr3 l2 p2 lp2 R rv => h v H' φ'' F'' Pr3 (l.trans l2) (p.trans p2) (lp.trans lp2) R (rv.narrow lp)
  | .ex x w', h => exact fun cls dx H' φ'' F'' Pr3 l2 p2 lp2 R x => h cls dx H' φ'' F'' Pr3 (l.trans l2) (p.trans p2) (lp.trans lp2) R x
theorem MPT.step {r : Res Bool} {Q : Bool → Hp → Prop} (l : Le F F') (p : Pf φ φ') (lp : Le Pr Pr2) (h : MPT K cA Wd Lk φ F Pr σ Q r) : MPT K cA Wd Lk φ' F' Pr2 σ Q r := by
  match r, h with
  | .ok r w', h => exact fun H' φ'' F'' Pr3 l2 p2 lp2 R => h H' φ'' F'' Pr3 (l.trans l2) (p.trans p2) (lp.trans lp2) R
  | .ex x w', h => exact fun cls dx H' φ'' F'' Pr3 l2 p2 lp2 R x => h cls dx H' φ'' F'' Pr3 (l.trans l2) (p.trans p2) (lp.trans lp2) R x
/-- an expression's meaning, then what is made of its value -/
def sDo (m : ME) (f : R → W → Res Sig) : MS := fun w => (m w).bind f
/-- the rule for readings that begin with an expression's -/
theorem rd_do {m : ME} {f : R → W → Res Sig} {k : V → Hp → Prop} (hk : ∀ v H' φ' F' Pr2 r w', Le F F' → Pf φ φ' → Le Pr Pr2 → Rep K cA Lk φ' F' Pr2 w' σ H' → RV K φ' F' Pr Pr2 σ v r → MSP K cA Wd Lk φ F Pr D (f r w') → k v H')
    (R : Rep K cA Lk φ F Pr w σ H) (h : MSP K cA Wd Lk φ F Pr D (sDo m f w)) : tM K cA Wd m σ H k := by
  refine tM_of R ?_
  unfold sDo at h
  cases e : m w with
  | no => rw [e] at h; exact h
  | ex x w1 => rw [e] at h; exact fun cls dx H' φ' F' Pr2 l p lp R xr => h cls dx σ H' φ' F' l p (R.weak lp) xr
  | ok r w1 => rw [e] at h; exact fun v H' φ' F' Pr2 l p lp R rv => hk v H' φ' F' Pr2 r w1 l p lp R rv h
theorem rd_doT {m : MT} {f : Bool → W → Res Sig} {k : Bool → Hp → Prop} (hk : ∀ H' φ' F' Pr2 b w', Le F F' → Pf φ φ' → Le Pr Pr2 → Rep K cA Lk φ' F' Pr2 w' σ H' → MSP K cA Wd Lk φ F Pr D (f b w') → k b H')
    (R : Rep K cA Lk φ F Pr w σ H) (h : MSP K cA Wd Lk φ F Pr D ((m w).bind f)) : tMT K cA Wd m σ H k := by
  refine ⟨Lk, φ, F, Pr, w, R, ?_⟩
  cases e : m w with
  | no => rw [e] at h; exact h
  | ex x w1 => rw [e] at h; exact fun cls dx H' φ' F' Pr2 l p lp R xr => h cls dx σ H' φ' F' l p (R.weak lp) xr
  | ok r w1 => rw [e] at h; exact fun H' φ' F' Pr2 l p lp R => hk H' φ' F' Pr2 r w1 l p lp R h
end

/-! ### the meanings -/
def sSkip : MS := fun w => .ok .nx w
def sBk : MS := fun w => .ok .bk w
def sCt : MS := fun w => .ok .ct w
def sSeq (a b : MS) : MS := fun w => match a w with
  | .ok .nx w' => b w'
  | r => r
def sDrop (m : ME) : MS := fun w => (m w).bind fun _ w1 => .ok .nx w1
/-- the value that leaves the def -/
def sRet (m : ME) : MS := fun w => (m w).bind fun r w1 => match r with
  | .sh d => .ok (.rt (.sh d)) w1
  | .own d => .ok (.rt (.own d)) w1
  | .bor i => match w1.env[i]? with
    | some (some (.sh d)) => .ok (.rt (.sh d)) w1
    | some (some (.own d)) => .ok (.rt (.own d)) { w1 with env := w1.env.set i none }
    | _ => .no
def sRetN : MS := fun w => .ok (.rt (.sh .non)) w
def sIf (t : MT) (a b : MS) : MS := fun w => (t w).bind fun c w1 => if c = true then a w1 else b w1
/-- the slot i takes the value -/
def putR (i : Nat) (r : R) (w : W) : Res Sig := match r with
  | .sh d => .ok .nx { w with env := w.env.set i (some (.sh d)) }
  | .own d => .ok .nx { w with env := w.env.set i (some (.own d)) }
  | .bor _ => .no
def sSet (i : Nat) (m : ME) : MS := fun w => (m w).bind fun r w1 => putR i r w1
def sWhile (t : MT) (b : MS) : Nat → MS
  | 0 => fun _ => .no
  | n + 1 => fun w => (t w).bind fun c w1 => if c = true then (match b w1 with
      | .ok .nx w2 => sWhile t b n w2
      | .ok .ct w2 => sWhile t b n w2
      | .ok .bk w2 => .ok .nx w2
      | r => r) else .ok .nx w1
section
variable {K : PySem.W.Frag} {cA : CA} {Wd : WX} {H : Hp} {σ : L2.St} {D : Ends}
theorem rd_skip (h : tMS K cA Wd sSkip D σ H) : tNext D σ H := by
  obtain ⟨Lk, φ, F, Pr, w, R, h⟩ := h
  exact h σ H φ F (Le.refl _) (Pf.refl _) R
theorem rd_bk (h : tMS K cA Wd sBk D σ H) : tBreak D σ H := by
  obtain ⟨Lk, φ, F, Pr, w, R, h⟩ := h
  exact h σ H φ F (Le.refl _) (Pf.refl _) R
theorem rd_ct (h : tMS K cA Wd sCt D σ H) : tCont D σ H := by
  obtain ⟨Lk, φ, F, Pr, w, R, h⟩ := h
  exact h σ H φ F (Le.refl _) (Pf.refl _) R
theorem rd_seq {a b : MS} (h : tMS K cA Wd (sSeq a b) D σ H) : tSeq (tMS K cA Wd a) (tMS K cA Wd b) D σ H := by
  obtain ⟨Lk, φ, F, Pr, w, R, h⟩ := h
  have h : MSP K cA Wd Lk φ F Pr D (sSeq a b w) := h
  unfold sSeq at h
  refine tMS_of R ?_
  cases e : a w with
  | no => rw [e] at h; exact h
  | ex x w1 => rw [e] at h; exact h
  | ok s w1 =>
    rw [e] at h
    cases s with
    | nx => exact fun σ' H' φ' F' l p R' => tMS_of R' (MSP.step l p (Le.refl _) h)
    | bk => exact h
    | ct => exact h
    | rt r => exact h
theorem rd_drop {m : ME} (h : tMS K cA Wd (sDrop m) D σ H) : tDrop (tM K cA Wd m) D σ H := by
  obtain ⟨Lk, φ, F, Pr, w, R, h⟩ := h
  exact rd_do (f := fun _ w1 => .ok .nx w1) (fun v H' φ' F' Pr2 r w' l p lp R rv h => h σ H' φ' F' l p (R.weak lp)) R h
theorem rd_retN (h : tMS K cA Wd sRetN D σ H) : tRetN D σ H := by
  obtain ⟨Lk, φ, F, Pr, w, R, h⟩ := h
  exact h .non σ H φ F Pr (Le.refl _) (Pf.refl _) (Le.refl _) R .non
theorem rd_ret {m : ME} (h : tMS K cA Wd (sRet m) D σ H) : tRet (tM K cA Wd m) D σ H := by
  obtain ⟨Lk, φ, F, Pr, w, R, h⟩ := h
  refine rd_do (f := _) (fun v H' φ' F' Pr2 r w' l p lp R rv h => ?_) R h
  cases r with
  | sh d => exact h v σ H' φ' F' Pr2 l p lp R rv
  | own d => exact h v σ H' φ' F' Pr2 l p lp R rv
  | bor i =>
    simp only at h
    cases e : w'.env[i]? with
    | none => rw [e] at h; exact h.elim
    | some s =>
      rw [e] at h
      cases s with
      | none => exact h.elim
      | some s =>
        cases s with
        | sh d =>
          obtain ⟨v', h1, h2⟩ := R.sl i _ e
          have hv : σ[i]? = some (some v) := rv
          rw [hv] at h1; cases h1
          exact h v σ H' φ' F' Pr2 l p lp R h2
        | own d =>
          obtain ⟨a, o, h1, h2, h3, R2⟩ := R.take e
          have hv : σ[i]? = some (some v) := rv
          rw [hv] at h1; cases h1
          have l2 : Le Pr2 (upd Pr2 a o) := Le.new h3
          have pa : Pr a = none := by
            cases q : Pr a with
            | none => rfl
            | some u => rw [lp _ _ q] at h3; cases h3
          exact h _ σ H' φ' F' (upd Pr2 a o) l p (lp.trans l2) R2 ⟨a, o, rfl, pa, upd_same, h2⟩
theorem rd_ifS {t : MT} {a b : MS} (h : tMS K cA Wd (sIf t a b) D σ H) : tIfS (tMT K cA Wd t) (tMS K cA Wd a) (tMS K cA Wd b) D σ H := by
  obtain ⟨Lk, φ, F, Pr, w, R, h⟩ := h
  refine rd_doT (f := fun c w1 => if c = true then a w1 else b w1) (fun H' φ' F' Pr2 c w' l p lp R h => ?_) R h
  cases c with
  | true => exact tMS_of (R.weak lp) (MSP.step l p (Le.refl _) h)
  | false => exact tMS_of (R.weak lp) (MSP.step l p (Le.refl _) h)
theorem rd_put {Lk : Addr → Option (Obj × HO)} {φ : List Addr} {F Pr Pr2 : Hp} {w : W} {v : V} {r : R} {i : Nat} (lp : Le Pr Pr2) (R : Rep K cA Lk φ F Pr2 w σ H) (rv : RV K φ F Pr Pr2 σ v r) (h : MSP K cA Wd Lk φ F Pr D (putR i r w)) : D.nx (σ.set i (some v)) H := by
  cases r with
  | bor j => exact h.elim
  | sh d => exact h _ H φ F (Le.refl _) (Pf.refl _) ((R.setSh rv).weak lp)
  | own c =>
    obtain ⟨q, o, rfl, h1, h2, h3⟩ := rv
    -- the pending container of the protected part becomes the slot's
    have e : upd (fun b => if b = q then none else Pr2 b) q o = Pr2 := by
      funext b
      by_cases hb : b = q
      · rw [hb, upd_same, h2]
      · rw [upd_ne hb]; simp [hb]
    have R1 : Rep K cA Lk φ F (upd (fun b => if b = q then none else Pr2 b) q o) w σ H := by rw [e]; exact R
    have R2 := R1.setOwn (i := i) (by simp) h3
    refine h _ H φ F (Le.refl _) (Pf.refl _) (R2.weak fun b u hb => ?_)
    have nb : b ≠ q := fun z => by rw [z, h1] at hb; cases hb
    simp [nb, lp _ _ hb]
theorem rd_set {i : Nat} {m : ME} (h : tMS K cA Wd (sSet i m) D σ H) : tM K cA Wd m σ H fun v H' => D.nx (σ.set i (some v)) H' := by
  obtain ⟨Lk, φ, F, Pr, w, R, h⟩ := h
  exact rd_do (f := fun r w1 => putR i r w1) (fun v H' φ' F' Pr2 r w' l p lp R rv h => rd_put lp R rv (MSP.step l p (Le.refl _) h)) R h
theorem rd_while {t : MT} {b : MS} {n : Nat} (h : tMS K cA Wd (sWhile t b n) D σ H) : tWhile (tMT K cA Wd t) (tMS K cA Wd b) D σ H := by
  obtain ⟨Lk, φ0, F0, Pr, w0, R0, h0⟩ := h
  refine ⟨fun m σ H => ∃ φ F w, Rep K cA Lk φ F Pr w σ H ∧ MSP K cA Wd Lk φ F Pr D (sWhile t b m w), ⟨n, φ0, F0, w0, R0, h0⟩, ?_⟩
  rintro m σ H ⟨φ, F, w, R, h⟩
  cases m with
  | zero => exact h.elim
  | succ m =>
    rw [sWhile] at h
    refine rd_doT (Lk := Lk) (φ := φ) (F := F) (Pr := Pr) (D := D) (f := _) (fun H' φ' F' Pr2 c w' l p lp R h => ?_) R h
    cases c with
    | false => exact h σ H' φ' F' l p (R.weak lp)
    | true =>
      simp only [if_true] at h ⊢
      refine ⟨fun σ' H' => ∃ φ F w, Rep K cA Lk φ F Pr w σ' H' ∧ MSP K cA Wd Lk φ F Pr D (sWhile t b m w), fun σ' H' q => ⟨m, Nat.lt_succ_self m, q⟩, ?_⟩
      have h := MSP.step l p (Le.refl _) h
      refine tMS_of (R.weak lp) ?_
      cases e : b w' with
      | no => rw [e] at h; exact h
      | ex x w1 => rw [e] at h; exact h
      | ok s w1 =>
        rw [e] at h
        cases s with
        | nx => exact fun σ' H' φ'' F'' l p R' => ⟨φ'', F'', w1, R', MSP.step l p (Le.refl _) h⟩
        | ct => exact fun σ' H' φ'' F'' l p R' => ⟨φ'', F'', w1, R', MSP.step l p (Le.refl _) h⟩
        | bk => exact h
        | rt r => exact h
end
end Rf
set_option maxHeartbeats 1000000
/-! Rf7: what is walked; for; list comprehensions. -/
namespace Rf
open PySem L2
open PyProof.Rows hiding St

instance : DecidableEq Ob := fun a b => match a, b with
  | .ins C fs, .ins C' fs' => if h : C = C' ∧ fs = fs' then .isTrue (by rw [h.1, h.2]) else .isFalse fun e => h (by cases e; exact ⟨rfl, rfl⟩)
  | .lst x, .lst y => if h : x = y then .isTrue (by rw [h]) else .isFalse fun e => h (by cases e; rfl)
  | .dct s x, .dct t y => if h : s = t ∧ x = y then .isTrue (by rw [h.1, h.2]) else .isFalse fun e => h (by cases e; exact ⟨rfl, rfl⟩)
  | .ins _ _, .lst _ => .isFalse fun e => nomatch e
  | .ins _ _, .dct _ _ => .isFalse fun e => nomatch e
  | .lst _, .ins _ _ => .isFalse fun e => nomatch e
  | .lst _, .dct _ _ => .isFalse fun e => nomatch e
  | .dct _ _, .ins _ _ => .isFalse fun e => nomatch e
  | .dct _ _, .lst _ => .isFalse fun e => nomatch e
/-- what must stand while it is walked -/
inductive Src where
  | pur | ob (n : Nat) (o : Ob)
def srcInv : Src → W → Prop
  | .pur, _ => True
  | .ob n o, w => w.st[n]? = some o
def srcOk : Src → W → Bool
  | .pur, _ => true
  | .ob n o, w => decide (w.st[n]? = some o)
theorem srcOk_iff {s : Src} {w : W} : srcOk s w = true ↔ srcInv s w := by
  cases s <;> simp [srcOk, srcInv]
structure ItR (K : PySem.W.Frag) (cA : CA) (Lk : Addr → Option (Obj × HO)) (φ0 : List Addr) (F0 : Hp) (J : It) (ds : List D) (inv : W → Prop) : Prop where
  go : ∀ {φ F Pr w σ H} (i : Nat), Le F0 F → Pf φ0 φ → Rep K cA Lk φ F Pr w σ H → inv w → i < ds.length → J.go i H
  stop : ∀ {φ F Pr w σ H}, Le F0 F → Pf φ0 φ → Rep K cA Lk φ F Pr w σ H → inv w → J.stop ds.length H
  yld : ∀ {φ F Pr w σ H} (i : Nat) (x : V) (H' : Hp) (d : D), Le F0 F → Pf φ0 φ → Rep K cA Lk φ F Pr w σ H → inv w → ds[i]? = some d → J.yld i H x H' → ∃ F', Le F F' ∧ Rep K cA Lk φ F' Pr w σ H' ∧ Sh K φ F' x d
abbrev MI := W → Res (Src × List D)
section
variable (K : PySem.W.Frag) (cA : CA) (Wd : WX)
def tMI (m : MI) : TI := fun σ H R => ∃ Lk φ F Pr w, Rep K cA Lk φ F Pr w σ H ∧ match m w with
  | .ok p w' => ∀ J H' φ' F' Pr2, Le F F' → Pf φ φ' → Le Pr Pr2 → Rep K cA Lk φ' F' Pr2 w' σ H' → ItR K cA Lk φ' F' J p.2 (srcInv p.1) → R J H'
  | .ex x w' => ∀ cls dx H' φ' F' Pr2, Le F F' → Pf φ φ' → Le Pr Pr2 → Rep K cA Lk φ' F' Pr2 w' σ H' → XR cA K φ' F' H' x cls dx → Wd cls dx σ H'
  | .no => False
end

/-- at this state the iteration wi hands out what mi tells -/
def WiAt (K : PySem.W.Frag) (cA : CA) (Wd : WX) (wi : TI) (Lk : Addr → Option (Obj × HO)) (φ : List Addr) (F Pr : Hp) (σ : L2.St) (H : Hp) (res : Res (Src × List D)) : Prop := ∀ R' : It → Hp → Prop, (match res with
  | .ok p w' => ∀ J H' φ' F' Pr2, Le F F' → Pf φ φ' → Le Pr Pr2 → Rep K cA Lk φ' F' Pr2 w' σ H' → ItR K cA Lk φ' F' J p.2 (srcInv p.1) → R' J H'
  | .ex x w' => ∀ cls dx H' φ' F' Pr2, Le F F' → Pf φ φ' → Le Pr Pr2 → Rep K cA Lk φ' F' Pr2 w' σ H' → XR cA K φ' F' H' x cls dx → Wd cls dx σ H'
  | .no => False) → wi σ H R'
theorem wiAt_tMI {K : PySem.W.Frag} {cA : CA} {Wd : WX} {Lk : Addr → Option (Obj × HO)} {φ : List Addr} {F Pr : Hp} {w : W} {σ : L2.St} {H : Hp} {mi : MI} (R : Rep K cA Lk φ F Pr w σ H) : WiAt K cA Wd (tMI K cA Wd mi) Lk φ F Pr σ H (mi w) := fun R' h => ⟨Lk, φ, F, Pr, w, R, h⟩

/-! ### targets -/
abbrev TgM := D → W → Option W
def gtName (i : Nat) : TgM := fun d w => some { w with env := w.env.set i (some (.sh d)) }
def gtNil : List D → W → Option W := fun ds w => match ds with
  | [] => some w
  | _ => none
def gtCons (t : TgM) (u : List D → W → Option W) : List D → W → Option W := fun ds w => match ds with
  | [] => none
  | d :: r => (t d w).bind (u r)
def gtTup (n : Nat) (t : List D → W → Option W) : TgM := fun d w => match d with
  | .tup ds => if ds.length = n then t ds w else none
  | _ => none
def GFit (K : PySem.W.Frag) (cA : CA) (vs : List Nat) (g : TG) (t : TgM) : Prop := ∀ (Lk : Addr → Option (Obj × HO)) (φ : List Addr) (F Pr : Hp) (w w' : W) (σ : L2.St) (H : Hp) (v : V) (d : D) (Q : L2.St → Hp → Prop), Rep K cA Lk φ F Pr w σ H → Sh K φ F v d → t d w = some w' →
  (∀ σ', (∀ u, (∀ i ∈ vs, i ∈ u) → wipe σ' u = wipe σ u) → Rep K cA Lk φ F Pr w' σ' H → Q σ' H) → g v σ H Q
def GFits (K : PySem.W.Frag) (cA : CA) (vs : List Nat) (g : TGs) (t : List D → W → Option W) : Prop := ∀ (Lk : Addr → Option (Obj × HO)) (φ : List Addr) (F Pr : Hp) (w w' : W) (σ : L2.St) (H : Hp) (xs : List V) (ds : List D) (Q : L2.St → Hp → Prop), Rep K cA Lk φ F Pr w σ H → Shs K φ F xs ds → t ds w = some w' →
  (∀ σ', (∀ u, (∀ i ∈ vs, i ∈ u) → wipe σ' u = wipe σ u) → Rep K cA Lk φ F Pr w' σ' H → Q σ' H) → g xs σ H Q
theorem wipe_in {σ : L2.St} {i : Nat} {x : Option V} : ∀ {u : List Nat}, i ∈ u → wipe (σ.set i x) u = wipe σ u
  | [], h => by simp at h
  | v :: r, h => by
    show (wipe (σ.set i x) r).set v none = (wipe σ r).set v none
    by_cases hr : i ∈ r
    · rw [wipe_in hr]
    · have hv : i = v := by
        rcases List.mem_cons.mp h with h | h
        · exact h
        · exact absurd h hr
      subst hv
      have comm : ∀ (u : List Nat), i ∉ u → wipe (σ.set i x) u = (wipe σ u).set i x := by
        intro u
        induction u with
        | nil => intro _; rfl
        | cons w r ih =>
          intro hu
          show (wipe (σ.set i x) r).set w none = ((wipe σ r).set w none).set i x
          rw [ih fun q => hu (List.mem_cons_of_mem _ q), List.set_comm]
          exact fun z => hu (by rw [← z]; exact List.mem_cons_self)
      rw [comm r hr, List.set_set]
theorem wipe_at {σ : L2.St} {vs : List Nat} {j : Nat} (hj : j ∈ vs) (hl : j < σ.length) : (wipe σ vs)[j]? = some none := by
  cases h : (wipe σ vs)[j]? with
  | none =>
    have := List.getElem?_eq_none_iff.mp h
    rw [wipe_length] at this
    omega
  | some o =>
    cases o with
    | none => rfl
    | some x => exact absurd hj (wipe_some h).2
theorem wipe_wipe {σ : L2.St} {vs : List Nat} : wipe (wipe σ vs) vs = wipe σ vs := by
  refine List.ext_getElem? fun j => ?_
  by_cases hj : j ∈ vs
  · by_cases hl : j < σ.length
    · rw [wipe_at hj (by rw [wipe_length]; exact hl), wipe_at hj hl]
    · rw [List.getElem?_eq_none (by rw [wipe_length, wipe_length]; omega), List.getElem?_eq_none (by rw [wipe_length]; omega)]
  · rw [wipe_out hj]
section
variable {K : PySem.W.Frag} {cA : CA}
theorem gf_name {i : Nat} : GFit K cA [i] (gName i) (gtName i) := by
  intro Lk φ F Pr w w' σ H v d Q R h e k
  cases e
  exact k _ (fun u hu => wipe_in (hu i (List.mem_singleton.mpr rfl))) (R.setSh h)
theorem gfs_nil : GFits K cA [] gNil gtNil := by
  intro Lk φ F Pr w w' σ H xs ds Q R h e k
  cases ds with
  | cons d r => cases e
  | nil =>
    cases e
    exact ⟨h.nil_r, k σ (fun u _ => rfl) R⟩
theorem gfs_cons {vs us : List Nat} {g : TG} {t : TgM} {gs : TGs} {ts : List D → W → Option W} (h1 : GFit K cA vs g t) (h2 : GFits K cA us gs ts) : GFits K cA (vs ++ us) (gCons g gs) (gtCons t ts) := by
  intro Lk φ F Pr w w' σ H xs ds Q R h e k
  cases ds with
  | nil => cases e
  | cons d r =>
    obtain ⟨v, ys, rfl, s1, s2⟩ := h.cons_r
    have e : (t d w).bind (ts r) = some w' := e
    cases e1 : t d w with
    | none => rw [e1] at e; cases e
    | some w1 =>
      rw [e1] at e
      refine ⟨v, ys, rfl, h1 Lk φ F Pr w w1 σ H v d _ R s1 e1 fun σ1 hw R1 => h2 Lk φ F Pr w1 w' σ1 H ys r _ R1 s2 e fun σ2 hw2 R2 => k σ2 (fun u hu => ?_) R2⟩
      rw [hw2 u fun i hi => hu i (List.mem_append_right _ hi), hw u fun i hi => hu i (List.mem_append_left _ hi)]
theorem gf_tup {n : Nat} {us : List Nat} {gs : TGs} {ts : List D → W → Option W} (h2 : GFits K cA us gs ts) : GFit K cA us (gTup K n gs) (gtTup n ts) := by
  intro Lk φ F Pr w w' σ H v d Q R h e k
  cases d with
  | tup ds =>
    have e : (if ds.length = n then ts ds w else none) = some w' := e
    by_cases hz : ds.length = n
    · rw [if_pos hz] at e
      obtain ⟨a, xs, rfl, s1, s2⟩ := h.tup_d
      exact ⟨a, xs, rfl, R.sqT s1, s2.1.trans hz, h2 Lk φ F Pr w w' σ H xs ds Q R s2 e k⟩
    · rw [if_neg hz] at e; cases e
  | _ => cases e
end

/-! ### for -/
def sForL (src : Src) (tg : TgM) (b : MS) : List D → W → Res Sig
  | [], w => if srcOk src w = true then .ok .nx w else .no
  | d :: ds, w => if srcOk src w = true then (match tg d w with
      | some w1 => (match b w1 with
        | .ok .nx w2 => sForL src tg b ds w2
        | .ok .ct w2 => sForL src tg b ds w2
        | .ok .bk w2 => .ok .nx w2
        | r => r)
      | none => .no) else .no
def sFor (mi : MI) (tg : TgM) (b : MS) : MS := fun w => (mi w).bind fun p w1 => sForL p.1 tg b p.2 w1
section
variable {K : PySem.W.Frag} {cA : CA} {Wd : WX} {H : Hp} {σ : L2.St} {E : Ends}
theorem for_at {mi : MI} {tg : TgM} {b : MS} {g : TG} {vs : List Nat} {wi : TI} {Lk : Addr → Option (Obj × HO)} {φ0 : List Addr} {F0 Pr : Hp} {w0 : W} (gf : GFit K cA vs g tg) (hw : WiAt K cA Wd wi Lk φ0 F0 Pr σ H (mi w0)) (h : MSP K cA Wd Lk φ0 F0 Pr E (sFor mi tg b w0)) : tFor wi g (tMS K cA Wd b) E σ H := by
  unfold sFor at h
  refine hw _ ?_
  cases e : mi w0 with
  | no => rw [e] at h; exact h
  | ex x w1 => rw [e] at h; exact fun cls dx H' φ' F' Pr2 l p lp R xr => h cls dx σ H' φ' F' l p (R.weak lp) xr
  | ok p w1 =>
    rw [e] at h
    obtain ⟨src, ds⟩ := p
    intro J H1 φ1 F1 Pr1 l1 p1 lp1 R1 it
    have h : MSP K cA Wd Lk φ0 F0 Pr E (sForL src tg b ds w1) := h
    refine ⟨fun i m σ H => ∃ φ F w, Le F1 F ∧ Pf φ1 φ ∧ Rep K cA Lk φ F Pr w σ H ∧ m = ds.length - i ∧ i ≤ ds.length ∧ MSP K cA Wd Lk φ F Pr E (sForL src tg b (ds.drop i) w),
      ⟨ds.length, φ1, F1, w1, Le.refl _, Pf.refl _, R1.weak lp1, by simp, Nat.zero_le _, MSP.step l1 p1 (Le.refl _) h⟩, ?_⟩
    rintro i m σ H ⟨φ, F, w, l, pf, R, rfl, hi, h⟩
    by_cases hlt : i < ds.length
    · have hd : ds.drop i = ds[i] :: ds.drop (i + 1) := List.drop_eq_getElem_cons hlt
      rw [hd, sForL] at h
      by_cases hs : srcOk src w = true
      · rw [if_pos hs] at h
        have iv := srcOk_iff.mp hs
        refine .inr ⟨it.go i l pf R iv hlt, fun σ' H' => ∃ φ F w, Le F1 F ∧ Pf φ1 φ ∧ Rep K cA Lk φ F Pr w σ' H' ∧ MSP K cA Wd Lk φ F Pr E (sForL src tg b (ds.drop (i + 1)) w), fun σ' H' q => ?_, fun x H' y => ?_⟩
        · obtain ⟨φ', F', w', q1, q2, q3, q4⟩ := q
          exact ⟨ds.length - (i + 1), by omega, φ', F', w', q1, q2, q3, rfl, hlt, q4⟩
        · obtain ⟨F2, l2, R2, s2⟩ := it.yld i x H' ds[i] l pf R iv (List.getElem?_eq_getElem hlt) y
          cases e2 : tg ds[i] w with
          | none => rw [e2] at h; exact h.elim
          | some w2 =>
            rw [e2] at h
            refine gf Lk φ F2 Pr w w2 σ H' x ds[i] _ R2 s2 e2 fun σ2 _ R3 => ?_
            have h := MSP.step l2 (Pf.refl _) (Le.refl _) h
            refine tMS_of R3 ?_
            simp only at h
            cases e3 : b w2 with
            | no => rw [e3] at h; exact h
            | ex x w3 => rw [e3] at h; exact h
            | ok s w3 =>
              rw [e3] at h
              cases s with
              | nx => exact fun σ' H' φ'' F'' l3 p3 R' => ⟨φ'', F'', w3, (l.trans l2).trans l3, pf.trans p3, R', MSP.step l3 p3 (Le.refl _) h⟩
              | ct => exact fun σ' H' φ'' F'' l3 p3 R' => ⟨φ'', F'', w3, (l.trans l2).trans l3, pf.trans p3, R', MSP.step l3 p3 (Le.refl _) h⟩
              | bk => exact h
              | rt r => exact h
      · rw [if_neg hs] at h; exact h.elim
    · have ei : i = ds.length := by omega
      subst ei
      rw [List.drop_length, sForL] at h
      by_cases hs : srcOk src w = true
      · rw [if_pos hs] at h
        exact .inl ⟨it.stop l pf R (srcOk_iff.mp hs), h σ H φ F (Le.refl _) (Pf.refl _) R⟩
      · rw [if_neg hs] at h; exact h.elim
theorem rd_for {mi : MI} {tg : TgM} {b : MS} {g : TG} {vs : List Nat} (gf : GFit K cA vs g tg) (h : tMS K cA Wd (sFor mi tg b) E σ H) : tFor (tMI K cA Wd mi) g (tMS K cA Wd b) E σ H := by
  obtain ⟨Lk, φ0, F0, Pr, w0, R0, h⟩ := h
  exact for_at gf (wiAt_tMI R0) h
end

/-! ### a block's slots -/
def wipeE (vs : List Nat) : Nat → List (Option S) → List (Option S)
  | _, [] => []
  | i, a :: r => (if vs.contains i then none else a) :: wipeE vs (i + 1) r
def keepSh : Option S → Option S
  | some (.sh d) => some (.sh d)
  | _ => none
def restE (vs : List Nat) : Nat → List (Option S) → List (Option S) → List (Option S)
  | i, a :: r, b :: t => (if vs.contains i then keepSh a else b) :: restE vs (i + 1) r t
  | _, _, _ => []
theorem wipeE_len (vs : List Nat) : ∀ (k : Nat) (e : List (Option S)), (wipeE vs k e).length = e.length
  | _, [] => rfl
  | k, a :: r => by simp [wipeE, wipeE_len vs (k + 1) r]
theorem wipeE_get (vs : List Nat) : ∀ (k : Nat) (e : List (Option S)) (i : Nat) (s : S), (wipeE vs k e)[i]? = some (some s) → (k + i) ∉ vs ∧ e[i]? = some (some s)
  | _, [], i, s, h => by simp [wipeE] at h
  | k, a :: r, 0, s, h => by
    simp only [wipeE, List.getElem?_cons_zero, Option.some.injEq] at h
    split at h
    · cases h
    · rename_i q
      exact ⟨by simpa using q, by simp [h]⟩
  | k, a :: r, i + 1, s, h => by
    simp only [wipeE, List.getElem?_cons_succ] at h
    have := wipeE_get vs (k + 1) r i s h
    exact ⟨by rw [show k + (i + 1) = k + 1 + i by omega]; exact this.1, by simpa using this.2⟩
theorem restE_len (vs : List Nat) : ∀ (k : Nat) (e t : List (Option S)), e.length = t.length → (restE vs k e t).length = t.length
  | _, [], [], _ => rfl
  | _, [], _ :: _, h => by simp at h
  | _, _ :: _, [], h => by simp at h
  | k, a :: r, b :: t, h => by simp [restE, restE_len vs (k + 1) r t (by simpa using h)]
theorem restE_get (vs : List Nat) : ∀ (k : Nat) (e t : List (Option S)) (i : Nat) (s : S), (restE vs k e t)[i]? = some (some s) → ((k + i) ∈ vs ∧ (∃ d, s = .sh d) ∧ e[i]? = some (some s)) ∨ ((k + i) ∉ vs ∧ t[i]? = some (some s))
  | _, [], _, i, s, h => by simp [restE] at h
  | _, _ :: _, [], i, s, h => by simp [restE] at h
  | k, a :: r, b :: t, 0, s, h => by
    simp only [restE, List.getElem?_cons_zero, Option.some.injEq] at h
    split at h
    · rename_i q
      refine .inl ⟨by simpa using q, ?_⟩
      cases a with
      | none => cases h
      | some a =>
        cases a with
        | sh d => cases h; exact ⟨⟨d, rfl⟩, rfl⟩
        | own d => cases h
    · rename_i q
      exact .inr ⟨by simpa using q, by simp [h]⟩
  | k, a :: r, b :: t, i + 1, s, h => by
    simp only [restE, List.getElem?_cons_succ] at h
    have := restE_get vs (k + 1) r t i s h
    rw [show k + (i + 1) = k + 1 + i by omega]
    simpa using this
def wipeW (vs : List Nat) (w : W) : W := { w with env := wipeE vs 0 w.env }
def restW (vs : List Nat) (w0 w : W) : W := { w with env := restE vs 0 w0.env w.env }
section
variable {K : PySem.W.Frag} {cA : CA} {Lk : Addr → Option (Obj × HO)} {φ φ' : List Addr} {F F' Pr Pr' H H' : Hp} {w w' : W} {σ : L2.St} {vs : List Nat} {p : Addr} {o o' : HO}
theorem Rep.wipe (R : Rep K cA Lk φ F Pr w σ H) : Rep K cA Lk φ F Pr (wipeW vs w) (L2.wipe σ vs) H := by
  refine ⟨by show (wipeE vs 0 w.env).length = _; rw [wipeE_len, wipe_length]; exact R.len, R.lkh, R.fz, R.pr, R.plen, R.ob, R.of, R.pnd, fun i s e => ?_, fun i j a c c' e1 e2 e3 e4 => ?_, R.tab⟩
  · obtain ⟨h1, h2⟩ := wipeE_get vs 0 w.env i s e
    obtain ⟨v, g1, g2⟩ := R.sl i s h2
    exact ⟨v, by rw [wipe_out (by simpa using h1)]; exact g1, g2⟩
  · obtain ⟨_, h2⟩ := wipeE_get vs 0 w.env i _ e1
    obtain ⟨_, h4⟩ := wipeE_get vs 0 w.env j _ e2
    exact R.inj i j a c c' h2 h4 (wipe_some e3).1 (wipe_some e4).1
/-- wiped again -/
theorem Rep.rewipe {σ2 : L2.St} (hw : L2.wipe σ2 vs = L2.wipe σ vs) (R : Rep K cA Lk φ F Pr w σ2 H) : Rep K cA Lk φ F Pr (wipeW vs w) (L2.wipe σ vs) H := by
  rw [← hw]; exact R.wipe
theorem Rep.unwipe (R0 : Rep K cA Lk φ F Pr w σ H) (l : Le F F') (pf : Pf φ φ') (R : Rep K cA Lk φ' F' Pr' w' (L2.wipe σ vs) H') : Rep K cA Lk φ' F' Pr' (restW vs w w') σ H' := by
  have hl : w.env.length = w'.env.length := by rw [R0.len, R.len, wipe_length]
  refine ⟨by show (restE vs 0 w.env w'.env).length = _; rw [restE_len vs 0 _ _ hl, R.len, wipe_length], R.lkh, R.fz, R.pr, R.plen, R.ob, R.of, R.pnd, fun i s e => ?_, fun i j a c c' e1 e2 e3 e4 => ?_, R.tab⟩
  · rcases restE_get vs 0 w.env w'.env i s e with ⟨_, ⟨d, rfl⟩, h2⟩ | ⟨_, h2⟩
    · obtain ⟨v, g1, g2⟩ := R0.sl i _ h2
      exact ⟨v, g1, Sh.le l pf g2⟩
    · obtain ⟨v, g1, g2⟩ := R.sl i s h2
      exact ⟨v, (wipe_some g1).1, g2⟩
  · have key : ∀ (x : Nat) c a, (restE vs 0 w.env w'.env)[x]? = some (some (S.own c)) → σ[x]? = some (some (V.ref a)) → w'.env[x]? = some (some (S.own c)) ∧ (L2.wipe σ vs)[x]? = some (some (V.ref a)) := fun x c a q q2 => by
      rcases restE_get vs 0 w.env w'.env x _ q with ⟨_, ⟨d, z⟩, _⟩ | ⟨h1, h2⟩
      · cases z
      · exact ⟨h2, by rw [wipe_out (by simpa using h1)]; exact q2⟩
    obtain ⟨q1, q2⟩ := key i c a e1 e3
    obtain ⟨q3, q4⟩ := key j c' a e2 e4
    exact R.inj i j a c c' q1 q3 q2 q4
/-- the pending object at p is changed -/
theorem Rep.pendMut (R : Rep K cA Lk φ F (upd Pr p o) w σ H) (pp : Pr p = none) (h1 : ∀ od u, o ≠ .frz od u) (h2 : ∀ ps, o ≠ .tbl ps) (h3 : ∀ z, o ≠ .ext z) : Rep K cA Lk φ F (upd Pr p o') w σ (upd H p o') := by
  have hp : H p = some o := R.pr p o upd_same
  have nF : ∀ b u, F b = some u → b ≠ p := fun b u e z => by have := (R.fz _ _ e).2; rw [z, upd_same] at this; cases this
  have np : ∀ (n : Nat) b, φ[n]? = some b → b ≠ p := fun n b e z => by have := (R.of n b e).2; rw [z, upd_same] at this; cases this
  refine ⟨R.len, R.lkUpd (R.lkAt hp h1), fun b u e => ?_, fun b u e => ?_, R.plen, fun n b u e1 e2 => ?_, fun n b e => ?_, R.pnd, fun i s e => ?_, R.inj, fun t ht => ?_⟩
  · have hb := nF b u e
    have q := R.fz _ _ e
    rw [upd_ne hb] at q ⊢
    exact ⟨fz_upd q.1 hb, q.2⟩
  · by_cases hb : b = p
    · subst hb; rw [upd_same] at e; cases e; exact upd_same
    · rw [upd_ne hb] at e ⊢
      exact R.pr b u (by rw [upd_ne hb]; exact e)
  · exact (R.ob n b u e1 e2).step (Le.refl _) (Pf.refl _) (fun z => z) (upd_ne (np n b e1))
  · have q := R.of n b e
    rw [upd_ne (np n b e)] at q ⊢
    exact q
  · obtain ⟨v, g1, g2⟩ := R.sl i s e
    refine ⟨v, g1, ?_⟩
    cases s with
    | sh d => exact g2
    | own c =>
      obtain ⟨a, u, rfl, g3, g4, g5, g6, g7⟩ := g2
      have ne : a ≠ p := fun z => by rw [z, upd_same] at g6; cases g6
      rw [upd_ne ne] at g6
      exact ⟨a, u, rfl, by rw [upd_ne ne]; exact g3, g4, g5, by rw [upd_ne ne]; exact g6, g7⟩
  · obtain ⟨n, T⟩ := (R.tab t ht).dropP
    exact (T.upd n fun z q => by rw [hp] at q; cases q; exact h3 _ rfl).updP n
end

/-! ### list comprehensions -/
def lcL (vs : List Nat) (src : Src) (tg : TgM) (t : MT) (e : ME) : List D → W → Res (List D)
  | [], w => if srcOk src w = true then .ok [] w else .no
  | d :: ds, w => if srcOk src w = true then (match tg d w with
    | some w1 => (match t w1 with
      | .ok c w2 => if c = true then (match e w2 with
          | .ok (.sh y) w3 => (match lcL vs src tg t e ds (wipeW vs w3) with
            | .ok ys w4 => .ok (y :: ys) w4
            | _ => .no)
          | _ => .no) else lcL vs src tg t e ds (wipeW vs w2)
      | _ => .no)
    | none => .no) else .no
def eLc (mi : MI) (vs : List Nat) (tg : TgM) (t : MT) (e : ME) : ME := fun w => (mi w).bind fun p w1 =>
  if sizeOk p.2.length = true then (match lcL vs p.1 tg t e p.2 (wipeW vs w1) with
    | .ok ys w2 => .ok (.own (.lst ys)) (restW vs w1 w2)
    | _ => .no) else .no
def mYes : MT := fun w => .ok true w
section
variable {K : PySem.W.Frag} {cA : CA} {Wd : WX} {H : Hp} {σ : L2.St} {Q : VK}
theorem rd_yes {Q : Bool → Hp → Prop} (h : tMT K cA Wd mYes σ H Q) : tYes σ H Q := by
  obtain ⟨Lk, φ, F, Pr, w, R, h⟩ := h
  exact h H φ F Pr (Le.refl _) (Pf.refl _) (Le.refl _) R
theorem lc_at {mi : MI} {vs us : List Nat} {tg : TgM} {t : MT} {e : ME} {g : TG} {wi : TI} {Lk : Addr → Option (Obj × HO)} {φ0 : List Addr} {F0 Pr : Hp} {w0 : W} (gf : GFit K cA us g tg) (hu : ∀ i ∈ us, i ∈ vs) (hw : WiAt K cA Wd wi Lk φ0 F0 Pr σ H (mi w0)) (h : MP K cA Wd Lk φ0 F0 Pr σ Q (eLc mi vs tg t e w0)) :
    tLc wi g (tMT K cA (fun _ _ _ _ => False) t) (tM K cA (fun _ _ _ _ => False) e) vs σ H Q := by
  unfold eLc at h
  refine hw _ ?_
  cases em : mi w0 with
  | no => rw [em] at h; exact h
  | ex x w1 => rw [em] at h; exact h
  | ok p w1 =>
    rw [em] at h
    obtain ⟨src, ds⟩ := p
    intro J H1 φ1 F1 Pr1 l1 p1 lp1 R1 it D hD
    have h := MP.step l1 p1 lp1 h
    simp only [Res.bind] at h
    by_cases hz : sizeOk ds.length = true
    case neg => rw [if_neg hz] at h; exact h.elim
    rw [if_pos hz] at h
    obtain ⟨fp, pp, np⟩ := R1.fresh hD
    have R2 : Rep K cA Lk φ1 F1 (upd Pr1 D (.lst [])) (wipeW vs w1) (wipe σ vs) (upd H1 D (.lst [])) := (R1.wipe).pend hD
    cases el : lcL vs src tg t e ds (wipeW vs w1) with
    | no => rw [el] at h; exact h.elim
    | ex x w2 => rw [el] at h; exact h.elim
    | ok out w2 =>
    rw [el] at h
    refine ⟨fun i m H => ∃ φ F w av ad ys, Le F1 F ∧ Pf φ1 φ ∧ Rep K cA Lk φ F (upd Pr1 D (.lst av)) w (wipe σ vs) H ∧ Shs K φ F av ad ∧ ad.length ≤ i ∧ m = ds.length - i ∧ i ≤ ds.length ∧ lcL vs src tg t e (ds.drop i) w = .ok ys w2 ∧ out = ad ++ ys,
      ⟨ds.length, φ1, F1, _, [], [], out, Le.refl _, Pf.refl _, R2, .nil, Nat.zero_le _, by simp, Nat.zero_le _, el, rfl⟩, ?_⟩
    rintro i m H ⟨φ, F, w, av, ad, ys, l, pf, R, sa, ha, rfl, hi, hl, ho⟩
    by_cases hlt : i < ds.length
    · have hd : ds.drop i = ds[i] :: ds.drop (i + 1) := List.drop_eq_getElem_cons hlt
      rw [hd, lcL] at hl
      by_cases hs : srcOk src w = true
      case neg => rw [if_neg hs] at hl; cases hl
      rw [if_pos hs] at hl
      have iv := srcOk_iff.mp hs
      refine .inr ⟨it.go i l pf R iv hlt, fun H' => ∃ φ F w av ad ys, Le F1 F ∧ Pf φ1 φ ∧ Rep K cA Lk φ F (upd Pr1 D (.lst av)) w (wipe σ vs) H' ∧ Shs K φ F av ad ∧ ad.length ≤ i + 1 ∧ lcL vs src tg t e (ds.drop (i + 1)) w = .ok ys w2 ∧ out = ad ++ ys, fun H' q => ?_, fun x H' y => ?_⟩
      · obtain ⟨φ', F', w', av', ad', ys', q1, q2, q3, q4, q5, q6, q7⟩ := q
        exact ⟨ds.length - (i + 1), by omega, φ', F', w', av', ad', ys', q1, q2, q3, q4, q5, rfl, hlt, q6, q7⟩
      · obtain ⟨F2, l2, R3, s2⟩ := it.yld i x H' ds[i] l pf R iv (List.getElem?_eq_getElem hlt) y
        cases e2 : tg ds[i] w with
        | none => rw [e2] at hl; cases hl
        | some w3 =>
          rw [e2] at hl
          refine gf Lk φ F2 _ w w3 (wipe σ vs) H' x ds[i] _ R3 s2 e2 fun σ2 hw2 R4 => ?_
          have hw : wipe σ2 vs = wipe σ vs := by
            rw [hw2 vs hu, wipe_wipe]
          refine ⟨hw, ⟨Lk, φ, F2, _, w3, R4, ?_⟩⟩
          simp only at hl
          cases e3 : t w3 with
          | no => rw [e3] at hl; cases hl
          | ex x w4 => rw [e3] at hl; cases hl
          | ok c w4 =>
            rw [e3] at hl
            intro H3 φ3 F3 Pr3 l3 p3 lp3 R5
            simp only at hl
            cases c with
            | false =>
              simp only [Bool.false_eq_true, if_false] at hl ⊢
              exact ⟨φ3, F3, _, av, ad, ys, (l.trans l2).trans l3, pf.trans p3, (R5.weak lp3).rewipe hw, sa.le (l2.trans l3) p3, by omega, hl, ho⟩
            | true =>
              simp only [if_true] at hl ⊢
              refine ⟨Lk, φ3, F3, _, w4, R5.weak lp3, ?_⟩
              cases e4 : e w4 with
              | no => rw [e4] at hl; cases hl
              | ex x w5 => rw [e4] at hl; cases hl
              | ok r w5 =>
                rw [e4] at hl
                cases r with
                | own d => cases hl
                | bor d => cases hl
                | sh yd =>
                  simp only at hl
                  cases e5 : lcL vs src tg t e (ds.drop (i + 1)) (wipeW vs w5) with
                  | no => rw [e5] at hl; cases hl
                  | ex x w6 => rw [e5] at hl; cases hl
                  | ok ys' w6 =>
                    rw [e5] at hl
                    cases hl
                    intro yv H4 φ4 F4 Pr4 l4 p4 lp4 R6 rv
                    have R7 := R6.weak lp4
                    have hD4 : H4 D = some (.lst av) := R7.pr D _ upd_same
                    have sa4 := sa.le (l2.trans (l3.trans l4)) (p3.trans p4)
                    refine ⟨av, hD4, ?_, ?_⟩
                    · have := sizeOk_le hz
                      rw [sa.1]
                      omega
                    · have R8 := R7.pendMut (o' := .lst (av ++ [yv])) pp (fun _ _ z => nomatch z) (fun _ z => nomatch z) (fun _ z => nomatch z)
                      exact ⟨φ4, F4, _, av ++ [yv], ad ++ [yd], ys', (l.trans l2).trans (l3.trans l4), pf.trans (p3.trans p4), R8.rewipe hw, sa4.snoc rv, by simp; omega, e5, by rw [ho]; simp⟩
    · have ei : i = ds.length := by omega
      subst ei
      rw [List.drop_length, lcL] at hl
      by_cases hs : srcOk src w = true
      case neg => rw [if_neg hs] at hl; cases hl
      rw [if_pos hs] at hl
      cases hl
      refine .inl ⟨it.stop l pf R (srcOk_iff.mp hs), ?_⟩
      exact h (.ref D) H φ F _ l pf (Le.new pp) (R1.unwipe l pf R) ⟨D, _, rfl, pp, upd_same, .lst (by rw [ho, List.append_nil]; exact sa)⟩
theorem rd_lc {mi : MI} {vs us : List Nat} {tg : TgM} {t : MT} {e : ME} {g : TG} (gf : GFit K cA us g tg) (hu : ∀ i ∈ us, i ∈ vs) (h : tM K cA Wd (eLc mi vs tg t e) σ H Q) :
    tLc (tMI K cA Wd mi) g (tMT K cA (fun _ _ _ _ => False) t) (tM K cA (fun _ _ _ _ => False) e) vs σ H Q := by
  obtain ⟨Lk, φ0, F0, Pr, w0, R0, h⟩ := h
  exact lc_at gf hu (wiAt_tMI R0) h
end
end Rf
set_option maxHeartbeats 1000000
/-! Rf11: what is walked, by kinds; dicts are locked meanwhile. -/
namespace Rf
open PySem L2
open PyProof.Rows hiding St

theorem pi_or {X : Cx} {tg iter : Expr} {wi wi' : TI} (h : PI X tg iter wi) (h' : PI X tg iter wi') : PI X tg iter (fun σ H R => wi σ H R ∨ wi' σ H R) := ⟨fun pins s σ H R I hw => hw.elim (h.run pins s σ H R I) (h'.run pins s σ H R I)⟩
theorem pi_imp {X : Cx} {tg iter : Expr} {wi wi' : TI} (h : PI X tg iter wi) (i : ∀ σ H R, wi' σ H R → wi σ H R) : PI X tg iter wi' := ⟨fun pins s σ H R I hw => h.run pins s σ H R I (i σ H R hw)⟩
theorem pe_or2 {X : Cx} {e : Expr} {t t' : TE} (h : PE X e t) (h' : PE X e t') : PE X e (fun σ H Q => t σ H Q ∨ t' σ H Q) := ⟨fun pins s σ H Q I q => q.elim (h.run pins s σ H Q I) (h'.run pins s σ H Q I)⟩

def charsD (x : Str) : List D := x.cps.toList.map fun c => .str ⟨#[c]⟩
def rangeD (lo : Int) (n : Nat) : List D := (List.range n).map fun k => .int (lo + (k : Nat))
def rangeC (lo c : Int) (n : Nat) : List D := (List.range n).map fun k => .int (lo + (k : Nat) * c)
def enumD : Nat → List D → List D
  | _, [] => []
  | k, d :: ds => .tup [.int (k : Nat), d] :: enumD (k + 1) ds
theorem enumD_len : ∀ (k : Nat) (ds : List D), (enumD k ds).length = ds.length
  | _, [] => rfl
  | k, d :: ds => by simp [enumD, enumD_len (k + 1) ds]
theorem enumD_get : ∀ (k : Nat) (ds : List D) (i : Nat) (e : D), (enumD k ds)[i]? = some e → ∃ d, ds[i]? = some d ∧ e = .tup [.int ((k + i : Nat) : Int), d]
  | _, [], i, e, h => by simp [enumD] at h
  | k, d :: ds, 0, e, h => by simp [enumD] at h; exact ⟨d, rfl, by rw [← h]; rfl⟩
  | k, d :: ds, i + 1, e, h => by
    simp only [enumD, List.getElem?_cons_succ] at h
    obtain ⟨d', h1, h2⟩ := enumD_get (k + 1) ds i e h
    exact ⟨d', by simpa using h1, by rw [h2, show k + 1 + i = k + (i + 1) by omega]⟩
def zipD : List D → List D → List D
  | a :: r, b :: t => .tup [a, b] :: zipD r t
  | _, _ => []
theorem zipD_len : ∀ (a b : List D), (zipD a b).length = min a.length b.length
  | [], b => by simp [zipD]
  | a :: r, [] => by simp [zipD]
  | a :: r, b :: t => by simp [zipD, zipD_len r t]
theorem zipD_get : ∀ (a b : List D) (i : Nat) (e : D), (zipD a b)[i]? = some e → ∃ x y, a[i]? = some x ∧ b[i]? = some y ∧ e = .tup [x, y]
  | [], b, i, e, h => by simp [zipD] at h
  | a :: r, [], i, e, h => by simp [zipD] at h
  | a :: r, b :: t, 0, e, h => by simp [zipD] at h; exact ⟨a, b, rfl, rfl, h.symm⟩
  | a :: r, b :: t, i + 1, e, h => by
    simp only [zipD, List.getElem?_cons_succ] at h
    simpa using zipD_get r t i e h

section
variable {K : PySem.W.Frag} {cA : CA} {Lk : Addr → Option (Obj × HO)} {φ0 : List Addr} {F0 : Hp} {a b : Addr} {xs ys : List V} {ds es : List D}
theorem it_lst (h : F0 a = some (.lst xs)) (s : Shs K φ0 F0 xs ds) : ItR K cA Lk φ0 F0 (Itl K a) ds (srcInv .pur) := by
  have sq : ∀ {φ F Pr w σ H}, Le F0 F → Rep K cA Lk φ F Pr w σ H → SqL K H a xs := fun l R => R.sqL (l _ _ h)
  refine ⟨fun i l pf R _ hi => ⟨xs, xs[i]'(by rw [s.1]; exact hi), sq l R, List.getElem?_eq_getElem _⟩, fun l pf R _ => ⟨xs, sq l R, by rw [s.1]; exact Nat.le_refl _⟩, fun {φ F Pr w σ H} i x H' d l pf R _ hd y => ?_⟩
  obtain ⟨rfl, y⟩ := y
  exact ⟨F, Le.refl _, R, (s.le l pf).2 i x d (y xs (sq l R)) hd⟩
theorem it_obj {n : Nat} (h : φ0[n]? = some a) : ItR K cA Lk φ0 F0 (Itl K a) ds (srcInv (.ob n (.lst ds))) := by
  have sq : ∀ {φ F Pr w σ H}, Pf φ0 φ → Rep K cA Lk φ F Pr w σ H → w.st[n]? = some (.lst ds) → ∃ xs, SqL K H a xs ∧ Shs K φ F xs ds := fun pf R hw => by
    obtain ⟨ho, h1, h2, h3⟩ := R.ob n a _ (pf _ _ h) hw
    cases h1 with
    | lst s => exact ⟨_, .inl (.inl h3), s⟩
  refine ⟨fun i l pf R hw hi => ?_, fun l pf R hw => ?_, fun {φ F Pr w σ H} i x H' d l pf R hw hd y => ?_⟩
  · obtain ⟨xs, q, s⟩ := sq pf R hw
    exact ⟨xs, xs[i]'(by rw [s.1]; exact hi), q, List.getElem?_eq_getElem _⟩
  · obtain ⟨xs, q, s⟩ := sq pf R hw
    exact ⟨xs, q, by rw [s.1]; exact Nat.le_refl _⟩
  · obtain ⟨rfl, y⟩ := y
    obtain ⟨xs, q, s⟩ := sq pf R hw
    exact ⟨F, Le.refl _, R, s.2 i x d (y xs q) hd⟩
theorem it_tup (h : ST K F0 a xs) (s : Shs K φ0 F0 xs ds) : ItR K cA Lk φ0 F0 (Itt K a) ds (srcInv .pur) := by
  have sq : ∀ {φ F Pr w σ H}, Le F0 F → Rep K cA Lk φ F Pr w σ H → SqT K H a xs := fun l R => R.sqT (h.le l)
  refine ⟨fun i l pf R _ hi => ⟨xs, xs[i]'(by rw [s.1]; exact hi), sq l R, List.getElem?_eq_getElem _⟩, fun l pf R _ => ⟨xs, sq l R, by rw [s.1]; exact Nat.le_refl _⟩, fun {φ F Pr w σ H} i x H' d l pf R _ hd y => ?_⟩
  obtain ⟨rfl, y⟩ := y
  exact ⟨F, Le.refl _, R, (s.le l pf).2 i x d (y xs (sq l R)) hd⟩
theorem it_str {x : Str} : ItR K cA Lk φ0 F0 (Its x) (charsD x) (srcInv .pur) := by
  have hl : (charsD x).length = x.cps.size := by simp [charsD]
  refine ⟨fun i l pf R _ hi => by rw [hl] at hi; exact hi, fun l pf R _ => by rw [hl]; exact Nat.le_refl _, fun {φ F Pr w σ H} i v H' d l pf R _ hd y => ?_⟩
  obtain ⟨rfl, c, hc, rfl⟩ := y
  unfold charsD at hd
  rw [List.getElem?_map, Array.getElem?_toList, hc] at hd
  cases hd
  exact ⟨F, Le.refl _, R, .str _⟩
theorem it_range {lo : Int} {n : Nat} : ItR K cA Lk φ0 F0 (Itr lo n) (rangeD lo n) (srcInv .pur) := by
  have hl : (rangeD lo n).length = n := by simp [rangeD]
  refine ⟨fun i l pf R _ hi => by rw [hl] at hi; exact hi, fun l pf R _ => by rw [hl]; exact Nat.le_refl _, fun {φ F Pr w σ H} i v H' d l pf R _ hd y => ?_⟩
  obtain ⟨rfl, rfl⟩ := y
  have hi : i < n := by rw [← hl]; exact (List.getElem?_eq_some_iff.mp hd).1
  simp [rangeD, hi] at hd
  rw [← hd]
  exact ⟨F, Le.refl _, R, .int _⟩
theorem it_rangeC {lo c : Int} {n : Nat} : ItR K cA Lk φ0 F0 (Itc lo c n) (rangeC lo c n) (srcInv .pur) := by
  have hl : (rangeC lo c n).length = n := by simp [rangeC]
  refine ⟨fun i l pf R _ hi => by rw [hl] at hi; exact hi, fun l pf R _ => by rw [hl]; exact Nat.le_refl _, fun {φ F Pr w σ H} i v H' d l pf R _ hd y => ?_⟩
  obtain ⟨rfl, rfl⟩ := y
  have hi : i < n := by rw [← hl]; exact (List.getElem?_eq_some_iff.mp hd).1
  simp [rangeC, hi] at hd
  rw [← hd]
  exact ⟨F, Le.refl _, R, .int _⟩
/-- a new pair -/
theorem pair_new {φ : List Addr} {F Pr H : Hp} {w : W} {σ : L2.St} {T : Addr} {x y : V} {d e : D} (R : Rep K cA Lk φ F Pr w σ H) (hT : H T = none) (s1 : Sh K φ F x d) (s2 : Sh K φ F y e) : ∃ F', Le F F' ∧ Rep K cA Lk φ F' Pr w σ (upd H T (.tup [x, y])) ∧ Sh K φ F' (.ref T) (.tup [d, e]) := by
  have l : Le F (upd F T (.tup [x, y])) := Le.new (R.fresh hT).1
  exact ⟨_, l, R.new hT, Sh.mk_tup (.inl upd_same) (.cons (s1.le l (Pf.refl _)) (.cons (s2.le l (Pf.refl _)) .nil))⟩
theorem it_enum (h : F0 a = some (.lst xs)) (s : Shs K φ0 F0 xs ds) : ItR K cA Lk φ0 F0 (Ite K a) (enumD 0 ds) (srcInv .pur) := by
  have sq : ∀ {φ F Pr w σ H}, Le F0 F → Rep K cA Lk φ F Pr w σ H → SqL K H a xs := fun l R => R.sqL (l _ _ h)
  have hl : (enumD 0 ds).length = xs.length := by rw [enumD_len, s.1]
  have w := walk_enum (K := K) (a := a) (xs := xs)
  refine ⟨fun i l pf R _ hi => w.goes i _ (by omega) (sq l R), fun l pf R _ => by rw [hl]; exact w.stops _ (sq l R), fun {φ F Pr ww σ H} i v H' d l pf R _ hd y => ?_⟩
  have hi : i < xs.length := by rw [← hl]; exact (List.getElem?_eq_some_iff.mp hd).1
  obtain ⟨T, x, z, rfl, hT, rfl, e1, e2⟩ := w.yields i H v H' hi (sq l R) y
  cases e1
  obtain ⟨d', h1, rfl⟩ := enumD_get 0 ds i d hd
  have := pair_new R hT (.int ((i : Nat) : Int)) ((s.le l pf).2 i z d' e2 h1)
  simpa using this
theorem it_zip (h : F0 a = some (.lst xs)) (s : Shs K φ0 F0 xs ds) (h' : F0 b = some (.lst ys)) (s' : Shs K φ0 F0 ys es) : ItR K cA Lk φ0 F0 (Itz K a b) (zipD ds es) (srcInv .pur) := by
  have sq : ∀ {φ F Pr w σ H}, Le F0 F → Rep K cA Lk φ F Pr w σ H → SqL K H a xs ∧ SqL K H b ys := fun l R => ⟨R.sqL (l _ _ h), R.sqL (l _ _ h')⟩
  have hl : (zipD ds es).length = min xs.length ys.length := by rw [zipD_len, s.1, s'.1]
  have w := walk_zip (K := K) (a := a) (b := b) (xs := xs) (ys := ys) (n := (zipD ds es).length) hl
  refine ⟨fun i l pf R _ hi => w.goes i _ hi (sq l R), fun l pf R _ => w.stops _ (sq l R), fun {φ F Pr ww σ H} i v H' d l pf R _ hd y => ?_⟩
  have hi : i < (zipD ds es).length := (List.getElem?_eq_some_iff.mp hd).1
  obtain ⟨T, x, z, rfl, hT, rfl, e1, e2⟩ := w.yields i H v H' hi (sq l R) y
  obtain ⟨d1, d2, g1, g2, rfl⟩ := zipD_get ds es i d hd
  exact pair_new R hT ((s.le l pf).2 i x d1 e1 g1) ((s'.le l pf).2 i z d2 e2 g2)
end

/-! ### meanings of what is walked -/
def seqD (w1 : W) : R → Res (Src × List D)
  | .sh (.obj n) => (match w1.st[n]? with
    | some (.lst ds) => .ok (.ob n (.lst ds), ds) w1
    | _ => .no)
  | .sh (.lst ds) => .ok (.pur, ds) w1
  | .sh (.tup ds) => .ok (.pur, ds) w1
  | .sh (.str x) => .ok (.pur, charsD x) w1
  | _ => .no
def iSeq (m : ME) : MI := fun w => (m w).bind fun r w1 => seqD w1 r
def iArg (f : List D → Option (List D)) (ms : MA) : MI := fun w => (ms w).bind fun rs w1 => match (dAll w1 rs).bind f with
  | some ds => .ok (.pur, ds) w1
  | none => .no
def small62 (j : Int) : Bool := Nat.blt j.natAbs 4611686018427387904
def fRng1 : List D → Option (List D)
  | [.int j] => if small62 j = true then some (rangeD 0 j.toNat) else none
  | _ => none
def fRng2 : List D → Option (List D)
  | [.int i, .int j] => if (small62 i && small62 j) = true then some (rangeD i (j - i).toNat) else none
  | _ => none
/-- down by one -/
def fRngDown : List D → Option (List D)
  | [.int i, .int j, .int c] => if (small62 i && small62 j && decide (c = -1)) = true then some (rangeC i (-1) (i - j).toNat) else none
  | _ => none
def iEnumM (ms : MA) : MI := fun w => (ms w).bind fun rs w1 => match rs with
  | [.sh (.lst ds)] => .ok (.pur, enumD 0 ds) w1
  | _ => .no
def iZipM (ms : MA) : MI := fun w => (ms w).bind fun rs w1 => match rs with
  | [.sh (.lst ds), .sh (.lst es)] => .ok (.pur, zipD ds es) w1
  | _ => .no
section
variable {K : PySem.W.Frag} {cA : CA} {Wd : WX} {H : Hp} {σ : L2.St} {R : It → Hp → Prop}
theorem small62_iff {j : Int} : small62 j = true → (-(2 ^ 62) ≤ j ∧ j < 2 ^ 62) := by
  unfold small62
  rw [Nat.blt_eq]
  omega
theorem rd_seqI {m : ME} (h : tMI K cA Wd (iSeq m) σ H R) : iList K (tM K cA Wd m) σ H R ∨ iTup K (tM K cA Wd m) σ H R ∨ iStr (tM K cA Wd m) σ H R := by
  obtain ⟨Lk, φ, F, Pr, w, Rp, h⟩ := h
  unfold iSeq at h
  cases e1 : m w with
  | no => simp only [e1, Res.bind] at h
  | ex x w1 => simp only [e1, Res.bind] at h; exact .inl ⟨Lk, φ, F, Pr, w, Rp, by rw [e1]; exact h⟩
  | ok r w1 =>
    simp only [e1, Res.bind] at h
    cases r with
    | own d => exact h.elim
    | bor d => exact h.elim
    | sh d =>
      cases d with
      | lst ds =>
        refine .inl ⟨Lk, φ, F, Pr, w, Rp, ?_⟩
        rw [e1]
        intro v H1 φ1 F1 Pr1 l1 p1 q1 Rp1 rv
        obtain ⟨a, xs, rfl, h1, h2⟩ := Sh.lst_d rv
        exact ⟨a, rfl, ⟨xs, Rp1.sqL h1⟩, h _ H1 φ1 F1 Pr1 l1 p1 q1 Rp1 (it_lst h1 h2)⟩
      | tup ds =>
        refine .inr (.inl ⟨Lk, φ, F, Pr, w, Rp, ?_⟩)
        rw [e1]
        intro v H1 φ1 F1 Pr1 l1 p1 q1 Rp1 rv
        obtain ⟨a, xs, rfl, h1, h2⟩ := Sh.tup_d rv
        exact ⟨a, rfl, ⟨xs, Rp1.sqT h1⟩, h _ H1 φ1 F1 Pr1 l1 p1 q1 Rp1 (it_tup h1 h2)⟩
      | str x =>
        refine .inr (.inr ⟨Lk, φ, F, Pr, w, Rp, ?_⟩)
        rw [e1]
        intro v H1 φ1 F1 Pr1 l1 p1 q1 Rp1 rv
        exact ⟨x, Sh.str_d rv, h _ H1 φ1 F1 Pr1 l1 p1 q1 Rp1 it_str⟩
      | obj n =>
        simp only [seqD] at h
        cases e2 : w1.st[n]? with
        | none => rw [e2] at h; exact h.elim
        | some ob =>
          rw [e2] at h
          cases ob with
          | ins C fs => exact h.elim
          | dct t kvs => exact h.elim
          | lst ds =>
            refine .inl ⟨Lk, φ, F, Pr, w, Rp, ?_⟩
            rw [e1]
            intro v H1 φ1 F1 Pr1 l1 p1 q1 Rp1 rv
            obtain ⟨a, rfl, h1⟩ := Sh.obj_d rv
            obtain ⟨ho, g1, g2, g3⟩ := Rp1.ob n a _ h1 e2
            cases g1 with
            | lst s => exact ⟨a, rfl, ⟨_, .inl (.inl g3)⟩, h _ H1 φ1 F1 Pr1 l1 p1 q1 Rp1 (it_obj h1)⟩
      | _ => exact h.elim
theorem rd_arg {f : List D → Option (List D)} {ms : MA} {k : List V → Hp → Prop} (hk : ∀ vs H' φ' F' Pr2 Lk w' dd ds, Rep K cA Lk φ' F' Pr2 w' σ H' → Rdvs K Lk φ' F' H' vs dd → f dd = some ds → (∀ J, ItR K cA Lk φ' F' J ds (srcInv .pur) → R J H') → k vs H')
    (h : tMI K cA Wd (iArg f ms) σ H R) : tMA K cA Wd ms σ H k := by
  obtain ⟨Lk, φ, F, Pr, w, Rp, h⟩ := h
  unfold iArg at h
  refine ⟨Lk, φ, F, Pr, w, Rp, ?_⟩
  cases e1 : ms w with
  | no => simp only [e1, Res.bind] at h
  | ex x w1 => simp only [e1, Res.bind] at h; exact h
  | ok rs w1 =>
    simp only [e1, Res.bind] at h
    intro vs H1 φ1 F1 Pr1 l1 p1 q1 Rp1 rv
    cases e2 : dAll w1 rs with
    | none => simp only [e2, Option.bind_none] at h
    | some dd =>
      cases e3 : f dd with
      | none => simp only [e2, e3, Option.bind_some] at h
      | some ds =>
        simp only [e2, e3, Option.bind_some] at h
        exact hk vs H1 φ1 F1 Pr1 Lk w1 dd ds Rp1 (rdvs_of Rp1 rv e2) e3 fun J it => h J H1 φ1 F1 Pr1 l1 p1 q1 Rp1 it
theorem Rdvs.ints {Lk : Addr → Option (Obj × HO)} {φ : List Addr} {F : Hp} : ∀ {vs : List V} {is : List Int}, Rdvs K Lk φ F H vs (is.map .int) → vs = is.map .int
  | [], [], _ => rfl
  | [], _ :: _, h => by have := h.1; simp at this
  | _ :: _, [], h => by have := h.1; simp at this
  | v :: vs, i :: is, h => by
    have h0 := (h.2 0 v (.int i) rfl rfl).int
    have t : Rdvs K Lk φ F H vs (is.map .int) := ⟨by simpa using h.1, fun j v d a b => h.2 (j + 1) v d (by simpa using a) (by simpa using b)⟩
    rw [h0, Rdvs.ints t]; rfl
theorem rd_rng1 {ms : MA} (h : tMI K cA Wd (iArg fRng1 ms) σ H R) : iRng1 (tMA K cA Wd ms) σ H R := by
  refine rd_arg (fun vs H' φ' F' Pr2 Lk w' dd ds Rp rd e k => ?_) h
  match dd, e, rd with
  | [.int j], e, rd =>
    simp only [fRng1] at e
    split at e
    · rename_i hz
      cases e
      have hv := Rdvs.ints (is := [j]) rd
      exact ⟨j, hv, (small62_iff hz).1, (small62_iff hz).2, k _ it_range⟩
    · cases e
theorem rd_rng2 {ms : MA} (h : tMI K cA Wd (iArg fRng2 ms) σ H R) : iRng2 (tMA K cA Wd ms) σ H R := by
  refine rd_arg (fun vs H' φ' F' Pr2 Lk w' dd ds Rp rd e k => ?_) h
  match dd, e, rd with
  | [.int i, .int j], e, rd =>
    simp only [fRng2] at e
    split at e
    · rename_i hz
      cases e
      rw [Bool.and_eq_true] at hz
      have hv := Rdvs.ints (is := [i, j]) rd
      exact ⟨i, j, hv, ⟨(small62_iff hz.1).1, (small62_iff hz.1).2, (small62_iff hz.2).1, (small62_iff hz.2).2⟩, k _ it_range⟩
    · cases e
theorem rd_rng3 {ms : MA} (h : tMI K cA Wd (iArg fRngDown ms) σ H R) : iRng3 (tMA K cA Wd ms) σ H R := by
  refine rd_arg (fun vs H' φ' F' Pr2 Lk w' dd ds Rp rd e k => ?_) h
  match dd, e, rd with
  | [.int i, .int j, .int c], e, rd =>
    simp only [fRngDown] at e
    split at e
    · rename_i hz
      cases e
      simp only [Bool.and_eq_true, decide_eq_true_eq] at hz
      obtain ⟨⟨h1, h2⟩, rfl⟩ := hz
      have hv := Rdvs.ints (is := [i, j, -1]) rd
      exact ⟨i, j, -1, _, hv, RgC.neg (small62_iff h1).1 (small62_iff h1).2 (small62_iff h2).1 (small62_iff h2).2, k _ it_rangeC⟩
    · cases e
theorem rd_enum {ms : MA} (h : tMI K cA Wd (iEnumM ms) σ H R) : iEnum K (tMA K cA Wd ms) σ H R := by
  obtain ⟨Lk, φ, F, Pr, w, Rp, h⟩ := h
  unfold iEnumM at h
  refine ⟨Lk, φ, F, Pr, w, Rp, ?_⟩
  cases e1 : ms w with
  | no => simp only [e1, Res.bind] at h
  | ex x w1 => simp only [e1, Res.bind] at h; exact h
  | ok rs w1 =>
    simp only [e1, Res.bind] at h
    intro vs H1 φ1 F1 Pr1 l1 p1 q1 Rp1 rv
    match rs, h, rv with
    | [.sh (.lst ds)], h, rv =>
      have sv := shs_of (ds := [.lst ds]) rv rfl
      obtain ⟨v, r, rfl, s1, s2⟩ := sv.cons_r
      obtain rfl := s2.nil_r
      obtain ⟨a, xs, rfl, h1, h2⟩ := Sh.lst_d s1
      exact ⟨a, xs, rfl, Rp1.sqL h1, h _ H1 φ1 F1 Pr1 l1 p1 q1 Rp1 (it_enum h1 h2)⟩
theorem rd_zip {ms : MA} (h : tMI K cA Wd (iZipM ms) σ H R) : iZip K (tMA K cA Wd ms) σ H R := by
  obtain ⟨Lk, φ, F, Pr, w, Rp, h⟩ := h
  unfold iZipM at h
  refine ⟨Lk, φ, F, Pr, w, Rp, ?_⟩
  cases e1 : ms w with
  | no => simp only [e1, Res.bind] at h
  | ex x w1 => simp only [e1, Res.bind] at h; exact h
  | ok rs w1 =>
    simp only [e1, Res.bind] at h
    intro vs H1 φ1 F1 Pr1 l1 p1 q1 Rp1 rv
    match rs, h, rv with
    | [.sh (.lst ds), .sh (.lst es)], h, rv =>
      have sv := shs_of (ds := [.lst ds, .lst es]) rv rfl
      obtain ⟨v, r, rfl, s1, s2⟩ := sv.cons_r
      obtain ⟨v2, r2, rfl, s3, s4⟩ := s2.cons_r
      obtain rfl := s4.nil_r
      obtain ⟨a, xs, rfl, h1, h2⟩ := Sh.lst_d s1
      obtain ⟨b, ys, rfl, h3, h4⟩ := Sh.lst_d s3
      exact ⟨a, b, xs, ys, rfl, Rp1.sqL h1, Rp1.sqL h3, h _ H1 φ1 F1 Pr1 l1 p1 q1 Rp1 (it_zip h1 h2 h3 h4)⟩
end
end Rf
set_option maxHeartbeats 1000000
/-! Rf12: dicts with keys ints and texts. -/
namespace Rf
open PySem L2
open PyProof.Rows hiding St

/-! ### tables of data -/
def putD (kvs : List (D × D)) (k v : D) : List (D × D) := if (kvs.any fun p => decide (p.1 = k)) = true then kvs.map (fun p => if p.1 = k then (p.1, v) else p) else kvs ++ [(k, v)]
def dropD (kvs : List (D × D)) (k : D) : List (D × D) := kvs.filter fun p => decide (p.1 ≠ k)
def mergeD (kvs more : List (D × D)) : List (D × D) := more.foldl (fun acc p => putD acc p.1 p.2) kvs
section
variable {K : PySem.W.Frag} {φ : List Addr} {F : Hp} {kvs more : List (Key × V)} {ds es : List (D × D)} {p : Key × V} {q : D × D} {k : Key} {kd vd : D} {v : V}
theorem ShK.nil : ShK K φ F [] [] := ⟨rfl, fun i p q h => by simp at h⟩
theorem ShK.cons (h1 : keyD q.1 = some p.1) (h2 : Sh K φ F p.2 q.2) (t : ShK K φ F kvs ds) : ShK K φ F (p :: kvs) (q :: ds) := by
  refine ⟨by simp [t.1], fun i w e a b => ?_⟩
  cases i with
  | zero => simp at a b; subst a b; exact ⟨h1, h2⟩
  | succ i => simp at a b; exact t.2 i w e a b
theorem ShK.uncons (h : ShK K φ F (p :: kvs) (q :: ds)) : keyD q.1 = some p.1 ∧ Sh K φ F p.2 q.2 ∧ ShK K φ F kvs ds :=
  ⟨(h.2 0 p q rfl rfl).1, (h.2 0 p q rfl rfl).2, by simpa using h.1, fun i v d a b => h.2 (i + 1) v d (by simpa using a) (by simpa using b)⟩
theorem ShK.nil_r (h : ShK K φ F kvs []) : kvs = [] := by
  cases kvs with
  | nil => rfl
  | cons d r => have := h.1; simp at this
theorem ShK.cons_r (h : ShK K φ F kvs (q :: ds)) : ∃ p r, kvs = p :: r ∧ keyD q.1 = some p.1 ∧ Sh K φ F p.2 q.2 ∧ ShK K φ F r ds := by
  cases kvs with
  | nil => have := h.1; simp at this
  | cons p r => exact ⟨p, r, rfl, h.uncons⟩
theorem key_eq (h : keyD q.1 = some p.1) (hk : keyD kd = some k) : (p.1 = k) ↔ (q.1 = kd) := by
  constructor
  · intro e; rw [e] at h; exact keyD_inj h hk
  · intro e; rw [e, hk] at h; exact (Option.some.inj h).symm
theorem ShK.look (hk : keyD kd = some k) : ∀ {kvs ds}, ShK K φ F kvs ds → (∀ vd, lookD ds kd = some vd → ∃ v, valV kvs k = some v ∧ Sh K φ F v vd) ∧ (lookD ds kd = none → valV kvs k = none)
  | kvs, [], h => by rw [h.nil_r]; exact ⟨fun vd e => by simp [lookD] at e, fun _ => rfl⟩
  | kvs, q :: ds, h => by
    obtain ⟨p, r, rfl, h1, h2, h3⟩ := h.cons_r
    obtain ⟨a, x⟩ := q
    have e := key_eq h1 hk
    have ih := ShK.look hk h3
    by_cases hq : a = kd
    · have hp : p.1 = k := e.mpr hq
      rw [valV_pos hp]
      refine ⟨fun vd z => ?_, fun z => ?_⟩
      · simp only [lookD, hq, if_true] at z; cases z; exact ⟨_, rfl, h2⟩
      · simp only [lookD, hq, if_true] at z; cases z
    · have hp : ¬ p.1 = k := fun z => hq (e.mp z)
      rw [valV_neg hp]
      simp only [lookD, if_neg hq]
      exact ih
theorem ShK.anyK (hk : keyD kd = some k) : ∀ {kvs ds}, ShK K φ F kvs ds → (kvs.any fun kv => decide (kv.1 = k)) = ds.any fun p => decide (p.1 = kd)
  | kvs, [], h => by rw [h.nil_r]; rfl
  | kvs, q :: ds, h => by
    obtain ⟨p, r, rfl, h1, h2, h3⟩ := h.cons_r
    rw [List.any_cons, List.any_cons, ShK.anyK hk h3]
    have e := key_eq h1 hk
    simp [e]
theorem ShK.append (h : ShK K φ F kvs ds) (h' : ShK K φ F more es) : ShK K φ F (kvs ++ more) (ds ++ es) := by
  induction ds generalizing kvs with
  | nil => rw [h.nil_r]; exact h'
  | cons q ds ih =>
    obtain ⟨p, r, rfl, h1, h2, h3⟩ := h.cons_r
    exact .cons h1 h2 (ih h3)
theorem ShK.repl (hk : keyD kd = some k) (sv : Sh K φ F v vd) : ∀ {kvs ds}, ShK K φ F kvs ds → ShK K φ F (kvs.map fun kv => if kv.1 = k then (kv.1, v) else kv) (ds.map fun p => if p.1 = kd then (p.1, vd) else p)
  | kvs, [], h => by rw [h.nil_r]; exact .nil
  | kvs, q :: ds, h => by
    obtain ⟨p, r, rfl, h1, h2, h3⟩ := h.cons_r
    have e := key_eq h1 hk
    rw [List.map_cons, List.map_cons]
    by_cases hq : q.1 = kd
    · rw [if_pos hq, if_pos (e.mpr hq)]
      exact .cons h1 sv (ShK.repl hk sv h3)
    · rw [if_neg hq, if_neg (fun z => hq (e.mp z))]
      exact .cons h1 h2 (ShK.repl hk sv h3)
theorem ShK.put (hk : keyD kd = some k) (sv : Sh K φ F v vd) (h : ShK K φ F kvs ds) : ShK K φ F (putK kvs k v) (putD ds kd vd) := by
  unfold putK putD
  rw [h.anyK hk]
  split
  · exact h.repl hk sv
  · exact h.append (.cons hk sv .nil)
theorem ShK.drop (hk : keyD kd = some k) : ∀ {kvs ds}, ShK K φ F kvs ds → ShK K φ F (dropK kvs k) (dropD ds kd)
  | kvs, [], h => by rw [h.nil_r]; exact .nil
  | kvs, q :: ds, h => by
    obtain ⟨p, r, rfl, h1, h2, h3⟩ := h.cons_r
    have e := key_eq h1 hk
    have ih := ShK.drop hk h3
    unfold dropK dropD at ih ⊢
    by_cases hq : q.1 = kd
    · rw [List.filter_cons_of_neg (by simp [e.mpr hq]), List.filter_cons_of_neg (by simp [hq])]
      exact ih
    · rw [List.filter_cons_of_pos (by simpa using fun z => hq (e.mp z)), List.filter_cons_of_pos (by simpa using hq)]
      exact .cons h1 h2 ih
theorem ShK.merge : ∀ {more : List (Key × V)} {es : List (D × D)} {kvs : List (Key × V)} {ds : List (D × D)}, ShK K φ F more es → ShK K φ F kvs ds → ShK K φ F (mergeK kvs more) (mergeD ds es)
  | more, [], kvs, ds, h, h' => by rw [h.nil_r]; exact h'
  | more, q :: es, kvs, ds, h, h' => by
    obtain ⟨p, r, rfl, h1, h2, h3⟩ := h.cons_r
    exact ShK.merge (more := r) (es := es) h3 (h'.put h1 h2)
theorem kV_sh (h : keyD kd = some k) : Sh K φ F (kV k) kd := by
  cases kd <;> simp [keyD] at h
  · subst h; exact .int _
  · subst h; exact .str _
theorem ShK.keys : ∀ {kvs ds}, ShK K φ F kvs ds → Shs K φ F (kvs.map fun kv => kV kv.1) (ds.map (·.1))
  | kvs, [], h => by rw [h.nil_r]; exact .nil
  | kvs, q :: ds, h => by
    obtain ⟨p, r, rfl, h1, h2, h3⟩ := h.cons_r
    exact .cons (kV_sh h1) (ShK.keys h3)
theorem ShK.vals : ∀ {kvs ds}, ShK K φ F kvs ds → Shs K φ F (kvs.map (·.2)) (ds.map (·.2))
  | kvs, [], h => by rw [h.nil_r]; exact .nil
  | kvs, q :: ds, h => by
    obtain ⟨p, r, rfl, h1, h2, h3⟩ := h.cons_r
    exact .cons h2 (ShK.vals h3)
end

/-! ### locks -/
def lkPut (Lk : Addr → Option (Obj × HO)) (a : Addr) (q : Obj × HO) : Addr → Option (Obj × HO) := fun b => if b = a then some q else Lk b
section
variable {K : PySem.W.Frag} {cA : CA} {Lk : Addr → Option (Obj × HO)} {φ : List Addr} {F Pr H : Hp} {w : W} {σ : L2.St} {a : Addr} {od : Obj} {u : HO}
theorem lkPut_same : lkPut Lk a (od, u) a = some (od, u) := by simp [lkPut]
theorem lkPut_ne {b : Addr} (h : b ≠ a) : lkPut Lk a (od, u) b = Lk b := by simp [lkPut, h]
theorem Rep.lock {lk' : List Nat} (R : Rep K cA Lk φ F Pr w σ H) (hl : Lk a = none) (ha : H a = some u) (hu : isDk u) (hd : F a = some u ∨ ∃ n tt kvs, φ[n]? = some a ∧ w.st[n]? = some (.dct tt kvs) ∧ n ∈ lk') (hs : ∀ n ∈ w.lk, n ∈ lk') :
    Rep K cA (lkPut Lk a (od, u)) φ F Pr { w with lk := lk' } σ (upd H a (.frz od u)) := by
  have hPr : Pr a = none := by
    rcases hd with h | ⟨n, tt, kvs, h, _⟩
    · exact (R.fz _ _ h).2
    · exact (R.of n a h).2
  have nF : F a = none ∨ ∀ n : Nat, φ[n]? ≠ some a := by
    rcases hd with h | ⟨n, tt, kvs, h, _⟩
    · exact .inr fun n e => by rw [(R.of n a e).1] at h; cases h
    · exact .inl (R.of n a h).1
  refine ⟨R.len, fun b q e => ?_, fun b o e => ?_, fun b o e => ?_, R.plen, fun n b o e1 e2 => ?_, R.of, R.pnd, fun i s e => ?_, R.inj, fun t ht => ?_⟩
  · by_cases hb : b = a
    · subst hb; rw [lkPut_same] at e; cases e; exact upd_same
    · rw [lkPut_ne hb] at e; rw [upd_ne hb]; exact R.lkh b q e
  · refine ⟨?_, (R.fz b o e).2⟩
    by_cases hb : b = a
    · subst hb
      have ho : o = u := by
        rcases (R.fz b o e).1 with ⟨_, z⟩ | ⟨_, od', z, _⟩
        · rw [ha] at z; exact (Option.some.inj z).symm
        · rw [hl] at z; cases z
      subst ho
      exact .inr ⟨hu, od, lkPut_same, upd_same⟩
    · rcases (R.fz b o e).1 with ⟨z1, z2⟩ | ⟨z0, od', z1, z2⟩
      · exact .inl ⟨by rw [lkPut_ne hb]; exact z1, by rw [upd_ne hb]; exact z2⟩
      · exact .inr ⟨z0, od', by rw [lkPut_ne hb]; exact z1, by rw [upd_ne hb]; exact z2⟩
  · have hb : b ≠ a := fun z => by rw [z, hPr] at e; cases e
    rw [upd_ne hb]; exact R.pr b o e
  · by_cases hb : b = a
    · subst hb
      rcases hd with h | ⟨m, tt, kvs, h, h2, h3⟩
      · rw [(R.of n b e1).1] at h; cases h
      · have e := R.pnd n m b e1 h
        subst e
        have e2' : w.st[n]? = some o := e2
        rw [h2] at e2'; cases e2'
        obtain ⟨ho, g1, g2, g3⟩ := R.ob n b _ e1 h2
        have ho' : ho = u := by
          rcases g2 with ⟨_, z⟩ | ⟨_, od', z, _⟩
          · rw [ha] at z; exact (Option.some.inj z).symm
          · rw [hl] at z; cases z
        subst ho'
        exact ⟨ho, g1, .inr ⟨hu, od, lkPut_same, upd_same⟩, fun _ => h3⟩
    · have q := R.ob n b o e1 e2
      cases o with
      | ins C fs => obtain ⟨dx, vfs, h1, h2⟩ := q; exact ⟨dx, vfs, by rw [upd_ne hb]; exact h1, h2⟩
      | lst xs => obtain ⟨ho, h1, h0, h2⟩ := q; exact ⟨ho, h1, by rw [lkPut_ne hb]; exact h0, by rw [upd_ne hb]; exact h2⟩
      | dct t' xs =>
        obtain ⟨ho, h1, h2, h3⟩ := q
        refine ⟨ho, h1, ?_, fun z => hs n (h3 (by rw [lkPut_ne hb] at z; exact z))⟩
        rcases h2 with ⟨z1, z2⟩ | ⟨z0, od', z1, z2⟩
        · exact .inl ⟨by rw [lkPut_ne hb]; exact z1, by rw [upd_ne hb]; exact z2⟩
        · exact .inr ⟨z0, od', by rw [lkPut_ne hb]; exact z1, by rw [upd_ne hb]; exact z2⟩
  · obtain ⟨v, h1, h2⟩ := R.sl i s e
    refine ⟨v, h1, ?_⟩
    cases s with
    | sh d => exact h2
    | own c =>
      obtain ⟨b, o, rfl, h3, h4, h5, h6, h7⟩ := h2
      have hb : b ≠ a := fun z => by
        rcases hd with h | ⟨n, tt, kvs, h, _⟩
        · rw [z, h] at h5; cases h5
        · exact h7 n (z ▸ h)
      exact ⟨b, o, rfl, by rw [upd_ne hb]; exact h3, h4, h5, h6, h7⟩
  · have nt : (∀ ps, H a ≠ some (.tbl ps)) ∧ ∀ z, H a ≠ some (.ext z) := by
      rw [ha]
      constructor
      · intro ps z; cases z; exact hu
      · intro ps z; cases z; exact hu
    exact (R.tab t ht).upd ((R.tab t ht).ne nt.1) nt.2
theorem Rep.unlock {lk0 : List Nat} (R : Rep K cA (lkPut Lk a (od, u)) φ F Pr w σ H) (hl : Lk a = none) (hu : isDk u) (hpa : Pr a = none) (hno : ∀ (i : Nat) c, w.env[i]? = some (some (.own c)) → σ[i]? ≠ some (some (V.ref a))) (hlk : w.lk = lk0 ∨ ∃ n0, w.lk = n0 :: lk0 ∧ φ[n0]? = some a) :
    Rep K cA Lk φ F Pr { w with lk := lk0 } σ (upd H a u) := by
  have ha : H a = some (.frz od u) := R.lkh a _ lkPut_same
  refine ⟨R.len, fun b q e => ?_, fun b o e => ?_, fun b o e => ?_, R.plen, fun n b o e1 e2 => ?_, R.of, R.pnd, fun i s e => ?_, R.inj, fun t ht => ?_⟩
  · have hb : b ≠ a := fun z => by rw [z, hl] at e; cases e
    rw [upd_ne hb]; exact R.lkh b q (by rw [lkPut_ne hb]; exact e)
  · refine ⟨?_, (R.fz b o e).2⟩
    by_cases hb : b = a
    · subst hb
      rcases (R.fz b o e).1 with ⟨z, _⟩ | ⟨_, od', z, _⟩
      · rw [lkPut_same] at z; cases z
      · rw [lkPut_same] at z; cases z; exact .inl ⟨hl, upd_same⟩
    · rcases (R.fz b o e).1 with ⟨z1, z2⟩ | ⟨z0, od', z1, z2⟩
      · exact .inl ⟨by rw [lkPut_ne hb] at z1; exact z1, by rw [upd_ne hb]; exact z2⟩
      · exact .inr ⟨z0, od', by rw [lkPut_ne hb] at z1; exact z1, by rw [upd_ne hb]; exact z2⟩
  · have hb : b ≠ a := fun z => by rw [z, hpa] at e; cases e
    rw [upd_ne hb]; exact R.pr b o e
  · have q := R.ob n b o e1 e2
    by_cases hb : b = a
    · subst hb
      cases o with
      | ins C fs => obtain ⟨dx, vfs, h1, h2⟩ := q; rw [ha] at h1; cases h1
      | lst xs => obtain ⟨ho, h1, h0, h2⟩ := q; rw [lkPut_same] at h0; cases h0
      | dct t' xs =>
        obtain ⟨ho, h1, h2, h3⟩ := q
        rcases h2 with ⟨z, _⟩ | ⟨_, od', z, _⟩
        · rw [lkPut_same] at z; cases z
        · rw [lkPut_same] at z; cases z
          exact ⟨_, h1, .inl ⟨hl, upd_same⟩, fun z => absurd hl z⟩
    · cases o with
      | ins C fs => obtain ⟨dx, vfs, h1, h2⟩ := q; exact ⟨dx, vfs, by rw [upd_ne hb]; exact h1, h2⟩
      | lst xs => obtain ⟨ho, h1, h0, h2⟩ := q; exact ⟨ho, h1, by rw [lkPut_ne hb] at h0; exact h0, by rw [upd_ne hb]; exact h2⟩
      | dct t' xs =>
        obtain ⟨ho, h1, h2, h3⟩ := q
        refine ⟨ho, h1, ?_, fun z => ?_⟩
        · rcases h2 with ⟨z1, z2⟩ | ⟨z0, od', z1, z2⟩
          · exact .inl ⟨by rw [lkPut_ne hb] at z1; exact z1, by rw [upd_ne hb]; exact z2⟩
          · exact .inr ⟨z0, od', by rw [lkPut_ne hb] at z1; exact z1, by rw [upd_ne hb]; exact z2⟩
        · have m := h3 (by rw [lkPut_ne hb]; exact z)
          show n ∈ lk0
          rcases hlk with hlk | ⟨n0, hlk, hn⟩
          · rw [hlk] at m; exact m
          · rw [hlk] at m
            rcases List.mem_cons.mp m with m | m
            · rw [m, hn] at e1; exact absurd (Option.some.inj e1).symm hb
            · exact m
  · obtain ⟨v, h1, h2⟩ := R.sl i s e
    refine ⟨v, h1, ?_⟩
    cases s with
    | sh d => exact h2
    | own c =>
      obtain ⟨b, o, rfl, h3, h4, h5, h6, h7⟩ := h2
      have hb : b ≠ a := fun z => hno i c e (z ▸ h1)
      exact ⟨b, o, rfl, by rw [upd_ne hb]; exact h3, h4, h5, h6, h7⟩
  · have nt : (∀ ps, H a ≠ some (.tbl ps)) ∧ ∀ z, H a ≠ some (.ext z) := by
      rw [ha]
      exact ⟨fun ps z => (nomatch z), fun ps z => (nomatch z)⟩
    exact (R.tab t ht).upd ((R.tab t ht).ne nt.1) nt.2
/-- an own slot never holds what is locked -/
theorem Rep.ownLk (R : Rep K cA (lkPut Lk a (od, u)) φ F Pr w σ H) (i : Nat) (c : D) (e : w.env[i]? = some (some (.own c))) : σ[i]? ≠ some (some (V.ref a)) := fun z => by
  obtain ⟨v, h1, b, o, rfl, h3, h4, _⟩ := R.sl i _ e
  rw [z] at h1; cases h1
  have ha : H a = some (.frz od u) := R.lkh a _ lkPut_same
  rw [ha] at h3; cases h3
  exact h4.nofrz od u rfl
/-- more is counted as locked -/
theorem Rep.lkMore {lk' : List Nat} (R : Rep K cA Lk φ F Pr w σ H) (hs : ∀ n ∈ w.lk, n ∈ lk') : Rep K cA Lk φ F Pr { w with lk := lk' } σ H :=
  ⟨R.len, R.lkh, R.fz, R.pr, R.plen, fun n b o e1 e2 => (R.ob n b o e1 e2).step (Le.refl _) (Pf.refl _) (fun z => hs n z) rfl, R.of, R.pnd, R.sl, R.inj, R.tab⟩
end

/-! ### where a value lies -/
/-- the meaning's value is there without a step -/
def Adr (K : PySem.W.Frag) (cA : CA) (m : ME) : Prop := ∀ {Lk φ F Pr w σ H d w'}, Rep K cA Lk φ F Pr w σ H → m w = .ok (.sh d) w' → ∃ v F', Le F F' ∧ Rep K cA Lk φ F' Pr w' σ H ∧ Sh K φ F' v d
section
variable {K : PySem.W.Frag} {cA : CA}
theorem adr_var {i : Nat} : Adr K cA (eVar i) := by
  intro Lk φ F Pr w σ H d w' R e
  unfold eVar at e
  cases q : w.env[i]? with
  | none => rw [q] at e; cases e
  | some s =>
    cases s with
    | none => rw [q] at e; cases e
    | some s =>
      cases s with
      | own c => rw [q] at e; cases e
      | sh d' =>
        rw [q] at e; cases e
        obtain ⟨v, h1, h2⟩ := R.sl i _ q
        exact ⟨v, F, Le.refl _, R, h2⟩
theorem adr_esc {i : Nat} : Adr K cA (eEsc (eVar i)) := by
  intro Lk φ F Pr w σ H d w' R e
  unfold eEsc eVar at e
  cases q : w.env[i]? with
  | none => simp only [q, Res.bind] at e; cases e
  | some s =>
    cases s with
    | none => simp only [q, Res.bind] at e; cases e
    | some s =>
      cases s with
      | own c =>
        simp only [q, Res.bind] at e; cases e
        obtain ⟨a, o, h1, h2, h3, h4, R2⟩ := R.freeze q
        have l : Le F (upd F a o) := Le.new h3
        exact ⟨.ref a, _, l, R2, (h4.le l (Pf.refl _)).sh upd_same⟩
      | sh d' =>
        simp only [q, Res.bind] at e; cases e
        obtain ⟨v, h1, h2⟩ := R.sl i _ q
        exact ⟨v, F, Le.refl _, R, h2⟩
theorem adr_fld {okf : Str → Str → Bool} {m : ME} {f : Str} (hm : Adr K cA m) : Adr K cA (eFld okf m f) := by
  intro Lk φ F Pr w σ H d w' R e
  unfold eFld at e
  cases q : m w with
  | no => rw [q] at e; cases e
  | ex x w1 => rw [q] at e; cases e
  | ok r w1 =>
    rw [q] at e
    cases r with
    | own c => cases e
    | bor c => cases e
    | sh d0 =>
      cases d0 with
      | obj n =>
        simp only [Res.bind] at e
        cases e2 : w1.st[n]? with
        | none => rw [e2] at e; cases e
        | some ob =>
          rw [e2] at e
          cases ob with
          | lst xs => cases e
          | dct t' xs => cases e
          | ins C fs =>
            simp only at e
            by_cases hz : okf C f = true
            case neg => rw [if_neg hz] at e; cases e
            rw [if_pos hz] at e
            cases e3 : lookF fs f with
            | none => rw [e3] at e; cases e
            | some d1 =>
              rw [e3] at e; cases e
              obtain ⟨v, F', l, R1, s⟩ := hm R q
              obtain ⟨a, rfl, ea⟩ := Sh.obj_d s
              obtain ⟨dx, vfs, g1, g2⟩ := R1.ob n a _ ea e2
              obtain ⟨v, g3, g4⟩ := fsR_look g2 e3
              exact ⟨v, F', l, R1, g4⟩
      | _ => cases e
end

/-! ### a dict is walked -/
def dctOf (w : W) : D → Option (Bool × List (D × D))
  | .dct t kvs => some (t, kvs)
  | .obj n => (match w.st[n]? with
    | some (.dct t kvs) => some (t, kvs)
    | _ => none)
  | _ => none
def lockW (d : D) (w : W) : W := match d with
  | .obj n => { w with lk := n :: w.lk }
  | _ => w
def keysD' (kvs : List (D × D)) : List D := kvs.map (·.1)
def valsD (kvs : List (D × D)) : List D := kvs.map (·.2)
def itemsD (kvs : List (D × D)) : List D := kvs.map fun p => .tup [p.1, p.2]
/-- body, while the dict that m tells is locked -/
def eLock (m body : ME) : ME := fun w => match m w with
  | .ok (.sh d) w1 => if (dctOf w1 d).isSome = true then (match body (lockW d w1) with
    | .ok r w2 => if w2.lk = (lockW d w1).lk then .ok r { w2 with lk := w1.lk } else .no
    | _ => .no) else .no
  | _ => .no
def sLock (m : ME) (body : MS) : MS := fun w => match m w with
  | .ok (.sh d) w1 => if (dctOf w1 d).isSome = true then (match body (lockW d w1) with
    | .ok r w2 => if w2.lk = (lockW d w1).lk then .ok r { w2 with lk := w1.lk } else .no
    | _ => .no) else .no
  | _ => .no
/-- the result's address is locked -/
def LkR (Lk : Addr → Option (Obj × HO)) (φ : List Addr) (σ : L2.St) (r : R) : Prop := ∃ a, Lk a ≠ none ∧ ((∃ i, r = .bor i ∧ σ[i]? = some (some (.ref a))) ∨ ∃ n, r = .sh (.obj n) ∧ φ[n]? = some a)
/-- m tells the dict that is locked, ms names it then -/
def LkSrc (K : PySem.W.Frag) (cA : CA) (m ms : ME) : Prop := ∀ {Lk φ F Pr w σ H d w1}, Rep K cA Lk φ F Pr w σ H → m w = .ok (.sh d) w1 → (dctOf w1 d).isSome = true →
  ∃ a F' r, Le F F' ∧ Rep K cA Lk φ F' Pr w1 σ H ∧ Sh K φ F' (.ref a) d ∧ ms (lockW d w1) = .ok r (lockW d w1) ∧ ((∃ i, r = .bor i ∧ σ[i]? = some (some (.ref a))) ∨ ∃ n, r = .sh (.obj n) ∧ φ[n]? = some a)
theorem lkR_of {Lk : Addr → Option (Obj × HO)} {φ : List Addr} {σ : L2.St} {r : R} {a : Addr} (h : (∃ i, r = .bor i ∧ σ[i]? = some (some (.ref a))) ∨ ∃ n, r = .sh (.obj n) ∧ φ[n]? = some a) (hn : Lk a ≠ none) : LkR Lk φ σ r := ⟨a, hn, h⟩
section
variable {K : PySem.W.Frag} {cA : CA} {Wd : WX} {H : Hp} {σ : L2.St}
/-- the state at the lock: already locked, or it is locked now -/
theorem lock_at {Lk : Addr → Option (Obj × HO)} {φ : List Addr} {F Pr : Hp} {w : W} {v : V} {d : D} (R : Rep K cA Lk φ F Pr w σ H) (s : Sh K φ F v d) (hd : (dctOf w d).isSome = true) :
    ∃ a, v = .ref a ∧ ((Lk a ≠ none ∧ Rep K cA Lk φ F Pr (lockW d w) σ H) ∨ ∃ u, Lk a = none ∧ H a = some u ∧ isDk u ∧ ∀ od, Rep K cA (lkPut Lk a (od, u)) φ F Pr (lockW d w) σ (upd H a (.frz od u))) ∧ (((F a).isSome = true ∧ ∀ n, d ≠ .obj n) ∨ ∃ n, d = .obj n ∧ φ[n]? = some a) := by
  cases d with
  | dct t' kvs =>
    have go : ∀ {a : Addr} {u : HO}, F a = some u → isDk u → (Lk a ≠ none ∧ Rep K cA Lk φ F Pr w σ H) ∨ ∃ u, Lk a = none ∧ H a = some u ∧ isDk u ∧ ∀ od, Rep K cA (lkPut Lk a (od, u)) φ F Pr w σ (upd H a (.frz od u)) := fun {a u} e hu => by
      rcases (R.fz a u e).1 with ⟨z1, z2⟩ | ⟨_, od, z1, z2⟩
      · exact .inr ⟨u, z1, z2, hu, fun od => R.lock (lk' := w.lk) z1 z2 hu (.inl e) fun n h => h⟩
      · exact .inl ⟨by rw [z1]; exact fun z => (nomatch z), R⟩
    cases t' with
    | false =>
      obtain ⟨a, ks, rfl, h1, h2⟩ := s.dct_d
      exact ⟨a, rfl, go h1 True.intro, .inl ⟨by rw [h1]; rfl, fun n z => (nomatch z)⟩⟩
    | true =>
      obtain ⟨a, ks, rfl, h1, h2⟩ := s.dctT_d
      exact ⟨a, rfl, go h1 True.intro, .inl ⟨by rw [h1]; rfl, fun n z => (nomatch z)⟩⟩
  | obj n =>
    obtain ⟨a, rfl, ea⟩ := s.obj_d
    simp only [dctOf] at hd
    cases e2 : w.st[n]? with
    | none => rw [e2] at hd; cases hd
    | some ob =>
      rw [e2] at hd
      cases ob with
      | ins C fs => cases hd
      | lst xs => cases hd
      | dct t' kvs =>
        refine ⟨a, rfl, ?_, .inr ⟨n, rfl, ea⟩⟩
        obtain ⟨ho, g1, g2, g3⟩ := R.ob n a _ ea e2
        rcases g2 with ⟨z1, z2⟩ | ⟨z0, od, z1, z2⟩
        · have hu : isDk ho := by cases g1 <;> exact True.intro
          exact .inr ⟨ho, z1, z2, hu, fun od => R.lock (lk' := n :: w.lk) z1 z2 hu (.inr ⟨n, t', kvs, ea, e2, List.mem_cons_self⟩) fun m h => List.mem_cons_of_mem _ h⟩
        · exact .inl ⟨by rw [z1]; exact fun z => (nomatch z), R.lkMore fun m h => List.mem_cons_of_mem _ h⟩
  | _ => cases hd
theorem lockW_lk {d : D} {w : W} : (lockW d w).lk = w.lk ∨ ∃ n, d = .obj n ∧ (lockW d w).lk = n :: w.lk := by
  cases d <;> first | exact .inl rfl | exact .inr ⟨_, rfl, rfl⟩
/-- behind the lock -/
theorem unlock_at {Lk : Addr → Option (Obj × HO)} {φ φ' : List Addr} {F F' Pr2 H' : Hp} {w w1 : W} {d : D} {a : Addr} {od : Obj} {u : HO} {σ' : L2.St} (hd : ((F a).isSome = true ∧ ∀ n, d ≠ .obj n) ∨ ∃ n, d = .obj n ∧ φ[n]? = some a) (hn : Lk a = none) (hu : isDk u) (l : Le F F') (p : Pf φ φ')
    (R : Rep K cA (lkPut Lk a (od, u)) φ' F' Pr2 w σ' H') (hk : w.lk = (lockW d w1).lk) : H' a = some (.frz od u) ∧ Rep K cA Lk φ' F' Pr2 { w with lk := w1.lk } σ' (upd H' a u) := by
  refine ⟨R.lkh a _ lkPut_same, R.unlock hn hu ?_ R.ownLk ?_⟩
  · rcases hd with ⟨h, _⟩ | ⟨n, _, h⟩
    · obtain ⟨o, ho⟩ := Option.isSome_iff_exists.mp h
      exact (R.fz a o (l _ _ ho)).2
    · exact (R.of n a (p _ _ h)).2
  · rcases lockW_lk (d := d) (w := w1) with e | ⟨n, e1, e2⟩
    · exact .inl (hk.trans e)
    · refine .inr ⟨n, hk.trans e2, ?_⟩
      rcases hd with ⟨_, h⟩ | ⟨m, h1, h2⟩
      · exact absurd e1 (h n)
      · rw [e1] at h1; cases h1; exact p _ _ h2
theorem lockE_at {T : TE} {m ms body : ME} {Q : VK} (ls : LkSrc K cA m ms) (hb : ∀ {Lk φ F Pr w2 H2 r Q'}, Rep K cA Lk φ F Pr w2 σ H2 → ms w2 = .ok r w2 → LkR Lk φ σ r → MP K cA Wd Lk φ F Pr σ Q' (body w2) → T σ H2 Q')
    (h : tM K cA Wd (eLock m body) σ H Q) : tLockE T σ H Q ∨ T σ H Q := by
  obtain ⟨Lk, φ, F, Pr, w, R, h⟩ := h
  have h : MP K cA Wd Lk φ F Pr σ Q (eLock m body w) := h
  unfold eLock at h
  cases e1 : m w with
  | no => rw [e1] at h; exact h.elim
  | ex x w1 => rw [e1] at h; exact h.elim
  | ok r w1 =>
    rw [e1] at h
    cases r with
    | own d => exact h.elim
    | bor d => exact h.elim
    | sh d =>
      simp only at h
      by_cases hd : (dctOf w1 d).isSome = true
      case neg => rw [if_neg hd] at h; exact h.elim
      rw [if_pos hd] at h
      obtain ⟨a, F1, r0, l1, R1, s1, em, hr⟩ := ls R e1 hd
      obtain ⟨a', ea', hl, hw⟩ := lock_at R1 s1 hd
      cases ea'
      cases e2 : body (lockW d w1) with
      | no => rw [e2] at h; exact h.elim
      | ex x w2 => rw [e2] at h; exact h.elim
      | ok r w2 =>
        rw [e2] at h
        simp only at h
        by_cases hk : w2.lk = (lockW d w1).lk
        case neg => rw [if_neg hk] at h; exact h.elim
        rw [if_pos hk] at h
        rcases hl with ⟨hn, R2⟩ | ⟨u, hn, ha, hu, R2⟩
        · -- locked already
          refine .inr (hb R2 em (lkR_of hr hn) ?_)
          rw [e2]
          intro v H' φ' F' Pr2 l p lp R3 rv
          refine h v H' φ' F' Pr2 (l1.trans l) p lp ?_ rv
          -- the count of what is locked may be the old one
          rcases lockW_lk (d := d) (w := w1) with e | ⟨n, e3, e4⟩
          · have : w2.lk = w1.lk := hk.trans e
            rw [← this]
            exact R3
          · refine ⟨R3.len, R3.lkh, R3.fz, R3.pr, R3.plen, fun k b o q1 q2 => ?_, R3.of, R3.pnd, R3.sl, R3.inj, R3.tab⟩
            have q := R3.ob k b o q1 q2
            cases o with
            | ins C fs => exact q
            | lst xs => exact q
            | dct t' xs =>
              obtain ⟨ho, h1, h2, h3⟩ := q
              refine ⟨ho, h1, h2, fun z => ?_⟩
              have m1 := h3 z
              rw [hk, e4] at m1
              show k ∈ w1.lk
              rcases List.mem_cons.mp m1 with m1 | m1
              · subst m1
                obtain ⟨a', ea, eb⟩ := (by rw [e3] at s1; exact s1.obj_d : ∃ a', V.ref a = V.ref a' ∧ φ[k]? = some a')
                cases ea
                have e5 := p _ _ eb
                rw [q1] at e5; cases e5
                -- at the beginning it was counted
                rw [e3] at hd
                simp only [dctOf] at hd
                cases e6 : w1.st[k]? with
                | none => rw [e6] at hd; cases hd
                | some ob =>
                  rw [e6] at hd
                  cases ob with
                  | ins C fs => cases hd
                  | lst xs => cases hd
                  | dct t' kvs =>
                    obtain ⟨_, _, _, g3⟩ := R1.ob k _ _ eb e6
                    exact g3 hn
              · exact m1
        · refine .inl ⟨a, u, ha, by cases u <;> first | exact True.intro | exact hu.elim, fun od => hb (R2 od) em (lkR_of hr (by rw [lkPut_same]; exact fun z => (nomatch z))) ?_⟩
          rw [e2]
          intro v H' φ' F' Pr2 l p lp R3 rv
          obtain ⟨q1, q2⟩ := unlock_at hw hn hu l p R3 hk
          refine ⟨q1, h v _ φ' F' Pr2 (l1.trans l) p lp q2 ?_⟩
          exact rv
theorem lockS_at {T : TS} {m ms : ME} {body : MS} {E : Ends} (ls : LkSrc K cA m ms) (hb : ∀ {Lk φ F Pr w2 H2 r E'}, Rep K cA Lk φ F Pr w2 σ H2 → ms w2 = .ok r w2 → LkR Lk φ σ r → MSP K cA Wd Lk φ F Pr E' (body w2) → T E' σ H2)
    (h : tMS K cA Wd (sLock m body) E σ H) : tLock T E σ H ∨ T E σ H := by
  obtain ⟨Lk, φ, F, Pr, w, R, h⟩ := h
  have h : MSP K cA Wd Lk φ F Pr E (sLock m body w) := h
  unfold sLock at h
  cases e1 : m w with
  | no => rw [e1] at h; exact h.elim
  | ex x w1 => rw [e1] at h; exact h.elim
  | ok r w1 =>
    rw [e1] at h
    cases r with
    | own d => exact h.elim
    | bor d => exact h.elim
    | sh d =>
      simp only at h
      by_cases hd : (dctOf w1 d).isSome = true
      case neg => rw [if_neg hd] at h; exact h.elim
      rw [if_pos hd] at h
      obtain ⟨a, F1, r0, l1, R1, s1, em, hr⟩ := ls R e1 hd
      obtain ⟨a', ea', hl, hw⟩ := lock_at R1 s1 hd
      cases ea'
      cases e2 : body (lockW d w1) with
      | no => rw [e2] at h; exact h.elim
      | ex x w2 => rw [e2] at h; exact h.elim
      | ok g w2 =>
        rw [e2] at h
        simp only at h
        by_cases hk : w2.lk = (lockW d w1).lk
        case neg => rw [if_neg hk] at h; exact h.elim
        rw [if_pos hk] at h
        rcases hl with ⟨hn, R2⟩ | ⟨u, hn, ha, hu, R2⟩
        · refine .inr (hb R2 em (lkR_of hr hn) ?_)
          rw [e2]
          have fix : ∀ {σ' : L2.St} {H' : Hp} {φ' : List Addr} {F' Pr2 : Hp}, Pf φ φ' → Rep K cA Lk φ' F' Pr2 w2 σ' H' → Rep K cA Lk φ' F' Pr2 { w2 with lk := w1.lk } σ' H' := by
            intro σ' H' φ' F' Pr2 p R3
            rcases lockW_lk (d := d) (w := w1) with e | ⟨n, e3, e4⟩
            · have : w2.lk = w1.lk := hk.trans e
              rw [← this]
              exact R3
            · refine ⟨R3.len, R3.lkh, R3.fz, R3.pr, R3.plen, fun k b o q1 q2 => ?_, R3.of, R3.pnd, R3.sl, R3.inj, R3.tab⟩
              have q := R3.ob k b o q1 q2
              cases o with
              | ins C fs => exact q
              | lst xs => exact q
              | dct t' xs =>
                obtain ⟨ho, h1, h2, h3⟩ := q
                refine ⟨ho, h1, h2, fun z => ?_⟩
                have m1 := h3 z
                rw [hk, e4] at m1
                show k ∈ w1.lk
                rcases List.mem_cons.mp m1 with m1 | m1
                · subst m1
                  obtain ⟨a', ea, eb⟩ := (by rw [e3] at s1; exact s1.obj_d : ∃ a', V.ref a = V.ref a' ∧ φ[k]? = some a')
                  cases ea
                  have e5 := p _ _ eb
                  rw [q1] at e5; cases e5
                  rw [e3] at hd
                  simp only [dctOf] at hd
                  cases e6 : w1.st[k]? with
                  | none => rw [e6] at hd; cases hd
                  | some ob =>
                    rw [e6] at hd
                    cases ob with
                    | ins C fs => cases hd
                    | lst xs => cases hd
                    | dct t' kvs =>
                      obtain ⟨_, _, _, g3⟩ := R1.ob k _ _ eb e6
                      exact g3 hn
                · exact m1
          have h := MSP.step (F' := F1) l1 (Pf.refl φ) (Le.refl _) h
          cases g with
          | nx => exact fun σ' H' φ' F' l p R3 => h σ' H' φ' F' l p (fix p R3)
          | bk => exact fun σ' H' φ' F' l p R3 => h σ' H' φ' F' l p (fix p R3)
          | ct => exact fun σ' H' φ' F' l p R3 => h σ' H' φ' F' l p (fix p R3)
          | rt r => exact fun v σ' H' φ' F' Pr2 l p lp R3 rv => h v σ' H' φ' F' Pr2 l p lp (fix p R3) rv
        · refine .inl ⟨a, u, ha, by cases u <;> first | exact True.intro | exact hu.elim, fun od => hb (R2 od) em (lkR_of hr (by rw [lkPut_same]; exact fun z => (nomatch z))) ?_⟩
          rw [e2]
          have h := MSP.step (F' := F1) l1 (Pf.refl φ) (Le.refl _) h
          cases g with
          | nx => exact fun σ' H' φ' F' l p R3 => let ⟨q1, q2⟩ := unlock_at hw hn hu l p R3 hk; ⟨q1, h σ' _ φ' F' l p q2⟩
          | bk => exact fun σ' H' φ' F' l p R3 => let ⟨q1, q2⟩ := unlock_at hw hn hu l p R3 hk; ⟨q1, h σ' _ φ' F' l p q2⟩
          | ct => exact fun σ' H' φ' F' l p R3 => let ⟨q1, q2⟩ := unlock_at hw hn hu l p R3 hk; ⟨q1, h σ' _ φ' F' l p q2⟩
          | rt r => exact fun v σ' H' φ' F' Pr2 l p lp R3 rv => let ⟨q1, q2⟩ := unlock_at hw hn hu l p R3 hk; ⟨q1, h v σ' _ φ' F' Pr2 l p lp q2 rv⟩
end
end Rf
set_option maxHeartbeats 1000000
/-! Rf13: dicts walked; subscripts; dict words. -/
namespace Rf
open PySem L2
open PyProof.Rows hiding St

def eBor (i : Nat) : ME := fun w => match w.env[i]? with
  | some (some _) => .ok (.bor i) w
  | _ => .no
/-- an object of the store -/
def eObj (m : ME) : ME := fun w => match m w with
  | .ok (.sh (.obj n)) w' => .ok (.sh (.obj n)) w'
  | _ => .no
/-- no step, whatever is locked -/
def Pth (m : ME) : Prop := ∀ w r w', m w = .ok r w' → w' = w ∧ ∀ l, m { w with lk := l } = .ok r { w with lk := l }
section
variable {K : PySem.W.Frag} {cA : CA} {Wd : WX} {H : Hp} {σ : L2.St}
theorem rd_bor {i : Nat} {Q : VK} (h : tM K cA Wd (eBor i) σ H Q) : tVar i σ H Q := by
  obtain ⟨Lk, φ, F, Pr, w, R, h⟩ := h
  unfold eBor at h
  cases e : w.env[i]? with
  | none => simp only [e] at h
  | some s =>
    cases s with
    | none => simp only [e] at h
    | some s =>
      obtain ⟨v, h1, h2⟩ := R.sl i s e
      simp only [e] at h
      exact ⟨v, h1, h v H φ F Pr (Le.refl _) (Pf.refl _) (Le.refl _) R h1⟩
theorem pth_var {i : Nat} : Pth (eVar i) := by
  intro w r w' e
  unfold eVar at e
  cases q : w.env[i]? with
  | none => simp only [q] at e; cases e
  | some s =>
    cases s with
    | none => simp only [q] at e; cases e
    | some s =>
      cases s with
      | sh d => simp only [q] at e; cases e; exact ⟨rfl, fun l => by unfold eVar; simp only [q]⟩
      | own d => simp only [q] at e; cases e; exact ⟨rfl, fun l => by unfold eVar; simp only [q]⟩
theorem pth_fld {okf : Str → Str → Bool} {m : ME} {f : Str} (hm : Pth m) : Pth (eFld okf m f) := by
  intro w r w' e
  unfold eFld at e
  cases q : m w with
  | no => rw [q] at e; cases e
  | ex x w1 => rw [q] at e; cases e
  | ok r0 w1 =>
    obtain ⟨rfl, hl⟩ := hm w r0 w1 q
    rw [q] at e
    cases r0 with
    | own c => cases e
    | bor c => cases e
    | sh d0 =>
      cases d0 with
      | obj n =>
        simp only [Res.bind] at e
        cases e2 : w1.st[n]? with
        | none => rw [e2] at e; cases e
        | some ob =>
          rw [e2] at e
          cases ob with
          | lst xs => cases e
          | dct t xs => cases e
          | ins C fs =>
            simp only at e
            by_cases hz : okf C f = true
            case neg => rw [if_neg hz] at e; cases e
            rw [if_pos hz] at e
            cases e3 : lookF fs f with
            | none => rw [e3] at e; cases e
            | some d1 =>
              rw [e3] at e; cases e
              refine ⟨rfl, fun l => ?_⟩
              unfold eFld
              rw [hl l]
              simp only [Res.bind, e2]
              rw [if_pos hz, e3]
      | _ => cases e
theorem ls_var {i : Nat} : LkSrc K cA (eEsc (eVar i)) (eBor i) := by
  intro Lk φ F Pr w σ H d w1 R e hd
  have isRef : ∀ {v : V} {F' : Hp}, Sh K φ F' v d → ∃ a, v = .ref a := fun {v F'} s => by
    cases d with
    | dct t kvs =>
      cases t with
      | false => obtain ⟨a, _, h, _⟩ := s.dct_d; exact ⟨a, h⟩
      | true => obtain ⟨a, _, h, _⟩ := s.dctT_d; exact ⟨a, h⟩
    | obj n => obtain ⟨a, h, _⟩ := s.obj_d; exact ⟨a, h⟩
    | _ => cases hd
  have bor : ∀ {w' : W}, (∃ s, w'.env[i]? = some (some s)) → eBor i w' = .ok (.bor i) w' := fun {w'} ⟨s, h⟩ => by unfold eBor; rw [h]
  have lenv : ∀ (d : D) (w : W), (lockW d w).env = w.env := fun d w => by cases d <;> rfl
  unfold eEsc eVar at e
  cases q : w.env[i]? with
  | none => simp only [q, Res.bind] at e; cases e
  | some s =>
    cases s with
    | none => simp only [q, Res.bind] at e; cases e
    | some s =>
      cases s with
      | own c =>
        simp only [q, Res.bind] at e; cases e
        obtain ⟨a, o, h1, h2, h3, h4, R2⟩ := R.freeze q
        have l : Le F (upd F a o) := Le.new h3
        refine ⟨a, _, .bor i, l, R2, (h4.le l (Pf.refl _)).sh upd_same, bor ?_, .inl ⟨i, rfl, h1⟩⟩
        rw [lenv]
        exact ⟨_, List.getElem?_set_self (List.getElem?_eq_some_iff.mp q).1⟩
      | sh d' =>
        simp only [q, Res.bind] at e; cases e
        obtain ⟨v, h1, h2⟩ := R.sl i _ q
        obtain ⟨a, rfl⟩ := isRef h2
        refine ⟨a, F, .bor i, Le.refl _, R, h2, bor ?_, .inl ⟨i, rfl, h1⟩⟩
        rw [lenv]; exact ⟨_, q⟩
theorem ls_path {m : ME} (ad : Adr K cA m) (pt : Pth m) : LkSrc K cA (eObj m) m := by
  intro Lk φ F Pr w σ H d w1 R e hd
  unfold eObj at e
  cases q : m w with
  | no => rw [q] at e; cases e
  | ex x w2 => rw [q] at e; cases e
  | ok r w2 =>
    rw [q] at e
    cases r with
    | own c => cases e
    | bor c => cases e
    | sh d0 =>
      cases d0 with
      | obj n =>
        simp only at e
        cases e
        obtain ⟨v, F', l, R1, s⟩ := ad R q
        obtain ⟨rfl, hl⟩ := pt w _ _ q
        obtain ⟨a, rfl, ea⟩ := s.obj_d
        exact ⟨a, F', .sh (.obj n), l, R1, s, hl _, .inr ⟨n, rfl, ea⟩⟩
      | _ => cases e
end

/-! ### what is handed out -/
def dctR (w : W) : R → Option (Bool × List (D × D))
  | .sh (.obj n) => dctOf w (.obj n)
  | .bor i => (match w.env[i]? with
    | some (some (.sh d)) => dctOf w d
    | _ => none)
  | _ => none
def iDct (f : List (D × D) → List D) (m : ME) : MI := fun w => (m w).bind fun r w1 => match dctR w1 r with
  | some (false, kvs) => .ok (.pur, f kvs) w1
  | _ => .no
section
variable {K : PySem.W.Frag} {cA : CA} {Wd : WX} {H : Hp} {σ : L2.St} {Lk : Addr → Option (Obj × HO)} {φ φ0 : List Addr} {F F0 Pr Pr2 : Hp} {w : W} {r : R} {a : Addr}
theorem dct_res {v : V} {kvs : List (D × D)} (R : Rep K cA Lk φ F Pr2 w σ H) (rv : RV K φ F Pr Pr2 σ v r) (hl : LkR Lk φ0 σ r) (pf : Pf φ0 φ) (e : dctR w r = some (false, kvs)) : ∃ a od ks, v = .ref a ∧ Lk a = some (od, .dK ks) ∧ ShK K φ F ks kvs := by
  obtain ⟨a, hn, hr⟩ := hl
  have objc : ∀ {n : Nat} {a' : Addr}, φ[n]? = some a' → Lk a' ≠ none → dctOf w (.obj n) = some (false, kvs) → ∃ od ks, Lk a' = some (od, .dK ks) ∧ ShK K φ F ks kvs := fun {n a'} ea hn e => by
    simp only [dctOf] at e
    cases e2 : w.st[n]? with
    | none => rw [e2] at e; cases e
    | some ob =>
      rw [e2] at e
      cases ob with
      | ins C fs => cases e
      | lst xs => cases e
      | dct t kv =>
        cases e
        obtain ⟨ho, g1, g2, g3⟩ := R.ob n _ _ ea e2
        rcases g2 with ⟨z1, _⟩ | ⟨_, od, z1, z2⟩
        · exact absurd z1 hn
        · cases g1 with
          | dK s => exact ⟨od, _, z1, s⟩
  rcases hr with ⟨i, rfl, hi⟩ | ⟨n, rfl, hi⟩
  · have hv : σ[i]? = some (some v) := rv
    rw [hi] at hv; cases hv
    simp only [dctR] at e
    cases e1 : w.env[i]? with
    | none => rw [e1] at e; cases e
    | some s =>
      rw [e1] at e
      cases s with
      | none => cases e
      | some s =>
        cases s with
        | own c => cases e
        | sh d =>
          obtain ⟨v', h1, h2⟩ := R.sl i _ e1
          rw [hi] at h1; cases h1
          cases d with
          | dct t kv =>
            cases e
            obtain ⟨a', ks, ea, h3, h4⟩ := Sh.dct_d h2
            cases ea
            rcases (R.fz _ _ h3).1 with ⟨z1, _⟩ | ⟨_, od, z1, z2⟩
            · exact absurd z1 hn
            · exact ⟨a, od, ks, rfl, z1, h4⟩
          | obj n =>
            obtain ⟨a', ea, h3⟩ := Sh.obj_d h2
            cases ea
            obtain ⟨od, ks, z1, z2⟩ := objc h3 hn e
            exact ⟨a, od, ks, rfl, z1, z2⟩
          | _ => cases e
  · obtain ⟨a', rfl, h3⟩ := Sh.obj_d (show Sh K φ F v (.obj n) from rv)
    have := pf _ _ hi
    rw [h3] at this; cases this
    obtain ⟨od, ks, z1, z2⟩ := objc h3 hn e
    exact ⟨_, od, ks, rfl, z1, z2⟩
theorem ShK.at {ks : List (Key × V)} {kvs : List (D × D)} {i : Nat} {k : Key} {x : V} (s : ShK K φ F ks kvs) (h : ks[i]? = some (k, x)) : ∃ q, kvs[i]? = some q ∧ keyD q.1 = some k ∧ Sh K φ F x q.2 := by
  have hi : i < kvs.length := by rw [← s.1]; exact (List.getElem?_eq_some_iff.mp h).1
  have := s.2 i (k, x) kvs[i] h (List.getElem?_eq_getElem hi)
  exact ⟨_, List.getElem?_eq_getElem hi, this.1, this.2⟩
theorem it_vals {od : Obj} {ks : List (Key × V)} {kvs : List (D × D)} (hl : Lk a = some (od, .dK ks)) (s : ShK K φ0 F0 ks kvs) : ItR K cA Lk φ0 F0 (Itd a od ks) (valsD kvs) (srcInv .pur) := by
  have hlen : (valsD kvs).length = ks.length := by simp [valsD, s.1]
  refine ⟨fun i l pf R _ hi => ⟨R.lkh a _ hl, by omega⟩, fun l pf R _ => ⟨R.lkh a _ hl, by omega⟩, fun {φ F Pr w σ H} i x H' d l pf R _ hd y => ?_⟩
  obtain ⟨rfl, k, hk⟩ := y
  obtain ⟨q, h1, h2, h3⟩ := (s.le l pf).at hk
  simp only [valsD, List.getElem?_map, h1, Option.map_some, Option.some.injEq] at hd
  rw [← hd]
  exact ⟨F, Le.refl _, R, h3⟩
theorem it_items {od : Obj} {ks : List (Key × V)} {kvs : List (D × D)} (hl : Lk a = some (od, .dK ks)) (s : ShK K φ0 F0 ks kvs) : ItR K cA Lk φ0 F0 (Iti a od ks) (itemsD kvs) (srcInv .pur) := by
  have hlen : (itemsD kvs).length = ks.length := by simp [itemsD, s.1]
  refine ⟨fun i l pf R _ hi => ⟨R.lkh a _ hl, by omega⟩, fun l pf R _ => ⟨R.lkh a _ hl, by omega⟩, fun {φ F Pr w σ H} i x H' d l pf R _ hd y => ?_⟩
  obtain ⟨T, k, v, hk, rfl, hT, rfl⟩ := y
  obtain ⟨q, h1, h2, h3⟩ := (s.le l pf).at hk
  simp only [itemsD, List.getElem?_map, h1, Option.map_some, Option.some.injEq] at hd
  rw [← hd]
  exact pair_new R hT (kV_sh h2) h3
theorem it_keys {od : Obj} {ks : List (Key × V)} {kvs : List (D × D)} (hl : Lk a = some (od, .dK ks)) (s : ShK K φ0 F0 ks kvs) : ItR K cA Lk φ0 F0 (Itk a od ks) (keysD' kvs) (srcInv .pur) := by
  have hlen : (keysD' kvs).length = ks.length := by simp [keysD', s.1]
  refine ⟨fun i l pf R _ hi => ⟨R.lkh a _ hl, by omega⟩, fun l pf R _ => ⟨R.lkh a _ hl, by omega⟩, fun {φ F Pr w σ H} i x H' d l pf R _ hd y => ?_⟩
  obtain ⟨rfl, k, v, hk, rfl⟩ := y
  obtain ⟨q, h1, h2, h3⟩ := (s.le l pf).at hk
  simp only [keysD', List.getElem?_map, h1, Option.map_some, Option.some.injEq] at hd
  rw [← hd]
  exact ⟨F, Le.refl _, R, kV_sh h2⟩
/-- the common beginning -/
theorem wi_dct {m : ME} {f : List (D × D) → List D} {k : V → Hp → Prop} {R' : It → Hp → Prop} (R : Rep K cA Lk φ F Pr w σ H) (e : m w = .ok r w) (hl : LkR Lk φ σ r)
    (h : match iDct f m w with
      | .ok p w' => ∀ J H' φ' F' Pr2, Le F F' → Pf φ φ' → Le Pr Pr2 → Rep K cA Lk φ' F' Pr2 w' σ H' → ItR K cA Lk φ' F' J p.2 (srcInv p.1) → R' J H'
      | .ex x w' => ∀ cls dx H' φ' F' Pr2, Le F F' → Pf φ φ' → Le Pr Pr2 → Rep K cA Lk φ' F' Pr2 w' σ H' → XR cA K φ' F' H' x cls dx → Wd cls dx σ H'
      | .no => False)
    (hk : ∀ a od ks kvs φ' F' H', Lk a = some (od, .dK ks) → H' a = some (.frz od (.dK ks)) → ShK K φ' F' ks kvs → (∀ J, ItR K cA Lk φ' F' J (f kvs) (srcInv .pur) → R' J H') → k (.ref a) H') : tM K cA Wd m σ H k := by
  refine tM_of R ?_
  rw [e]
  unfold iDct at h
  rw [e] at h
  simp only [Res.bind] at h
  cases q : dctR w r with
  | none => rw [q] at h; exact h.elim
  | some p =>
    rw [q] at h
    obtain ⟨t, kvs⟩ := p
    cases t with
    | true => exact h.elim
    | false =>
      intro v H' φ' F' Pr2 l p lp R1 rv
      obtain ⟨a, od, ks, rfl, z1, z2⟩ := dct_res R1 rv hl p q
      exact hk a od ks kvs φ' F' H' z1 (R1.lkh a _ z1) z2 fun J it => h J H' φ' F' Pr2 l p lp R1 it
theorem wi_vals {m : ME} (R : Rep K cA Lk φ F Pr w σ H) (e : m w = .ok r w) (hl : LkR Lk φ σ r) : WiAt K cA Wd (iVals (tM K cA Wd m)) Lk φ F Pr σ H (iDct valsD m w) := fun R' h =>
  wi_dct R e hl h fun a od ks kvs φ' F' H' z1 z2 z3 k => ⟨a, od, ks, rfl, z2, k _ (it_vals z1 z3)⟩
theorem wi_items {m : ME} (R : Rep K cA Lk φ F Pr w σ H) (e : m w = .ok r w) (hl : LkR Lk φ σ r) : WiAt K cA Wd (iItems (tM K cA Wd m)) Lk φ F Pr σ H (iDct itemsD m w) := fun R' h =>
  wi_dct R e hl h fun a od ks kvs φ' F' H' z1 z2 z3 k => ⟨a, od, ks, rfl, z2, k _ (it_items z1 z3)⟩
theorem wi_keys {m : ME} (R : Rep K cA Lk φ F Pr w σ H) (e : m w = .ok r w) (hl : LkR Lk φ σ r) : WiAt K cA Wd (iKeys (tM K cA Wd m)) Lk φ F Pr σ H (iDct keysD' m w) := fun R' h =>
  wi_dct R e hl h fun a od ks kvs φ' F' H' z1 z2 z3 k => ⟨a, od, rfl, .inl ⟨ks, z2, k _ (it_keys z1 z3)⟩⟩
end
end Rf
set_option maxHeartbeats 1000000
/-! Rg1: a generator expression with any body, under HandS's invariant. -/
namespace RfG
open PySem PySem.Spec PyProof.Rows L2 GenW

/-- while it sleeps: all stands but the consumer's own records at Sl -/
structure SleptG (Sl : List Addr) (s s' : Shared) : Prop where
  os : s'.os = s.os
  bare : AllBare s'.gens
  keep : ∀ b o, b ∉ Sl → s.heap.get? b = some o → s'.heap.get? b = some o
  own : ∀ b ∈ Sl, ∃ o', s'.heap.get? b = some o' ∧ ∀ v, o'.data ≠ .cell v
def SlOk (Sl : List Addr) (s : Shared) : Prop := ∀ b ∈ Sl, ∃ o, s.heap.get? b = some o ∧ ∀ v, o.data ≠ .cell v
def KeepSl (Sl : List Addr) (s₀ s : Shared) : Prop := ∀ b ∈ Sl, ∀ o, s₀.heap.get? b = some o → s.heap.get? b = some o
def GTurns (J : It) (g : TG) (tt : TT) (te : TE) (vs : List Nat) (σ : L2.St) (T : Nat) (Stop : Hp → Prop) (Item : Nat → V → Hp → Prop → Prop) (W : Nat → Nat → Nat → Hp → Prop) : Prop :=
  ∀ i r m H, W i r m H → (J.stop i H ∧ r = 0 ∧ Stop H) ∨ (J.go i H ∧ ∃ Nx : Nat → Hp → Prop, (∀ r' H', Nx r' H' → ∃ m', m' < m ∧ W (i + 1) r' m' H') ∧ ∀ x H', J.yld i H x H' → g x (wipe σ vs) H' fun σ2 H2 => wipe σ2 vs = wipe σ vs ∧ tt σ2 H2 fun b H3 =>
    if b = true then te σ2 H3 fun y H4 => ∃ r', r = r' + 1 ∧ Item (T - r) y H4 (Nx r' H4) else Nx r H3)
def GPlan (J : It) (g : TG) (tt : TT) (te : TE) (vs : List Nat) (σ : L2.St) (T : Nat) (Stop : Hp → Prop) (Item : Nat → V → Hp → Prop → Prop) (H : Hp) : Prop :=
  ∃ W : Nat → Nat → Nat → Hp → Prop, (∃ m, W 0 T m H) ∧ GTurns J g tt te vs σ T Stop Item W
def RG (Y : Cx) (Sl : List Addr) (Stop : Hp → Prop) : GenEnd := fun n s₀ r s1 => r = .ok .next ∧ n = 0 ∧ ∃ σ' H, Inv Y [] σ' H s1 ∧ Stop H ∧ KeepSl Sl s₀ s1
def YG (Y : Cx) (Sl : List Addr) (T : Nat) (Item : Nat → V → Hp → Prop → Prop) : Protocol := fun n s₀ v s kap =>
  ∃ σ' y H N, Inv Y [] σ' H s ∧ RelV y v ∧ Item (T - (n + 1)) y H N ∧ KeepSl Sl s₀ s ∧ (N → ∀ s', SleptG Sl s s' → kap (.send .none) s')

/-- woken again -/
theorem slept_inv {Y : Cx} {Sl : List Addr} {σ : L2.St} {H : Hp} {s s' : Shared} (I : Inv Y [] σ H s) (hS : ∀ b ∈ Sl, H b = none ∧ b ∈ Y.ex) (hpn : ∀ p ∈ Y.pn, p.1 ∉ Sl) (z : SleptG Sl s s') : Inv Y [] σ H s' := by
  obtain ⟨z1, z2, z3, z4⟩ := z
  obtain ⟨hh, g, d, t, o⟩ := s'
  have ho : o = s.os := z1
  subst ho
  have nt : ∀ b u, H b = some u → b ∉ Sl := fun b u q hb => by rw [(hS b hb).1] at q; cases q
  refine I.step (g' := g) (t' := t) (d' := d) (ch := Sl) (fun b hb => ?_)
    (fun b ob _ _ hc q _ => z3 b ob hc q) (fun b ob _ _ hc q _ => ⟨ob.slots, z3 b ob hc q⟩) (fun _ _ _ _ n => n) (fun b ob hc q => ⟨ob, z3 b ob hc q⟩)
    (fun _ _ q => q) (fun _ _ _ q => q) (fun b ps q => ⟨#[], by rw [q]; simp⟩) (fun m hm => ?_) (fun b u q => ?_) z2
  · have hx := (hS b hb).2
    refine ⟨.inl hx, (I.ok.exf b hx).1, fun x c e => (I.ok.exf b hx).2 x c e, fun p hp => ?_⟩
    rcases List.mem_append.mp hp with hp | hp
    · exact fun e => hpn p hp (e ▸ hb)
    · cases hp
  · obtain ⟨ob, es, ep, ho, r⟩ := hm
    exact ⟨ob, es, ep, z3 _ ob (fun hb => (I.ok.exf _ (hS _ hb).2).1 rfl) ho, r⟩
  · refine (I.hok b u q).stay (fun c v hc y => z3 c v ?_ y) (fun _ y => y) fun _ _ y => y
    rcases hc with y | y
    · rw [y]; exact nt b u q
    · exact nt c _ y

section
variable {Y : Cx} {A : Around} {elt tg iter : Expr} {ifs : List Expr} {scope : Scope} {pos : Pos} {it : Addr} {fp Sl : List Addr} {tn : Nat → Heap → Prop} {J : It} {g : TG} {tt : TT} {te : TE} {vs : List Nat} {σ : L2.St} {T : Nat}
  {Stop : Hp → Prop} {Item : Nat → V → Hp → Prop → Prop} {W : Nat → Nat → Nat → Hp → Prop}
theorem seg_gx (hA : A.over (.compLoop (.GeneratorExp elt [⟨tg, iter, ifs, 0⟩] scope pos) 0 (.ref it) .none Y.env) [] = Y.A) (hc : Y.calm = true) (hxe : Y.xe = fun _ _ => False) (hco : Y.env.scope.isCoroutine = false)
    (hex : ∀ b ∈ Sl ++ fp, b ∈ Y.ex) (hpn : ∀ p ∈ Y.pn, p.1 ∉ Sl ++ fp) (hdis : ∀ b ∈ Sl, b ∉ fp)
    (Tn : Turn Y.prog Y.w Y.K tg J fp it tn) (pg : PG Y tg g) (pt : PTs Y ifs tt) (pe : PE Y elt te) (turn : GTurns J g tt te vs σ T Stop Item W) :
    ∀ (m i r : Nat) (s₀ s : Shared) (H : Hp), W i r m H → Inv Y (pinsAt Sl s.heap) (wipe σ vs) H s → SlOk Sl s → tn i s.heap → (∀ b ∈ fp, H b = none) → KeepSl Sl s₀ s →
      Seg (model Y.prog Y.w) A (RG Y Sl Stop) (YG Y Sl T Item) r s₀ (.compLoop (.GeneratorExp elt [⟨tg, iter, ifs, 0⟩] scope pos) 0 (.ref it) .none Y.env)
        ((model Y.prog Y.w).den (.compLoop (.GeneratorExp elt [⟨tg, iter, ifs, 0⟩] scope pos) 0 (.ref it) .none Y.env)) [] s := by
  have F : ∀ {β : Type} {a : β} {s : Shared} {Q : Value → Shared → Prop}, ∀ (e : Value) (s : Shared), Y.xe e s → Q e s := fun {β a s Q} e s h => by rw [hxe] at h; exact h.elim
  intro m
  induction m using Nat.strongRecOn with
  | ind m ih =>
  intro i r s₀ s H w I hsl st nfp kp
  have pin0 : ∀ {H' : Hp} {s' : Shared} {σ' : L2.St} {pl : List (Addr × Obj)}, Inv Y (pinsAt Sl s.heap ++ pl) σ' H' s' → (∀ b ∈ Sl, ∀ o, s.heap.get? b = some o → s'.heap.get? b = some o) ∧ ∀ b ∈ Sl, H' b = none := fun {H' s' σ' pl} I' => by
    refine ⟨fun b hb o e => (I'.pin (b, o) (List.mem_append_right _ (List.mem_append_left _ (mem_pinsAt hb e)))).1, fun b hb => ?_⟩
    obtain ⟨o, e, _⟩ := hsl b hb
    exact (I'.pin (b, o) (List.mem_append_right _ (List.mem_append_left _ (mem_pinsAt hb e)))).2.1
  have stat : ∀ {σ' : L2.St} {H' : Hp} {s' : Shared}, Inv Y (pinsAt Sl s.heap) σ' H' s' → (∀ b ∈ fp, H' b = none) → ∀ b ∈ fp, FpOk Y (pinsAt Sl s.heap) H' b := fun {σ' H' s'} I' hn b hb => by
    have hx := hex b (List.mem_append_right _ hb)
    refine ⟨hn b hb, (I'.ok.exf b hx).1, I'.ok.exfs b hx, .inl hx, fun x c e => (I'.ok.exf b hx).2 x c e, fun p hp => ?_⟩
    rcases List.mem_append.mp hp with hp | hp
    · exact fun e => hpn p hp (e ▸ List.mem_append_right _ hb)
    · exact fun e => hdis p.1 (of_pinsAt hp).1 (e ▸ hb)
  show Seg _ A _ _ _ s₀ _ ((compTurn (.GeneratorExp elt [⟨tg, iter, ifs, 0⟩] scope pos) 0 (.ref it) .none Y.env).onRaise (leaving Y.env)) [] s
  rw [compTurn_gen, Sem.onRaise_eq_wrap]
  refine seg_bind_wrap (wpAny_standAt ?_)
  rcases turn i r m H w with ⟨stop, hr, hs⟩ | ⟨go, Nx, hNx, step⟩
  · subst hr
    refine seg_bind_wrap ?_
    rw [hA]
    refine wpAny_mono (Tn.done Y rfl rfl rfl hc i _ s _ H (fun _ _ => False) I (stat I nfp) st stop) (fun q s6 hq => ?_) fun _ _ z => z.elim
    obtain ⟨rfl, I6⟩ := hq
    have I6' : Inv Y (pinsAt Sl s.heap ++ []) (wipe σ vs) H s6 := by rw [List.append_nil]; exact I6
    exact seg_end (.ok .next) ⟨rfl, rfl, _, H, I6.pins_of (fun p hp => by cases hp), hs, fun b hb o e => (pin0 I6').1 b hb o (kp b hb o e)⟩
  · refine seg_bind_wrap ?_
    rw [hA]
    refine wpAny_mono (Tn.item Y rfl rfl rfl hc i _ s _ H (fun _ _ => False) I (stat I nfp) st go) (fun q s6 hq => ?_) fun _ _ z => z.elim
    obtain ⟨u, rfl, h6⟩ := hq
    refine seg_bind_wrap ?_
    rw [hA]
    refine wpAny_mono h6 (fun _ s7 h7 => ?_) fun _ _ z => z.elim
    obtain ⟨x, H7, I7, r7, y7, st7, n7⟩ := h7
    have I7' := I7.pinned (stat I7 n7) (Tn.obj _ _ st7)
    refine seg_bind_wrap ?_
    rw [hA]
    refine wpAny_mono (pg.run _ s7 _ H7 x u _ I7' r7 (step x H7 y7)) (fun _ s8 h8 => ?_) (by rw [hxe]; exact fun _ _ z => z.elim)
    obtain ⟨σ8, H8, I8, hw8, q8⟩ := h8
    refine seg_bind_wrap ?_
    rw [hA]
    refine wpAny_mono (pt.run _ s8 σ8 H8 _ I8 q8) (fun b s9 h9 => ?_) (by rw [hxe]; exact fun _ _ z => z.elim)
    obtain ⟨H9, I9, q9⟩ := h9
    -- the turn's end
    have fin : ∀ {s' : Shared} {H' : Hp}, Inv Y (pinsAt Sl s.heap ++ pinsAt fp s7.heap) σ8 H' s' → Inv Y [] (wipe σ vs) H' s' ∧ SlOk Sl s' ∧ tn (i + 1) s'.heap ∧ (∀ b ∈ fp, H' b = none) ∧ (∀ b ∈ Sl, H' b = none) ∧ KeepSl Sl s₀ s' := fun {s' H'} I' => by
      have pin' : ∀ b ∈ fp, ∀ o, s7.heap.get? b = some o → s'.heap.get? b = some o ∧ H' b = none := fun b hb o e =>
        let z := I'.pin (b, o) (List.mem_append_right _ (List.mem_append_right _ (mem_pinsAt hb e)))
        ⟨z.1, z.2.1⟩
      have hl : (wipe σ vs).length = σ8.length := by rw [← hw8, wipe_length]
      obtain ⟨p1, p2⟩ := pin0 I'
      refine ⟨(I'.pins_of (fun p hp => by cases hp)).weak hl (fun j v e => ?_), fun b hb => ?_, Tn.keep _ _ _ st7 fun b hb o e => (pin' b hb o e).1, fun b hb => ?_, p2, fun b hb o e => p1 b hb o (kp b hb o e)⟩
      · rw [← hw8] at e
        exact (wipe_some e).1
      · obtain ⟨o, e, d⟩ := hsl b hb
        exact ⟨o, p1 b hb o e, d⟩
      · obtain ⟨o, e, _⟩ := Tn.obj _ _ st7 b hb
        exact (pin' b hb o e).2
    have repin : ∀ {s' : Shared} {H' : Hp}, Inv Y [] (wipe σ vs) H' s' → SlOk Sl s' → (∀ b ∈ Sl, H' b = none) → Inv Y (pinsAt Sl s'.heap) (wipe σ vs) H' s' := fun {s' H'} I' h1 h2 => by
      have q := I'.pinned (fp := Sl) (fun b hb => ?_) h1
      · exact q
      · have hx := hex b (List.mem_append_left _ hb)
        refine ⟨h2 b hb, (I'.ok.exf b hx).1, I'.ok.exfs b hx, .inl hx, fun x c e => (I'.ok.exf b hx).2 x c e, fun p hp => ?_⟩
        rcases List.mem_append.mp hp with hp | hp
        · exact fun e => hpn p hp (e ▸ List.mem_append_left _ hb)
        · cases hp
    cases b with
    | false =>
      simp only [Bool.false_eq_true, if_false] at q9 ⊢
      obtain ⟨f1, f2, f3, f4, f5, f6⟩ := fin I9
      obtain ⟨m', hm, w'⟩ := hNx r H9 q9
      exact seg_again rfl (ih m' hm (i + 1) r s₀ s9 H9 w' (repin f1 f2 f5) f2 f3 f4 f6)
    | true =>
      simp only [if_true] at q9 ⊢
      have hy : ∀ v, yieldOut Y.env v = yieldValue v := fun v => by simp only [yieldOut, hco, Bool.false_eq_true, if_false]
      simp only [hy]
      rw [Sem.bind_eq_wrap', Sem.bind_eq_wrap', Sem.wrap_wrap, Sem.wrap_wrap]
      refine seg_wrap ?_
      rw [hA]
      refine wpAny_mono (pe.run _ s9 σ8 H9 _ I9 q9) (fun z s10 h10 => ?_) (by rw [hxe]; exact fun _ _ z => z.elim)
      obtain ⟨yv, H10, I10, r10, r', hr', hI⟩ := h10
      subst hr'
      obtain ⟨f1, f2, f3, f4, f5, f6⟩ := fin I10
      refine seg_at (seg_yield rfl rfl rfl ⟨_, yv, H10, _, f1, r10, hI, f6, fun nx s'' z => ?_⟩)
      obtain ⟨m', hm, w'⟩ := hNx r' H10 nx
      have g1 : Inv Y [] (wipe σ vs) H10 s'' := slept_inv f1 (fun b hb => ⟨f5 b hb, hex b (List.mem_append_left _ hb)⟩) (fun p hp e => hpn p hp (List.mem_append_left _ e)) z
      have g2 : SlOk Sl s'' := z.own
      refine seg_again rfl (ih m' hm (i + 1) r' s'' s'' H10 w' (repin g1 g2 f5) g2 (Tn.keep _ _ _ f3 fun b hb o e => z.keep b o (fun hs => hdis b hs hb) e) f4 fun _ _ _ e => e)
end
end RfG
set_option maxHeartbeats 1000000
/-! Rg2: a generator expression is made, and begins. -/
namespace RfG
open PySem PySem.Spec PyProof.Rows L2 GenW

section
variable {Y : Cx} {A : Around} {elt tg iter : Expr} {ifs : List Expr} {scope : Scope} {pos : Pos} {it : Addr} {fp : List Addr} {tn : Nat → Heap → Prop} {J : It} {R : GenEnd} {Yp : Protocol} {r : Nat} {s₀ s : Shared}
theorem seg_gxStart (Tn : Turn Y.prog Y.w Y.K tg J fp it tn) (st : tn 0 s.heap)
    (loop : Seg (model Y.prog Y.w) A R Yp r s₀ (.compLoop (.GeneratorExp elt [⟨tg, iter, ifs, 0⟩] scope pos) 0 (.ref it) .none Y.env) ((model Y.prog Y.w).den (.compLoop (.GeneratorExp elt [⟨tg, iter, ifs, 0⟩] scope pos) 0 (.ref it) .none Y.env)) [] s) :
    Seg (model Y.prog Y.w) A R Yp r s₀ (.compStart (.GeneratorExp elt [⟨tg, iter, ifs, 0⟩] scope pos) 0 (.ref it) .none Y.env) ((model Y.prog Y.w).den (.compStart (.GeneratorExp elt [⟨tg, iter, ifs, 0⟩] scope pos) 0 (.ref it) .none Y.env)) [] s := by
  show Seg _ A _ _ _ s₀ _ ((compStart (.GeneratorExp elt [⟨tg, iter, ifs, 0⟩] scope pos) 0 (.ref it) .none Y.env).onRaise (leaving Y.env)) [] s
  unfold compStart
  rw [Sem.onRaise_eq_wrap]
  show Seg _ A _ _ _ s₀ _ ((ask >>= _).wrap _ _ _ _) [] s
  refine seg_bind_wrap (wpAny_askSetting ?_)
  split
  · exact seg_again rfl loop
  · first
      | exact seg_bind_wrap (wpAny_rule (seg_bind_wrap (wpAny_standAt (seg_bind_wrap (Tn.self _ 0 s _ _ st (seg_again rfl loop))))))
      | (refine seg_bind_wrap (wpAny_rule ?_); show Seg _ A _ _ _ s₀ _ ((standAt iter.pos >>= _).wrap _ _ _ _) [] s; exact seg_bind_wrap (wpAny_standAt (seg_bind_wrap (Tn.self _ 0 s _ _ st (seg_again rfl loop)))))
end

/-- the table at P has grown at most by the code at pos -/
def GTab (P : Addr) (pos : Pos) (H H' : Hp) : Prop := (∀ b, b ≠ P → H' b = H b) ∧ ∃ ps ps' : Array Value, H P = some (.tbl ps) ∧ H' P = some (.tbl ps') ∧ TriplesOk ps'.toList ∧ (ps'.toList = ps.toList ∨ ∃ c, ps'.toList = ps.toList ++ [rawInt pos.line, rawInt pos.col, c])
/-- the context of a generator expression's frame -/
abbrev gxCx (X : Cx) (A : Around) (s : Shared) (H : Hp) (genv : Env) (ex : List Addr) (pn : List (Addr × Obj)) : Cx :=
  { X with A := A, s_0 := s, H_0 := H, env := genv, outer := X.stack, stack := genv :: X.stack, ex := ex, fn := fun _ => false, calm := true, pn := pn, xe := fun _ _ => False }
abbrev gxEnv (X : Cx) (scope : Scope) (C : Addr) (code : Value) : Env := genEnv scope (cloFrom X.env.cells scope.names []) C code builtinsNs X.env
section
variable {X : Cx} {pins : List (Addr × Obj)} {σ : L2.St} {H : Hp} {s : Shared}
theorem gx_start {scope : Scope} {own : List (Str × Nat)} {code : Value} {ex : List Addr} {pn : List (Addr × Obj)} {A' : Around} {s6 : Shared} {mm : Str → Option Value} (I : Inv X pins σ H s) (ok : BlkOk X.N X.env.scope scope own) (hN : X.N.Nodup) (hcell : ∀ y ∈ scope.names, y.2 ≠ .cell)
    (hfr : A'.frames = some (gxEnv X scope s.heap.objs.size code :: X.stack)) (hh : A'.handled = none) (kp : ∀ b o, s.heap.get? b = some o → s6.heap.get? b = some o) (hns : s6.heap.Ns s.heap.objs.size mm) (os : s6.os = s.os) (hb : AllBare s6.gens)
    (hex : ∀ b ∈ ex, FpOk X pins H b ∧ b ≠ s.heap.objs.size) (hpn : ∀ p ∈ pn, s6.heap.get? p.1 = some p.2 ∧ H p.1 = none ∧ p.1 ≠ s.heap.objs.size ∧ p.1 ∉ frs X.stack ∧ ∀ v, p.2.data ≠ .cell v) :
    Inv (gxCx X A' s H (gxEnv X scope s.heap.objs.size code) ex pn) [] (wipe σ (own.map (·.2))) H s6 := by
  have hfree : ∀ y ∈ scope.names, y.2 = .free → ∃ c, X.env.cells.lookup y.1 = some c := fun y hy e => by
    rcases ok.free y hy e with k | k
    · exact I.ok.has _ (.inl k)
    · exact I.ok.has _ (.inr k)
  have cm : ∀ {y c}, (cloFrom X.env.cells scope.names []).lookup y = some c → X.env.cells.lookup y = some c := fun {y c} hm => by
    rcases cloFrom_mem (PySem.mem_of_lookup hm) with hm | ⟨h1, rfl⟩
    · cases hm
    · obtain ⟨c, hc⟩ := hfree _ h1 rfl
      rw [hc] <;> rfl
  have look : ∀ {y}, scope.names.lookup y = some .free → ∃ c, (cloFrom X.env.cells scope.names []).lookup y = some c ∧ X.env.cells.lookup y = some c := fun {y} hl => by
    have hy : (y, NameKind.free) ∈ scope.names := PySem.mem_of_lookup hl
    obtain ⟨c', e'⟩ := mem_lookup (cloFrom_has (cells := X.env.cells) (acc := []) hy)
    exact ⟨c', e', cm e'⟩
  have okB : (gxCx X A' s H (gxEnv X scope s.heap.objs.size code) ex pn).Ok := by
    refine ⟨I.ok.mod, ok.kind, I.ok.glob, rfl, Nat.le_refl _, fun y z c e1 e2 => I.ok.inj y z c (cm e1) (cm e2), fun y hy => ?_, fun y c z => ?_, fun _ => hh, hfr, .inr ⟨rfl, rfl⟩, fun b hb => ⟨(hex b hb).2, fun y c e => (hex b hb).1.2.2.2.2.1 y c (cm e)⟩, I.bs, Nat.le_trans I.ok.bsz I.sz,
      fun b o e hb => ?_, fun b hb z => ?_, I.stack, I.stkFree⟩
    · have hy : scope.names.lookup y = some .cell ∨ scope.names.lookup y = some .free := hy
      rcases hy with hy | hy
      · exact absurd rfl (hcell _ (PySem.mem_of_lookup hy))
      · obtain ⟨c, h1, _⟩ := look hy
        exact ⟨c, h1⟩
    · cases z
    · rcases (hex b hb).1.2.2.2.1 with z | z
      · exact I.ok.noex b o e z
      · exact absurd (Nat.lt_of_lt_of_le (Heap.lt_size e) (Nat.le_trans I.ok.bsz z)) (Nat.lt_irrefl _)
    · rcases List.mem_cons.mp (I.stkSub b z) with z | z
      · exact (hex b hb).1.2.1 z
      · exact (hex b hb).1.2.2.1 z
  refine ⟨okB, os, hb, Un.kept kp, ⟨mm, hns, fun i y av e1 e2 e3 => ?_⟩, fun y c e => ?_, I.hok.fresh (Nat.le_refl _), fun y c e => I.freeC y c (cm e), fun p hp => ?_, I.hok.kept kp, by rw [wipe_length]; exact I.len⟩
  · obtain ⟨e2, hne⟩ := wipe_some e2
    have e3 : scope.names.lookup y = some .local ∨ scope.names.lookup y = some .cell ∨ scope.names.lookup y = some .free := e3
    have no : ∀ k, scope.names.lookup y = some k → ¬ (k = .local ∨ k = .cell) := fun k e hk => by
      rcases ok.own _ (PySem.mem_of_lookup e) hk with e' | e'
      · obtain ⟨p, hp, hpy⟩ := List.mem_map.mp e'
        have e3 := ok.ix p hp
        have : p.1 = y := hpy
        rw [this] at e3
        exact hne (List.mem_map.mpr ⟨p, hp, nodup_ix hN e3 e1⟩)
      · exact e' (List.mem_of_getElem? e1)
    have hf : scope.names.lookup y = some .free := by
      rcases e3 with e | e | e
      · exact absurd (.inl rfl) (no _ e)
      · exact absurd (.inr rfl) (no _ e)
      · exact e
    obtain ⟨m, hn, hl⟩ := I.loc
    have hk := ok.free _ (PySem.mem_of_lookup hf) rfl
    have hvis : Vis X.env.scope y := hk.elim (fun k => .inr (.inl k)) (fun k => .inr (.inr k))
    obtain ⟨w, r, q⟩ := hl i y av e1 e2 hvis
    refine ⟨w, r, .inr ⟨.inr hf, ?_⟩⟩
    obtain ⟨c, h1, h2⟩ := look hf
    rcases q with ⟨k, _⟩ | ⟨_, c', e', z⟩
    · have k : X.env.scope.names.lookup y = some .local := k
      rcases hk with k' | k' <;> rw [show X.env.scope.names.lookup y = _ from k'] at k <;> cases k
    · rw [h2] at e'; cases e'
      exact ⟨c, h1, z.keeps kp⟩
  · obtain ⟨w, z⟩ := I.cell y c (cm e)
    exact ⟨w, z.keeps kp⟩
  · rcases List.mem_append.mp hp with hp | hp
    · exact hpn p hp
    · cases hp

/-- the generator's object a stands, it has not begun -/
structure Made (X : Cx) (pins : List (Addr × Obj)) (σ : L2.St) (gx tg : Expr) (scope : Scope) (J : It) (H2 : Hp) (it a : Addr) (g : Nat) (fp : List Addr) (tn : Nat → Heap → Prop) (code : Value) (go : Obj) (s4 s5 : Shared) : Prop where
  i5 : Inv X pins σ H2 s5
  i4 : Inv X pins σ H2 s4
  tu : Turn X.prog X.w X.K tg J fp it tn
  t0 : tn 0 s5.heap
  fpo : ∀ b ∈ fp, FpOk X pins H2 b ∧ b < s4.heap.objs.size
  ns : s5.heap.Ns s4.heap.objs.size (fun y => if y = ".0" then some (.ref it) else none)
  kp : ∀ b o, s4.heap.get? b = some o → s5.heap.get? b = some o
  os : s5.os = s4.os
  la : s4.heap.objs.size < a
  lb : a < s5.heap.objs.size
  ga : s5.heap.get? a = some go
  gg : ∀ h : Heap, h.get? a = some go → h.IsGen a g
  gc : ∀ v, go.data ≠ .cell v
  gs : s5.gens[g]? = some (.fresh (.compStart gx 0 (.ref it) .none (gxEnv X scope s4.heap.objs.size code)))

theorem gx_made {c P : Addr} {elt tg iter : Expr} {ifs : List Expr} {scope : Scope} {own : List (Str × Nat)} {pos : Pos} {wi : TI} {Q' : Value → Shared → Prop} {R : It → Hp → Prop}
    (hd : X.A.depth < recursionLimit) (TB : GxR.TabB X.base X.mg c P) (hcode : X.env.code = .ref c) (hco : scope.isCoroutine = false) (hcell : ∀ y ∈ scope.names, y.2 ≠ .cell) (h0 : scope.names.lookup (".0" : Str) = some NameKind.local)
    (ok : BlkOk X.N X.env.scope scope own) (hi : PI X tg iter wi) (hs : ∀ v, genFold iter X.env v = pure v) (I : Inv X pins σ H s) (h : wi σ H fun J H1 => GxR.TabG H1 P ∧ ∀ H2, GTab P pos H1 H2 → R J H2)
    (hQ : ∀ J H2 it a g fp tn code go s4 s5, R J H2 → Made X pins σ (.GeneratorExp elt [⟨tg, iter, ifs, 0⟩] scope pos) tg scope J H2 it a g fp tn code go s4 s5 → Q' (.ref a) s5) :
    wpAny (model X.prog X.w) X.A (eval (.GeneratorExp elt [⟨tg, iter, ifs, 0⟩] scope pos) X.env) Q' X.xe s := by
  have hfree : ∀ y ∈ scope.names, y.2 = .free → ∃ c, X.env.cells.lookup y.1 = some c := fun y hy e => by
    rcases ok.free y hy e with k | k
    · exact I.ok.has _ (.inl k)
    · exact I.ok.has _ (.inr k)
  refine wpAny_GeneratorExp_make hco (closure_ok hfree) hcell h0 ok.kind hd ?_ hs
  refine thn (hi.run pins s σ H _ I h) fun xv s1 hx => thn hx fun itv s2 h2 => ?_
  obtain ⟨it, fp, tn, J, H1, e, I2, T, st2, f2, ⟨ps, hP, ht⟩, q⟩ := h2
  subst e
  have hPs : s2.heap.get? P = some { cls := .none, data := .fields ps } := I2.hok P _ hP
  have hPlt : P < s2.heap.objs.size := Heap.lt_size hPs
  have cd : PySem.W.CodeHd s2.heap c P := TB.code.keeps I2.bk
  have fpP : ∀ b ∈ fp, b ≠ P := fun b hb z => by
    have := (f2 b hb).1
    rw [z, hP] at this; cases this
  have cont : ∀ (code : Value) (h3 : Heap) (tk : Nat) (ps' : Array Value), Heap.ExtBut P s2.heap h3 → s2.heap.objs.size ≤ h3.objs.size → h3.get? P = some { cls := .none, data := .fields ps' } → (∃ more, ps' = ps ++ more) → (ps'.toList = ps.toList ∨ ∃ c, ps'.toList = ps.toList ++ [rawInt pos.line, rawInt pos.col, c]) → TriplesOk ps'.toList →
      wpAny (model X.prog X.w) X.A (builtinsFor X.env.globals X.env.builtins) (fun bi s₄ =>
        ∀ h', h'.Ns s₄.heap.objs.size (fun y => if y = ".0" then some (.ref it) else none) → Heap.SameBut s₄.heap.objs.size (s₄.heap.push { cls := .type "frame", data := .dict #[] }) h' →
          Q' (.ref h'.objs.size) { s₄ with
            gens := s₄.gens.push (.fresh (.compStart (.GeneratorExp elt [⟨tg, iter, ifs, 0⟩] scope pos) 0 (.ref it) .none (genEnv scope (cloFrom X.env.cells scope.names []) s₄.heap.objs.size code bi X.env))),
            toks := s₄.toks + 1 + 1 + 1,
            heap := h'.push { cls := .type "generator", data := .fields #[.int s₄.gens.size 0, .str "<genexpr>" (s₄.toks + 1), .str (X.env.qual ++ "<genexpr>") (s₄.toks + 1 + 1)] } }) X.xe { s2 with heap := h3, toks := tk } := by
    intro code h3 tk ps' hx hsz hP3 hmore hm2 ht3
    obtain ⟨more, em⟩ := hmore
    obtain ⟨bm, ob, e1, e2, e3, e4, e5, e6, e7, e8⟩ := TB.bm
    refine wpAny_builtinsFor (m := X.mg) (by rw [I2.ok.glob]; exact (I2.mod.glob.keeps I2.bk).extBut hx TB.gP) e1 e2 (hx _ _ e4 (I2.bk _ _ e5)) e6 e7 e8 ?_
    intro h' hn' hs'
    have I4 : Inv X pins σ (upd H1 P (.tbl (ps ++ more))) { s2 with heap := h3, toks := tk } := by
      have J4 := GxR.inv_tab (more := more) (h' := h3) (g' := s2.gens) (d' := s2.drawn) (t' := tk) I2 hP (fun b u hb e => hx b u hb e) (by rw [← em]; exact hP3) I2.bare
      exact J4
    have tab : GTab P pos H1 (upd H1 P (.tbl (ps ++ more))) := ⟨fun b hb => upd_ne hb, ps, ps ++ more, hP, upd_same, by rw [← em]; exact ht3, by rw [← em]; exact hm2⟩
    have hsz' : h'.objs.size = h3.objs.size + 1 := by rw [hs'.1, Heap.size_push]
    have kp1 : ∀ b o, h3.get? b = some o → h'.get? b = some o := fun b o e => hs'.extBut b o (Nat.ne_of_lt (Heap.lt_size e)) (Heap.get?_push_of_some _ e)
    generalize hgo : ({ cls := .type "generator", data := .fields #[.int s2.gens.size 0, .str "<genexpr>" (tk + 1), .str (X.env.qual ++ "<genexpr>") (tk + 1 + 1)] } : Obj) = go
    have hgd : go.data = .fields #[.int s2.gens.size 0, .str "<genexpr>" (tk + 1), .str (X.env.qual ++ "<genexpr>") (tk + 1 + 1)] := by rw [← hgo]
    have hgf : ∀ h : Heap, (h.push go).get? h.objs.size = some go := fun h => Heap.get?_push_size _ (by rw [← hgo]; rfl)
    refine hQ J _ it _ s2.gens.size fp tn code go { s2 with heap := h3, toks := tk } _ (q _ tab) ⟨?_, I4, T, ?_, fun b hb => ?_, ?_, ?_, rfl, ?_, ?_, hgf _, fun h e => ?_, fun v e => ?_, Array.getElem?_push_size ..⟩
    · exact I4.call' (ch := []) rfl (Un.kept fun b o e => Heap.get?_push_of_some _ (kp1 b o e)) (I4.hok.kept fun b o e => Heap.get?_push_of_some _ (kp1 b o e)) (AllBare.push I2.bare rfl) fun b z => by simp at z
    · exact T.keep _ _ _ st2 fun b hb o e => Heap.get?_push_of_some _ (kp1 b o (hx b o (fpP b hb) e))
    · obtain ⟨f3, f4⟩ := f2 b hb
      refine ⟨⟨by rw [upd_ne (fpP b hb)]; exact f3, f4⟩, ?_⟩
      obtain ⟨o, e, _⟩ := T.obj _ _ st2 b hb
      exact Nat.lt_of_lt_of_le (Heap.lt_size e) hsz
    · exact hn'.push _
    · exact fun b o e => Heap.get?_push_of_some _ (kp1 b o e)
    · show h3.objs.size < h'.objs.size
      omega
    · show h'.objs.size < (h'.push go).objs.size
      rw [Heap.size_push]; exact Nat.lt_succ_self _
    · exact ⟨go, _, _, e, by rw [← hgo], hgd, by rw [← hgo]⟩
    · rw [hgd] at e; cases e
  refine ⟨I2.nolimit, ?_⟩
  cases hf : codeAmong pos ps.toList with
  | none =>
    refine wpAny_genexprCodeX hcode (cd.code hPs ht) (cd.tab hPs) hf fun c' h' tk hx hge hlt hco' _ htab' _ => ?_
    obtain ⟨o1, vs, f1, tf, fl, tg', inF, tx, tt, op, _, _, _, _, _, _, _, _, _, htr, _⟩ := hco'
    exact cont _ h' tk _ hx (Nat.le_trans hge (Nat.le_of_lt hlt)) htab'.2 ⟨_, rfl⟩ (.inr ⟨.ref c', by simp⟩) htr
  | some cv =>
    refine wpAny_genexprCode_hit hcode (cd.code hPs ht) hf ?_
    exact cont cv s2.heap s2.toks ps (Heap.ExtBut.refl _ _) (Nat.le_refl _) hPs ⟨#[], by simp⟩ (.inl rfl) ht
end
end RfG
set_option maxHeartbeats 2000000
/-! Rg3: any, all, sum of a generator expression. -/
namespace RfG
open PySem PySem.Spec PyProof.Rows L2 GenW

def GReady (P : Program) (w : World) (Aw : Around) (R : GenEnd) (Yp : Protocol) (a : Addr) (g n : Nat) (s : Shared) : Prop :=
  s.heap.IsGen a g ∧ s.heap.NoLimit ∧ ∃ gs, s.gens[g]? = some gs ∧ gs.Goes (model P w) Aw R Yp n (.send .none) (s.setGen g .running)

section
variable {Y : Cx} {A : Around} {E : Value → Shared → Prop} {Sl : List Addr} {T : Nat} {Stop : Hp → Prop} {Item : Nat → V → Hp → Prop → Prop} {a : Addr} {g : Nat}
theorem gx_next (hh : A.handled = none) (hd : A.depth < recursionLimit) (hY : ∀ σ H s, Inv Y [] σ H s → s.heap.IsGen a g) (haS : a ∉ Sl) (hcS : cStatics ∉ Sl) {n : Nat} {s : Shared} {Q : Option Value → Shared → Prop}
    (h : GReady Y.prog Y.w A.in1 (RG Y Sl Stop) (YG Y Sl T Item) a g n s)
    (hstop : ∀ σ H s₁, Inv Y [] σ H s₁ → Stop H → n = 0 → KeepSl Sl s s₁ → ∀ s', SleptG [] s₁ s' → Q none s')
    (hitem : ∀ σ y H N v s₁, Inv Y [] σ H s₁ → RelV y v → Item (T - (n - 1 + 1)) y H N → KeepSl Sl s s₁ → ∀ s', s'.heap = s₁.heap → SleptG [] s₁ s' →
      (N → ∀ s'', SleptG Sl s₁ s'' → s''.gens = s'.gens → ∃ m, n = m + 1 ∧ GReady Y.prog Y.w A.in1 (RG Y Sl Stop) (YG Y Sl T Item) a g m s'') → Q (some v) s') :
    wpAny (model Y.prog Y.w) A (pyNext (.ref a)) Q E s := by
  obtain ⟨hg, hl, gs, hgs, hgo⟩ := h
  have hgl : g < s.gens.size := (Array.getElem?_eq_some_iff.mp hgs).1
  refine wpAny_gsz (n := g + 1) hgl (wpAny_pyNext_genexpQ (P := fun n s₀ s₁ => n = 0 ∧ ∃ σ' H, Inv Y [] σ' H s₁ ∧ Stop H ∧ KeepSl Sl s₀ s₁) (Y := YG Y Sl T Item) hh hl hd hg hgs hgo (fun v s₁ gs' hb hv => ?_) (fun s₁ hp h' hk => ?_))
  · intro hsz
    obtain ⟨σ', y, H, N, I, r, it, kp, kap⟩ := hv
    have bare' : AllBare (s₁.setGen g gs').gens := allBare_setGen I.bare hb
    refine hitem σ' y H N v s₁ I r it kp _ rfl ⟨rfl, bare', fun b o _ e => e, fun b hb => by cases hb⟩ fun nx s'' z eg => ?_
    have z' : SleptG Sl s₁ (s''.setGen g .running) := ⟨z.os, allBare_setGen z.bare rfl, z.keep, z.own⟩
    have q := kap nx _ z'
    have hsz1 : g < s₁.gens.size := by
      have q : (s₁.setGen g gs').gens.size = s₁.gens.size := setGen_size _ _ _
      have hsz' : g + 1 ≤ (s₁.setGen g gs').gens.size := hsz
      omega
    cases n with
    | zero => exact q.elim
    | succ m =>
      refine ⟨m, rfl, ?_, ?_, gs', ?_, q⟩
      · obtain ⟨o, nm, qn, ho, r⟩ := hY _ _ _ I
        exact ⟨o, nm, qn, z.keep _ o haS ho, r⟩
      · obtain ⟨mc, hns, hnn⟩ := I.nolimit
        exact ⟨mc, hns.at' fun o e => z.keep _ o hcS e, hnn⟩
      · rw [eg]; exact setGen_at hsz1
  · intro hsz
    obtain ⟨n0, σ', H, I, hs, kp⟩ := hp
    exact hstop σ' H s₁ I hs n0 kp _ ⟨rfl, allBare_setGen I.bare rfl, fun b o _ e => hk b o e, fun b hb => by cases hb⟩

theorem any_drain {R : Result → Shared → Prop} (hh : A.handled = none) (hd : A.depth < recursionLimit) (hY : ∀ σ H s, Inv Y [] σ H s → s.heap.IsGen a g)
    (hstop : ∀ σ H s, Inv Y [] σ H s → Stop H → ∀ s', SleptG [] s s' → R (.ok (.ret (.bool false))) s')
    (hitem : ∀ j y H N v s σ, Inv Y [] σ H s → RelV y v → Item j y H N → ∃ k, v = .bool k ∧ if k = true then ∀ s', SleptG [] s s' → R (.ok (.ret (.bool true))) s' else N) :
    ∀ (n : Nat) (s : Shared), GReady Y.prog Y.w A.in1.in1 (RG Y [] Stop) (YG Y [] T Item) a g n s → codeAny (model Y.prog Y.w) A (.builtin "any.loop" ⟨[.ref a], []⟩) R s := by
  intro n
  induction n using Nat.strongRecOn with
  | ind n ih =>
  intro s h
  refine codeAny_builtin F.entry_any_loop ?_
  rw [Around.under_plainId F.plain_any_loop _]
  show wpAny _ A.in1 (pyNext (.ref a) >>= _) _ _ s
  refine wpAny_bind (gx_next (A := A.in1) hh hd hY (by simp) (by simp) h (fun σ H s₁ I hs _ _ s' z => ?_) (fun σ y H N v s₁ I r it _ s' eh z k => ?_))
  · exact wpAny_bind (wpAny_rule (wpAny_pure (hstop σ H s₁ I hs s' z)))
  · obtain ⟨b, rfl, hb⟩ := hitem _ y H N v s₁ σ I r it
    refine wpAny_bind (wpAny_holding (wpAny_truthy_bool ?_))
    refine wpAny_bind (wpAny_letGo ?_)
    cases b with
    | false =>
      simp only [Bool.false_eq_true, if_false] at hb ⊢
      obtain ⟨m, rfl, hg⟩ := k hb s' z rfl
      exact wpAny_pure ⟨plainId_quiet F.plain_any_loop _, ih m (Nat.lt_succ_self m) s' hg⟩
    | true =>
      simp only [if_true] at hb ⊢
      exact wpAny_bind (wpAny_rule (wpAny_pure (hb s' z)))
theorem all_drain {R : Result → Shared → Prop} (hh : A.handled = none) (hd : A.depth < recursionLimit) (hY : ∀ σ H s, Inv Y [] σ H s → s.heap.IsGen a g)
    (hstop : ∀ σ H s, Inv Y [] σ H s → Stop H → ∀ s', SleptG [] s s' → R (.ok (.ret (.bool true))) s')
    (hitem : ∀ j y H N v s σ, Inv Y [] σ H s → RelV y v → Item j y H N → ∃ k, v = .bool k ∧ if k = true then N else ∀ s', SleptG [] s s' → R (.ok (.ret (.bool false))) s') :
    ∀ (n : Nat) (s : Shared), GReady Y.prog Y.w A.in1.in1 (RG Y [] Stop) (YG Y [] T Item) a g n s → codeAny (model Y.prog Y.w) A (.builtin "all.loop" ⟨[.ref a], []⟩) R s := by
  intro n
  induction n using Nat.strongRecOn with
  | ind n ih =>
  intro s h
  refine codeAny_builtin F.entry_all_loop ?_
  rw [Around.under_plainId F.plain_all_loop _]
  show wpAny _ A.in1 (pyNext (.ref a) >>= _) _ _ s
  refine wpAny_bind (gx_next (A := A.in1) hh hd hY (by simp) (by simp) h (fun σ H s₁ I hs _ _ s' z => ?_) (fun σ y H N v s₁ I r it _ s' eh z k => ?_))
  · exact wpAny_bind (wpAny_rule (wpAny_pure (hstop σ H s₁ I hs s' z)))
  · obtain ⟨b, rfl, hb⟩ := hitem _ y H N v s₁ σ I r it
    refine wpAny_bind (wpAny_holding (wpAny_truthy_bool ?_))
    refine wpAny_bind (wpAny_letGo ?_)
    cases b with
    | true =>
      simp only [if_true] at hb ⊢
      obtain ⟨m, rfl, hg⟩ := k hb s' z rfl
      exact wpAny_pure ⟨plainId_quiet F.plain_all_loop _, ih m (Nat.lt_succ_self m) s' hg⟩
    | false =>
      simp only [Bool.false_eq_true, if_false] at hb ⊢
      exact wpAny_bind (wpAny_rule (wpAny_pure (hb s' z)))

def numV : V → Option Int
  | .int i => some i
  | .bl b => some (if b = true then 1 else 0)
  | _ => none
def preS (ns : Nat → Int) : Nat → Int
  | 0 => 0
  | j + 1 => preS ns j + ns j
theorem numV_of {y : V} {v : Value} {x : Int} (r : RelV y v) (h : numV y = some x) : NumOf x v := by
  cases y with
  | int i => cases h; obtain ⟨t, rfl⟩ := r; exact .inl ⟨t, rfl⟩
  | bl b => cases h; obtain rfl : v = .bool b := r; exact .inr ⟨b, rfl, rfl⟩
  | _ => cases h
theorem sum_drain {R : Result → Shared → Prop} {S : Addr} {ns : Nat → Int} (hh : A.handled = none) (hd : A.depth < recursionLimit) (hY : ∀ σ H s, Inv Y [] σ H s → s.heap.IsGen a g) (haS : a ≠ S) (hcS : cStatics ≠ S)
    (hstop : ∀ σ H s, Inv Y [] σ H s → Stop H → ∀ s' t, SleptG [] s s' → R (.ok (.ret (.int (preS ns T) t))) s')
    (hitem : ∀ j y H N, Item j y H N → numV y = some (ns j) ∧ N) :
    ∀ (n : Nat) (s : Shared) (tA : Tok) (c : Nat) (st : Int), (st = 0 ∨ st = 2) → n ≤ T → GReady Y.prog Y.w A.in1.in1 (RG Y [S] Stop) (YG Y [S] T Item) a g n s →
      s.heap.get? S = some { cls := .type "list", dict := none, data := .seq #[.int (preS ns (T - n)) tA] c, slots := #[] } →
      codeAny (model Y.prog Y.w) A (.builtin "sum.loop" ⟨[.ref a, .ref S, rawInt st, rawInt 0], []⟩) R s := by
  intro n
  induction n using Nat.strongRecOn with
  | ind n ih =>
  intro s tA c st hst2 hn h hS
  have ha1 : a ∉ [S] := by simpa using haS
  have hc1 : cStatics ∉ [S] := by simpa using hcS
  refine codeAny_builtin F.entry_sum_loop ?_
  rw [Around.under_plainId F.plain_sum_loop _]
  show wpAny _ A.in1 (seqItems? (.ref S) >>= _) _ _ s
  refine wpAny_bind (wpAny_seqItems hS rfl ?_)
  show wpAny _ A.in1 (tryCatch (pyNext (.ref a)) _ >>= _) _ _ s
  refine wpAny_bind (wpAny_tryCatch (gx_next (A := A.in1) hh hd hY ha1 hc1 h (fun σ H s₁ I hs hn0 _ s' z => ?_) (fun σ y H N v s₁ I r it kp s' eh z k => ?_)))
  · subst hn0
    exact wpAny_pure (hstop σ H s₁ I hs s' tA z)
  · obtain ⟨hv, nx⟩ := hitem _ y H N it
    have hS1 := kp S (List.mem_singleton.mpr rfl) _ hS
    have hS' : s'.heap.get? S = some { cls := .type "list", dict := none, data := .seq #[.int (preS ns (T - n)) tA] c, slots := #[] } := by rw [eh]; exact hS1
    obtain ⟨m, rfl, _⟩ := k nx s' ⟨z.os, z.bare, fun b o _ e => z.keep b o (by simp) e, fun b hb => by rw [List.mem_singleton.mp hb]; exact ⟨_, hS', fun v q => by cases q⟩⟩ rfl
    have ej : T - (m + 1 - 1 + 1) = T - (m + 1) := by omega
    rw [ej] at hv
    have ep : preS ns (T - m) = preS ns (T - (m + 1)) + ns (T - (m + 1)) := by
      have : T - m = (T - (m + 1)) + 1 := by omega
      rw [this]; rfl
    -- behind the writing of the sum
    have go : ∀ (s'' : Shared) (t'' : Tok) (c'' : Nat) (st' : Int), (st' = 0 ∨ st' = 2) → s''.os = s'.os → s''.gens = s'.gens → (∀ b o, b ≠ S → s'.heap.get? b = some o → s''.heap.get? b = some o) →
        s''.heap.get? S = some { cls := .type "list", dict := none, data := .seq #[.int (preS ns (T - (m + 1)) + ns (T - (m + 1))) t''] c'', slots := #[] } →
        codeAny (model Y.prog Y.w) A (.builtin "sum.loop" ⟨[.ref a, .ref S, rawInt st', rawInt 0], []⟩) R s'' := fun s'' t'' c'' st' h1 h2 h3 h4 h5 => by
      obtain ⟨m', hm', hg⟩ := k nx s'' ⟨h2.trans z.os, by rw [h3]; exact z.bare, fun b o hb e => h4 b o (by simpa using hb) (z.keep b o (by simp) e), fun b hb => by rw [List.mem_singleton.mp hb]; exact ⟨_, h5, fun v q => by cases q⟩⟩ h3
      have em : m' = m := by omega
      subst em
      exact ih m' (Nat.lt_succ_self m') s'' t'' c'' st' h1 (by omega) hg (by rw [ep]; exact h5)
    generalize hcur : preS ns (T - (m + 1)) = cur at hS' go
    generalize hval : ns (T - (m + 1)) = val at hv go
    have up : ∀ (f : Obj → Obj) (h9 : Heap) b o, b ≠ S → h9.get? b = some o → (h9.update S f).get? b = some o := fun f h9 b o hb e => (Heap.get?_update_other _ _ (Ne.symm hb)).trans e
    rcases numV_of r hv with ⟨t, rfl⟩ | ⟨b, rfl, hb⟩
    · rcases hst2 with rfl | rfl
      · show wpAny _ A.in1 (if (_ : Bool) = true then (mkInt (cur + val) >>= _) else _) _ _ _
        split
        · refine wpAny_bind (wpAny_mkInt ?_)
          show wpAny _ A.in1 (updateSeq S (fun _ => #[.int (cur + val) s'.toks]) >>= _) _ _ _
          refine wpAny_bind ?_
          exact wpAny_updateSeq hS' rfl (wpAny_pure ⟨plainId_quiet F.plain_sum_loop _, go _ s'.toks _ 0 (.inl rfl) rfl rfl (fun b o hb e => up _ _ b o hb e) (Heap.get?_update_self _ hS' rfl)⟩)
        · refine wpAny_bind (wpAny_rule ?_)
          refine wpAny_bind (wpAny_attempt (wpAny_holding (wpAny_add_int ?_)))
          show wpAny _ A.in1 (updateSeq S (fun _ => #[.int (cur + val) s'.toks]) >>= _) _ _ _
          refine wpAny_bind (wpAny_updateSeq hS' rfl ?_)
          have hS₂ := Heap.get?_update_self (Obj.mapSeq fun _ => #[Value.int (cur + val) s'.toks]) hS' rfl
          refine wpAny_bind (wpAny_letGo ?_)
          refine wpAny_bind (wpAny_updateSeq hS₂ rfl (wpAny_pure ⟨plainId_quiet F.plain_sum_loop _, go _ s'.toks _ 2 (.inr rfl) rfl rfl (fun b o hb e => up _ _ b o hb (up _ _ b o hb e)) (Heap.get?_update_self _ hS₂ rfl)⟩))
      · show wpAny _ A.in1 ((holding [Value.int val t] (binaryOp .Add (.int cur tA) (.int val t))).attempt >>= _) _ _ _
        refine wpAny_bind (wpAny_attempt (wpAny_holding (wpAny_add_int ?_)))
        show wpAny _ A.in1 (updateSeq S (fun _ => #[.int (cur + val) s'.toks]) >>= _) _ _ _
        refine wpAny_bind (wpAny_updateSeq hS' rfl ?_)
        have hS₂ := Heap.get?_update_self (Obj.mapSeq fun _ => #[Value.int (cur + val) s'.toks]) hS' rfl
        refine wpAny_bind (wpAny_letGo ?_)
        refine wpAny_bind (wpAny_updateSeq hS₂ rfl (wpAny_pure ⟨plainId_quiet F.plain_sum_loop _, go _ s'.toks _ 2 (.inr rfl) rfl rfl (fun b o hb e => up _ _ b o hb (up _ _ b o hb e)) (Heap.get?_update_self _ hS₂ rfl)⟩))
    · rcases hst2 with rfl | rfl
      · show wpAny _ A.in1 (if (_ : Bool) = true then (mkInt (cur + (if b = true then 1 else 0)) >>= _) else _) _ _ _
        rw [← hb]
        split
        · refine wpAny_bind (wpAny_mkInt ?_)
          show wpAny _ A.in1 (updateSeq S (fun _ => #[.int (cur + val) s'.toks]) >>= _) _ _ _
          refine wpAny_bind ?_
          exact wpAny_updateSeq hS' rfl (wpAny_pure ⟨plainId_quiet F.plain_sum_loop _, go _ s'.toks _ 0 (.inl rfl) rfl rfl (fun b o hb e => up _ _ b o hb e) (Heap.get?_update_self _ hS' rfl)⟩)
        · refine wpAny_bind (wpAny_rule ?_)
          refine wpAny_bind (wpAny_attempt (wpAny_holding (add_int_bool ?_)))
          rw [← hb]
          show wpAny _ A.in1 (updateSeq S (fun _ => #[.int (cur + val) s'.toks]) >>= _) _ _ _
          refine wpAny_bind (wpAny_updateSeq hS' rfl ?_)
          have hS₂ := Heap.get?_update_self (Obj.mapSeq fun _ => #[Value.int (cur + val) s'.toks]) hS' rfl
          refine wpAny_bind (wpAny_letGo ?_)
          refine wpAny_bind (wpAny_updateSeq hS₂ rfl (wpAny_pure ⟨plainId_quiet F.plain_sum_loop _, go _ s'.toks _ 2 (.inr rfl) rfl rfl (fun b o hb e => up _ _ b o hb (up _ _ b o hb e)) (Heap.get?_update_self _ hS₂ rfl)⟩))
      · show wpAny _ A.in1 ((holding [Value.bool b] (binaryOp .Add (.int cur tA) (.bool b))).attempt >>= _) _ _ _
        refine wpAny_bind (wpAny_attempt (wpAny_holding (add_int_bool ?_)))
        rw [← hb]
        show wpAny _ A.in1 (updateSeq S (fun _ => #[.int (cur + val) s'.toks]) >>= _) _ _ _
        refine wpAny_bind (wpAny_updateSeq hS' rfl ?_)
        have hS₂ := Heap.get?_update_self (Obj.mapSeq fun _ => #[Value.int (cur + val) s'.toks]) hS' rfl
        refine wpAny_bind (wpAny_letGo ?_)
        refine wpAny_bind (wpAny_updateSeq hS₂ rfl (wpAny_pure ⟨plainId_quiet F.plain_sum_loop _, go _ s'.toks _ 2 (.inr rfl) rfl rfl (fun b o hb e => up _ _ b o hb (up _ _ b o hb e)) (Heap.get?_update_self _ hS₂ rfl)⟩))
end
end RfG
set_option maxHeartbeats 2000000
/-! Rg4: the expressions any(..), all(..), sum(..) of a generator expression. -/
namespace RfG
open PySem PySem.Spec PyProof.Rows L2 GenW

section
variable {X : Cx} {pins : List (Addr × Obj)} {σ : L2.St} {elt tg iter : Expr} {ifs : List Expr} {scope : Scope} {own : List (Str × Nat)} {gpos : Pos} {J : It} {H2 : Hp} {it a : Addr} {g : Nat} {fp Sl : List Addr} {tn : Nat → Heap → Prop} {code : Value} {go : Obj} {s4 s5 s6 : Shared}
  {gt : TG} {tt : TT} {te : TE} {T : Nat} {Stop : Hp → Prop} {Item : Nat → V → Hp → Prop → Prop} {Aw : Around}
abbrev gxA (Aw : Around) (X : Cx) (gx : Expr) (scope : Scope) (it : Addr) (C : Addr) (code : Value) : Around := Aw.over (.compLoop gx 0 (.ref it) .none (gxEnv X scope C code)) []
abbrev gxY (Aw : Around) (X : Cx) (gx : Expr) (scope : Scope) (it a : Addr) (H2 : Hp) (fp Sl : List Addr) (code : Value) (go : Obj) (s4 : Shared) : Cx :=
  gxCx X (gxA Aw X gx scope it s4.heap.objs.size code) s4 H2 (gxEnv X scope s4.heap.objs.size code) (Sl ++ fp) [(a, go)]
theorem gx_begin (M : Made X pins σ (.GeneratorExp elt [⟨tg, iter, ifs, 0⟩] scope gpos) tg scope J H2 it a g fp tn code go s4 s5) (hN : X.N.Nodup) (ok : BlkOk X.N X.env.scope scope own) (hcell : ∀ y ∈ scope.names, y.2 ≠ .cell) (hco : scope.isCoroutine = false)
    (hfr : Aw.frames = some X.stack) (hh : Aw.handled = none) (kp : ∀ b o, s5.heap.get? b = some o → s6.heap.get? b = some o) (hS : ∀ b ∈ Sl, s5.heap.objs.size ≤ b) (slok : SlOk Sl s6) (os : s6.os = s5.os) (hg : s6.gens = s5.gens)
    (pg : PG (gxY Aw X (.GeneratorExp elt [⟨tg, iter, ifs, 0⟩] scope gpos) scope it a H2 fp Sl code go s4) tg gt) (pt : PTs (gxY Aw X (.GeneratorExp elt [⟨tg, iter, ifs, 0⟩] scope gpos) scope it a H2 fp Sl code go s4) ifs tt)
    (pe : PE (gxY Aw X (.GeneratorExp elt [⟨tg, iter, ifs, 0⟩] scope gpos) scope it a H2 fp Sl code go s4) elt te) (plan : GPlan J gt tt te (List.map (fun x : Str × Nat => x.2) own) σ T Stop Item H2) :
    GReady X.prog X.w Aw (RG (gxY Aw X (.GeneratorExp elt [⟨tg, iter, ifs, 0⟩] scope gpos) scope it a H2 fp Sl code go s4) Sl Stop) (YG (gxY Aw X (.GeneratorExp elt [⟨tg, iter, ifs, 0⟩] scope gpos) scope it a H2 fp Sl code go s4) Sl T Item) a g T s6 := by
  obtain ⟨W, ⟨m0, w0⟩, turn⟩ := plan
  have hb6 : AllBare s6.gens := by rw [hg]; exact M.i5.bare
  have kp4 : ∀ b o, s4.heap.get? b = some o → s6.heap.get? b = some o := fun b o e => kp b o (M.kp b o e)
  have sz : s4.heap.objs.size < s5.heap.objs.size := Nat.lt_trans M.la M.lb
  have aS : a ∉ Sl := fun h => absurd (Nat.lt_of_lt_of_le M.lb (hS a h)) (Nat.lt_irrefl _)
  have aF : a ∉ fp := fun h => absurd (Nat.lt_trans (M.fpo a h).2 M.la) (Nat.lt_irrefl _)
  have Sf : ∀ b ∈ Sl, b ∉ fp := fun b hb hf => absurd (Nat.lt_of_lt_of_le (Nat.lt_trans (M.fpo b hf).2 sz) (hS b hb)) (Nat.lt_irrefl _)
  have s4le : ∀ b ∈ Sl, s4.heap.objs.size ≤ b := fun b hb => Nat.le_trans (Nat.le_of_lt sz) (hS b hb)
  have H2S : ∀ b ∈ Sl, H2 b = none := fun b hb => M.i4.hok.fresh (s4le b hb)
  have hfr' : (gxA Aw X (.GeneratorExp elt [⟨tg, iter, ifs, 0⟩] scope gpos) scope it s4.heap.objs.size code).frames = some (gxEnv X scope s4.heap.objs.size code :: X.stack) := by
    show pushEnvs (Code.envs (.compLoop (.GeneratorExp elt [⟨tg, iter, ifs, 0⟩] scope gpos) 0 (.ref it) .none (gxEnv X scope s4.heap.objs.size code))) (pushEnvs (envsOf (List.map Frame.where_ [])) Aw.frames) = _
    rw [hfr] <;> rfl
  have I6 : Inv (gxY Aw X (.GeneratorExp elt [⟨tg, iter, ifs, 0⟩] scope gpos) scope it a H2 fp Sl code go s4) [] (wipe σ (own.map (·.2))) H2 s6 := by
    refine gx_start M.i4 ok hN hcell hfr' hh kp4 (M.ns.keeps kp) (os.trans M.os) hb6 (fun b hb => ?_) fun p hp => ?_
    · rcases List.mem_append.mp hb with hb | hb
      · refine ⟨M.i4.fpOk (s4le b hb) (H2S b hb), fun z => ?_⟩
        have := hS b hb
        rw [z] at this
        exact absurd (Nat.lt_of_lt_of_le sz this) (Nat.lt_irrefl _)
      · exact ⟨(M.fpo b hb).1, Nat.ne_of_lt (M.fpo b hb).2⟩
    · rw [List.mem_singleton.mp hp]
      have f := M.i4.fpOk (Nat.le_of_lt M.la) (M.i4.hok.fresh (Nat.le_of_lt M.la))
      refine ⟨kp _ _ M.ga, f.1, Nat.ne_of_gt M.la, fun z => ?_, M.gc⟩
      rcases List.mem_cons.mp (M.i4.stkSub a z) with z | z
      · exact f.2.1 z
      · exact f.2.2.1 z
  have I6' : Inv (gxY Aw X (.GeneratorExp elt [⟨tg, iter, ifs, 0⟩] scope gpos) scope it a H2 fp Sl code go s4) (pinsAt Sl s6.heap) (wipe σ (own.map (·.2))) H2 s6 := by
    refine I6.pinned (fp := Sl) (fun b hb => ?_) slok
    have hx : b ∈ Sl ++ fp := List.mem_append_left _ hb
    refine ⟨H2S b hb, (I6.ok.exf b hx).1, I6.ok.exfs b hx, .inl hx, fun x c e => (I6.ok.exf b hx).2 x c e, fun p hp => ?_⟩
    rcases List.mem_append.mp hp with hp | hp
    · rw [List.mem_singleton.mp hp]
      exact fun (e : a = b) => aS (by rw [e]; exact hb)
    · cases hp
  have t6 : tn 0 s6.heap := M.tu.keep _ _ _ M.t0 fun b _ o e => kp b o e
  refine ⟨M.gg _ (kp _ _ M.ga), M.i5.nolimit.keeps kp, .fresh (.compStart (.GeneratorExp elt [⟨tg, iter, ifs, 0⟩] scope gpos) 0 (.ref it) .none (gxEnv X scope s4.heap.objs.size code)), by rw [hg]; exact M.gs, rfl, ?_⟩
  have I7 : Inv (gxY Aw X (.GeneratorExp elt [⟨tg, iter, ifs, 0⟩] scope gpos) scope it a H2 fp Sl code go s4) (pinsAt Sl (s6.setGen g .running).heap) (wipe σ (own.map (·.2))) H2 (s6.setGen g .running) :=
    I6'.call' (ch := []) rfl (Un.kept fun b o e => e) (I6'.hok.kept fun b o e => e) (allBare_setGen hb6 rfl) fun b z => by simp at z
  refine seg_gxStart (Y := gxY Aw X (.GeneratorExp elt [⟨tg, iter, ifs, 0⟩] scope gpos) scope it a H2 fp Sl code go s4) M.tu (s := s6.setGen g .running) t6 ?_
  exact seg_gx (Y := gxY Aw X (.GeneratorExp elt [⟨tg, iter, ifs, 0⟩] scope gpos) scope it a H2 fp Sl code go s4) rfl rfl rfl hco (fun b hb => hb)
    (fun p hp => by rw [List.mem_singleton.mp hp]; exact fun z => (List.mem_append.mp z).elim aS aF) Sf M.tu pg pt pe turn m0 0 T (s6.setGen g .running) (s6.setGen g .running) H2 w0 I7 slok t6 (fun b hb => (M.fpo b hb).1.1) fun _ _ _ e => e
/-- back in the def -/
theorem gx_back {gx : Expr} {σ' : L2.St} {H' : Hp} {s' : Shared} (M : Made X pins σ gx tg scope J H2 it a g fp tn code go s4 s5) (hS : ∀ b ∈ Sl, s5.heap.objs.size ≤ b) (I : Inv (gxY Aw X gx scope it a H2 fp Sl code go s4) [] σ' H' s') : Inv X pins σ H' s' := by
  have sz : s4.heap.objs.size < s5.heap.objs.size := Nat.lt_trans M.la M.lb
  refine M.i4.call' (ch := Sl ++ fp) I.os I.base I.hok I.bare fun b hb => ?_
  rcases List.mem_append.mp hb with hb | hb
  · have le := Nat.le_trans (Nat.le_of_lt sz) (hS b hb)
    have f := M.i4.fpOk le (M.i4.hok.fresh le)
    exact ⟨f.2.2.2.1, f.2.1, f.2.2.2.2.1, f.2.2.2.2.2⟩
  · have f := (M.fpo b hb).1
    exact ⟨f.2.2.2.1, f.2.1, f.2.2.2.2.1, f.2.2.2.2.2⟩
theorem inv_slept {H : Hp} {s s' : Shared} (I : Inv X pins σ H s) (z : SleptG [] s s') : Inv X pins σ H s' :=
  I.call' (ch := []) z.os (Un.kept fun b o e => z.keep b o (by simp) e) (I.hok.kept fun b o e => z.keep b o (by simp) e) z.bare fun b y => by simp at y
theorem gxA_room {k : Nat} {A : Around} {gx : Expr} {C : Addr} (r : Room (k + 1) A) (hw : gxA A.in1.in1 X gx scope it C code = gxA A.in1.in1 X gx scope it C code := rfl)
    (e : ∃ e t i f s p, gx = .GeneratorExp e [⟨t, i, f, 0⟩] s p) : Room k (gxA A.in1.in1 X gx scope it C code) := by
  obtain ⟨e, t, i, f, sc, p, rfl⟩ := e
  refine ⟨r.hd, ?_, ?_⟩
  · have := r.dp
    show A.depth + 1 + 3 * k + 5 < _
    omega
  · have := r.un
    show A.units + 1 + 1 + 3 + 16 * k + 200 < _
    omega
end

section
variable {X : Cx} {elt tg iter : Expr} {ifs : List Expr} {scope : Scope} {own : List (Str × Nat)} {gpos p pos : Pos} {gt : TG} {tt : TT} {te : TE} {wi : TI} {c P : Addr} {k : Nat}
def tAnyG (P : Addr) (gpos : Pos) (wi : TI) (g : TG) (tt : TT) (te : TE) (vs : List Nat) : TE := fun σ H Q => wi σ H fun J H1 => GxR.TabG H1 P ∧ ∀ H2, GTab P gpos H1 H2 → ∃ T, GPlan J g tt te vs σ T (fun H => Q (.bl false) H) (fun _ y H N => ∃ k, y = .bl k ∧ if k = true then Q (.bl true) H else N) H2
def tAllG (P : Addr) (gpos : Pos) (wi : TI) (g : TG) (tt : TT) (te : TE) (vs : List Nat) : TE := fun σ H Q => wi σ H fun J H1 => GxR.TabG H1 P ∧ ∀ H2, GTab P gpos H1 H2 → ∃ T, GPlan J g tt te vs σ T (fun H => Q (.bl true) H) (fun _ y H N => ∃ k, y = .bl k ∧ if k = true then N else Q (.bl false) H) H2
def tSumG (P : Addr) (gpos : Pos) (wi : TI) (g : TG) (tt : TT) (te : TE) (vs : List Nat) : TE := fun σ H Q => wi σ H fun J H1 => GxR.TabG H1 P ∧ ∀ H2, GTab P gpos H1 H2 → ∃ T ns, GPlan J g tt te vs σ T (fun H => Q (.int (preS ns T)) H) (fun j y H N => numV y = some (ns j) ∧ N) H2
/-- what a generator expression needs of its def -/
structure GxOk (X : Cx) (scope : Scope) (own : List (Str × Nat)) (c P : Addr) : Prop where
  tb : GxR.TabB X.base X.mg c P
  code : X.env.code = .ref c
  co : scope.isCoroutine = false
  cell : ∀ y ∈ scope.names, y.2 ≠ .cell
  dot : scope.names.lookup (".0" : Str) = some NameKind.local
  ok : BlkOk X.N X.env.scope scope own
  nd : X.N.Nodup
theorem pe_anyG (hr : Room (k + 1) X.A) (hg : Gl X "any") (hm : X.mg "any" = none) (G : GxOk X scope own c P) (hi : PI X tg iter wi)
    (pg : ∀ A s H C code ex pn, Room k A → PG (gxCx X A s H (gxEnv X scope C code) ex pn) tg gt) (pt : ∀ A s H C code ex pn, Room k A → PTs (gxCx X A s H (gxEnv X scope C code) ex pn) ifs tt) (pe : ∀ A s H C code ex pn, Room k A → PE (gxCx X A s H (gxEnv X scope C code) ex pn) elt te)
    (hs : ∀ v, genFold iter X.env v = pure v)
    (he : starEach [.GeneratorExp elt [⟨tg, iter, ifs, 0⟩] scope gpos] X.env = (false, eval (.GeneratorExp elt [⟨tg, iter, ifs, 0⟩] scope gpos) X.env) :: starEach [] X.env := by rfl) :
    PE X (.Call (.Name "any" p) [.GeneratorExp elt [⟨tg, iter, ifs, 0⟩] scope gpos] [] pos) (tAnyG P gpos wi gt tt te (own.map (·.2))) := by
  refine ⟨fun pins s σ H Q I h => ?_⟩
  refine wpAny_Call_Name_kw (ld_blt I hg hm boot_any ?_)
  refine PyProof.Rows.callWith_builtin1 ?_ he (by rfl)
  rw [he]
  show wpAny _ _ (spliced ((false, eval (.GeneratorExp elt [⟨tg, iter, ifs, 0⟩] scope gpos) X.env) :: backTo pos (starEach [] X.env))) _ _ s
  refine Calls.spliced_cons (gx_made (R := fun J H2 => ∃ T, GPlan J gt tt te (List.map (fun x : Str × Nat => x.2) own) σ T (fun H => Q (.bl false) H) (fun _ y H N => ∃ k, y = .bl k ∧ if k = true then Q (.bl true) H else N) H2) hr.depth G.tb G.code G.co G.cell G.dot G.ok hi hs I h
    fun J H2 it a g fp tn code go s4 s5 hR M => ?_)
  obtain ⟨T, plan⟩ := hR
  refine Calls.spliced_nil ?_
  have rm := gxA_room (X := X) (scope := scope) (it := it) (code := code) (C := s4.heap.objs.size) hr rfl ⟨elt, tg, iter, ifs, scope, gpos, rfl⟩
  have rd := gx_begin (Sl := []) (s6 := s5) (Aw := X.A.in1.in1) M G.nd G.ok G.cell G.co M.i5.ok.frames hr.hd (fun _ _ e => e) (fun b hb => by cases hb) (fun b hb => by cases hb) rfl rfl (pg _ _ _ _ _ _ _ rm) (pt _ _ _ _ _ _ _ rm) (pe _ _ _ _ _ _ _ rm) plan
  refine call_function_tree F.kind_any F.plain_any F.entry_any (F.args_any1 _) ?_
  unfold Builtin.«any»
  refine wpAny_bind (m := oneArg "any" _) (wpAny_pure ?_)
  refine wpAny_bind (wpAny_pyIter_gen (M.gg _ M.ga) ?_)
  refine wpAny_pure ⟨plainId_quiet F.plain_any_loop _, any_drain (Y := gxY X.A.in1.in1 X (.GeneratorExp elt [⟨tg, iter, ifs, 0⟩] scope gpos) scope it a H2 fp [] code go s4) hr.hd hr.depth (fun σ' H' s' I' => M.gg _ (I'.pin (a, go) (List.mem_append_left _ (List.mem_singleton.mpr rfl))).1)
    (fun σ' H' s' I' q s'' z => ?_) (fun j y H' N v s' σ' I' r q => ?_) T s5 rd⟩
  · exact ⟨.bl false, H', inv_slept (gx_back M (fun b hb => by cases hb) I') z, rfl, q⟩
  · obtain ⟨kk, rfl, q⟩ := q
    refine ⟨kk, r, ?_⟩
    cases kk with
    | true =>
      simp only [if_true] at q ⊢
      exact fun s'' z => ⟨.bl true, H', inv_slept (gx_back M (fun b hb => by cases hb) I') z, rfl, q⟩
    | false => exact q
theorem pe_allG (hr : Room (k + 1) X.A) (hg : Gl X "all") (hm : X.mg "all" = none) (hv : bootBuiltins "all" = some (.builtin "all")) (G : GxOk X scope own c P) (hi : PI X tg iter wi)
    (pg : ∀ A s H C code ex pn, Room k A → PG (gxCx X A s H (gxEnv X scope C code) ex pn) tg gt) (pt : ∀ A s H C code ex pn, Room k A → PTs (gxCx X A s H (gxEnv X scope C code) ex pn) ifs tt) (pe : ∀ A s H C code ex pn, Room k A → PE (gxCx X A s H (gxEnv X scope C code) ex pn) elt te)
    (hs : ∀ v, genFold iter X.env v = pure v)
    (he : starEach [.GeneratorExp elt [⟨tg, iter, ifs, 0⟩] scope gpos] X.env = (false, eval (.GeneratorExp elt [⟨tg, iter, ifs, 0⟩] scope gpos) X.env) :: starEach [] X.env := by rfl) :
    PE X (.Call (.Name "all" p) [.GeneratorExp elt [⟨tg, iter, ifs, 0⟩] scope gpos] [] pos) (tAllG P gpos wi gt tt te (own.map (·.2))) := by
  refine ⟨fun pins s σ H Q I h => ?_⟩
  refine wpAny_Call_Name_kw (ld_blt I hg hm hv ?_)
  refine PyProof.Rows.callWith_builtin1 ?_ he (by rfl)
  rw [he]
  show wpAny _ _ (spliced ((false, eval (.GeneratorExp elt [⟨tg, iter, ifs, 0⟩] scope gpos) X.env) :: backTo pos (starEach [] X.env))) _ _ s
  refine Calls.spliced_cons (gx_made (R := fun J H2 => ∃ T, GPlan J gt tt te (List.map (fun x : Str × Nat => x.2) own) σ T (fun H => Q (.bl true) H) (fun _ y H N => ∃ k, y = .bl k ∧ if k = true then N else Q (.bl false) H) H2) hr.depth G.tb G.code G.co G.cell G.dot G.ok hi hs I h
    fun J H2 it a g fp tn code go s4 s5 hR M => ?_)
  obtain ⟨T, plan⟩ := hR
  refine Calls.spliced_nil ?_
  have rm := gxA_room (X := X) (scope := scope) (it := it) (code := code) (C := s4.heap.objs.size) hr rfl ⟨elt, tg, iter, ifs, scope, gpos, rfl⟩
  have rd := gx_begin (Sl := []) (s6 := s5) (Aw := X.A.in1.in1) M G.nd G.ok G.cell G.co M.i5.ok.frames hr.hd (fun _ _ e => e) (fun b hb => by cases hb) (fun b hb => by cases hb) rfl rfl (pg _ _ _ _ _ _ _ rm) (pt _ _ _ _ _ _ _ rm) (pe _ _ _ _ _ _ _ rm) plan
  refine call_function_tree F.kind_all F.plain_all F.entry_all (F.args_all1 _) ?_
  unfold Builtin.«all»
  refine wpAny_bind (m := oneArg "all" _) (wpAny_pure ?_)
  refine wpAny_bind (wpAny_pyIter_gen (M.gg _ M.ga) ?_)
  refine wpAny_pure ⟨plainId_quiet F.plain_all_loop _, all_drain (Y := gxY X.A.in1.in1 X (.GeneratorExp elt [⟨tg, iter, ifs, 0⟩] scope gpos) scope it a H2 fp [] code go s4) hr.hd hr.depth (fun σ' H' s' I' => M.gg _ (I'.pin (a, go) (List.mem_append_left _ (List.mem_singleton.mpr rfl))).1)
    (fun σ' H' s' I' q s'' z => ?_) (fun j y H' N v s' σ' I' r q => ?_) T s5 rd⟩
  · exact ⟨.bl true, H', inv_slept (gx_back M (fun b hb => by cases hb) I') z, rfl, q⟩
  · obtain ⟨kk, rfl, q⟩ := q
    refine ⟨kk, r, ?_⟩
    cases kk with
    | false =>
      simp only [Bool.false_eq_true, if_false] at q ⊢
      exact fun s'' z => ⟨.bl false, H', inv_slept (gx_back M (fun b hb => by cases hb) I') z, rfl, q⟩
    | true => exact q
theorem pe_sumG (hr : Room (k + 1) X.A) (hg : Gl X "sum") (hm : X.mg "sum" = none) (hv : bootBuiltins "sum" = some (.builtin "sum")) (G : GxOk X scope own c P) (hi : PI X tg iter wi)
    (pg : ∀ A s H C code ex pn, Room k A → PG (gxCx X A s H (gxEnv X scope C code) ex pn) tg gt) (pt : ∀ A s H C code ex pn, Room k A → PTs (gxCx X A s H (gxEnv X scope C code) ex pn) ifs tt) (pe : ∀ A s H C code ex pn, Room k A → PE (gxCx X A s H (gxEnv X scope C code) ex pn) elt te)
    (hs : ∀ v, genFold iter X.env v = pure v)
    (he : starEach [.GeneratorExp elt [⟨tg, iter, ifs, 0⟩] scope gpos] X.env = (false, eval (.GeneratorExp elt [⟨tg, iter, ifs, 0⟩] scope gpos) X.env) :: starEach [] X.env := by rfl) :
    PE X (.Call (.Name "sum" p) [.GeneratorExp elt [⟨tg, iter, ifs, 0⟩] scope gpos] [] pos) (tSumG P gpos wi gt tt te (own.map (·.2))) := by
  refine ⟨fun pins s σ H Q I h => ?_⟩
  refine wpAny_Call_Name_kw (ld_blt I hg hm hv ?_)
  refine PyProof.Rows.callWith_builtin1 ?_ he (by rfl)
  rw [he]
  show wpAny _ _ (spliced ((false, eval (.GeneratorExp elt [⟨tg, iter, ifs, 0⟩] scope gpos) X.env) :: backTo pos (starEach [] X.env))) _ _ s
  refine Calls.spliced_cons (gx_made (R := fun J H2 => ∃ T ns, GPlan J gt tt te (List.map (fun x : Str × Nat => x.2) own) σ T (fun H => Q (.int (preS ns T)) H) (fun j y H N => numV y = some (ns j) ∧ N) H2) hr.depth G.tb G.code G.co G.cell G.dot G.ok hi hs I h
    fun J H2 it a g fp tn code go s4 s5 hR M => ?_)
  obtain ⟨T, ns, plan⟩ := hR
  refine Calls.spliced_nil ?_
  have rm := gxA_room (X := X) (scope := scope) (it := it) (code := code) (C := s4.heap.objs.size) hr rfl ⟨elt, tg, iter, ifs, scope, gpos, rfl⟩
  refine call_function_tree F.kind_sum F.plain_sum F.entry_sum (F.args_sum1 _) ?_
  unfold Builtin.«sum»
  simp only [List.length_cons, List.length_nil]
  rw [if_neg (by decide)]
  refine wpAny_bind (wpAny_of_eq (show Builtin.Builtins.bindParams "sum" ["start"] 0 { } = pure [none] from rfl) ?_)
  refine wpAny_bind (wpAny_pyIter_gen (M.gg _ M.ga) ?_)
  refine wpAny_bind (wpAny_mkInt ?_)
  refine wpAny_bind (wpAny_pure ?_)
  simp only [List.forIn_cons, List.forIn_nil]
  refine wpAny_bind (wpAny_bind (wpAny_bind (wpAny_isInstance (T := "int") (b := false) (typeIs_int _ _ _) PySem.sub_int_str ?_)))
  simp only [Bool.false_eq_true, if_false]
  refine wpAny_pure (wpAny_bind (wpAny_bind (wpAny_isInstance (T := "int") (b := false) (typeIs_int _ _ _) PySem.sub_int_bytes ?_)))
  simp only [Bool.false_eq_true, if_false]
  refine wpAny_pure (wpAny_bind (wpAny_bind (wpAny_isInstance (T := "int") (b := false) (typeIs_int _ _ _) PySem.sub_int_bytearray ?_)))
  simp only [Bool.false_eq_true, if_false]
  refine wpAny_pure (wpAny_pure ?_)
  refine wpAny_bind (wpAny_newObj_type ?_)
  have hle : ∀ b ∈ [s5.heap.objs.size], s5.heap.objs.size ≤ b := fun b hb => by rw [List.mem_singleton.mp hb]; exact Nat.le_refl _
  have hS : ({ s5 with heap := s5.heap.push { cls := .type "list", data := .seq #[.int 0 s5.toks] }, toks := s5.toks + 1 } : Shared).heap.get? s5.heap.objs.size = some { cls := .type "list", data := .seq #[.int 0 s5.toks] } := Heap.get?_push_size _ rfl
  have rd := gx_begin (Sl := [s5.heap.objs.size]) (s6 := { s5 with heap := s5.heap.push { cls := .type "list", data := .seq #[.int 0 s5.toks] }, toks := s5.toks + 1 }) (Aw := X.A.in1.in1) M G.nd G.ok G.cell G.co M.i5.ok.frames hr.hd (fun _ _ e => Heap.get?_push_of_some _ e) hle
    (fun b hb => by rw [List.mem_singleton.mp hb]; exact ⟨_, hS, fun v q => by cases q⟩) rfl rfl (pg _ _ _ _ _ _ _ rm) (pt _ _ _ _ _ _ _ rm) (pe _ _ _ _ _ _ _ rm) plan
  have hcl : cStatics < s5.heap.objs.size := let ⟨_, hn, _⟩ := M.i5.nolimit; hn.lt
  refine wpAny_pure ⟨plainId_quiet F.plain_sum_loop _, sum_drain (Y := gxY X.A.in1.in1 X (.GeneratorExp elt [⟨tg, iter, ifs, 0⟩] scope gpos) scope it a H2 fp [s5.heap.objs.size] code go s4) (ns := ns) hr.hd hr.depth (fun σ' H' s' I' => M.gg _ (I'.pin (a, go) (List.mem_append_left _ (List.mem_singleton.mpr rfl))).1)
    (Nat.ne_of_lt M.lb) (Nat.ne_of_lt hcl) (fun σ' H' s' I' q s'' t z => ?_) (fun j y H' N q => q) T _ s5.toks 0 0 (.inl rfl) (Nat.le_refl _) rd ?_⟩
  · exact ⟨.int _, H', inv_slept (gx_back M hle I') z, ⟨t, rfl⟩, q⟩
  · rw [Nat.sub_self]; exact hS
end
end RfG
set_option maxHeartbeats 1000000
/-! Rf8: generator expressions, by data. -/
namespace Rf
open PySem L2
open PyProof.Rows hiding St

theorem among_pos {pos p' : Pos} {c cv : Value} (l : List Value) (h : TriplesOk l) (hc : codeAmong p' (l ++ [rawInt pos.line, rawInt pos.col, c]) = some cv) : codeAmong p' l = some cv ∨ (p'.line = pos.line ∧ p'.col = pos.col) := by
  fun_induction TriplesOk l with
  | case1 =>
    simp only [List.nil_append, rawInt, codeAmong] at hc
    split at hc
    · rename_i q
      simp only [Bool.and_eq_true, beq_iff_eq] at q
      exact .inr ⟨by omega, by omega⟩
    · cases hc
  | case2 a t b u x rest ih =>
    simp only [List.cons_append, codeAmong] at hc ⊢
    split at hc
    · rename_i q
      rw [if_pos q]
      exact .inl hc
    · rename_i q
      rw [if_neg q]
      exact ih h hc
  | case3 l h1 h2 => exact h.elim
/-- the tables and a generator expression's place: the table is known, no lambda stands at the place -/
structure GxTab (cA : CA) (P : Addr) (gpos : Pos) : Prop where
  has : ∃ t ∈ cA.tb, t.P = P
  off : ∀ t ∈ cA.tb, t.P = P → t.at gpos = false
section
variable {K : PySem.W.Frag} {cA : CA} {Lk : Addr → Option (Obj × HO)} {φ : List Addr} {F Pr H H' : Hp} {w : W} {σ : L2.St} {P : Addr} {gpos : Pos}
theorem Rep.tabG (R : Rep K cA Lk φ F Pr w σ H) (G : GxTab cA P gpos) : GxR.TabG H P := by
  obtain ⟨t, ht, rfl⟩ := G.has
  obtain ⟨⟨ps, q, tr, _⟩, _⟩ := R.tab t ht
  exact ⟨ps, q, tr⟩
theorem Rep.gtab (R : Rep K cA Lk φ F Pr w σ H) (G : GxTab cA P gpos) (g : RfG.GTab P gpos H H') : Rep K cA Lk φ F Pr w σ H' := by
  obtain ⟨g1, ps, ps', g2, g3, g4, g5⟩ := g
  refine R.extP (fun b o e n => ?_) fun t ht => ?_
  · obtain ⟨t, ht, rfl⟩ := G.has
    rw [g1 b (n t ht)]; exact e
  · obtain ⟨⟨qs, q1, q2, q3⟩, _⟩ := R.tab t ht
    have code : ∀ c q, H c = some (LamX.CodeO c q) → H' c = some (LamX.CodeO c q) := fun c q e => by
      have hc : c ≠ P := fun z => by
        rw [z, g2] at e
        exact LamX.codeO_ne ps (Option.some.inj e).symm
      rw [g1 c hc]; exact e
    by_cases hp : t.P = P
    · have e : qs = ps := by rw [hp, g2] at q1; cases q1; rfl
      subst e
      refine ⟨ps', by rw [hp]; exact g3, g4, fun pos cv h1 h2 => ?_⟩
      have old : codeAmong pos qs.toList = some cv := by
        rcases g5 with g5 | ⟨c, g5⟩
        · rw [g5] at h2; exact h2
        · rw [g5] at h2
          rcases among_pos _ q2 h2 with z | ⟨z1, z2⟩
          · exact z
          · have := G.off t ht hp
            unfold Tb.at at this h1
            rw [z1, z2, this] at h1
            cases h1
      obtain ⟨c, e1, e2⟩ := q3 pos cv h1 old
      exact ⟨c, e1, code c _ e2⟩
    · refine ⟨qs, by rw [g1 _ hp]; exact q1, q2, fun pos cv h1 h2 => ?_⟩
      obtain ⟨c, e1, e2⟩ := q3 pos cv h1 h2
      exact ⟨c, e1, code c _ e2⟩
end

/-- any (q: true), all (q: false) -/
def quL (q : Bool) (vs : List Nat) (src : Src) (tg : TgM) (t : MT) (e : ME) : List D → W → Res Bool
  | [], w => if srcOk src w = true then .ok (!q) w else .no
  | d :: ds, w => if srcOk src w = true then (match tg d w with
    | some w1 => (match t w1 with
      | .ok c w2 => if c = true then (match e w2 with
          | .ok (.sh (.bl b)) w3 => if b = q then .ok q (wipeW vs w3) else quL q vs src tg t e ds (wipeW vs w3)
          | _ => .no) else quL q vs src tg t e ds (wipeW vs w2)
      | _ => .no)
    | none => .no) else .no
def cntL (q : Bool) (vs : List Nat) (src : Src) (tg : TgM) (t : MT) (e : ME) : List D → W → Nat
  | [], w => 0
  | d :: ds, w => match tg d w with
    | some w1 => (match t w1 with
      | .ok c w2 => if c = true then (match e w2 with
          | .ok (.sh (.bl b)) w3 => (if b = q then 0 else cntL q vs src tg t e ds (wipeW vs w3)) + 1
          | _ => 0) else cntL q vs src tg t e ds (wipeW vs w2)
      | _ => 0)
    | none => 0
def eQu (q : Bool) (mi : MI) (vs : List Nat) (tg : TgM) (t : MT) (e : ME) : ME := fun w => (mi w).bind fun p w1 => match quL q vs p.1 tg t e p.2 (wipeW vs w1) with
  | .ok b w2 => .ok (.sh (.bl b)) (restW vs w1 w2)
  | _ => .no
def numD : D → Option Int
  | .int i => some i
  | .bl b => some (if b = true then 1 else 0)
  | _ => none
def sumL (vs : List Nat) (src : Src) (tg : TgM) (t : MT) (e : ME) : List D → W → Res (List Int)
  | [], w => if srcOk src w = true then .ok [] w else .no
  | d :: ds, w => if srcOk src w = true then (match tg d w with
    | some w1 => (match t w1 with
      | .ok c w2 => if c = true then (match e w2 with
          | .ok (.sh y) w3 => (match numD y with
            | some n => (match sumL vs src tg t e ds (wipeW vs w3) with
              | .ok ys w4 => .ok (n :: ys) w4
              | _ => .no)
            | none => .no)
          | _ => .no) else sumL vs src tg t e ds (wipeW vs w2)
      | _ => .no)
    | none => .no) else .no
def eSumG (mi : MI) (vs : List Nat) (tg : TgM) (t : MT) (e : ME) : ME := fun w => (mi w).bind fun p w1 => match sumL vs p.1 tg t e p.2 (wipeW vs w1) with
  | .ok ys w2 => .ok (.sh (.int ys.sum)) (restW vs w1 w2)
  | _ => .no
theorem numV_of_D {K : PySem.W.Frag} {φ : List Addr} {F : Hp} {v : V} {d : D} {n : Int} (h : Sh K φ F v d) (e : numD d = some n) : RfG.numV v = some n := by
  cases d with
  | int i => cases e; rw [h.int_d]; rfl
  | bl b => cases e; rw [h.bl_d]; rfl
  | _ => cases e
theorem preS_getD : ∀ (l : List Int) (k : Nat), k ≤ l.length → RfG.preS (fun j => l.getD j 0) k = (l.take k).sum
  | l, 0, _ => by simp [RfG.preS]
  | l, k + 1, h => by
    have hk : k < l.length := by omega
    have e : l.getD k 0 = l[k] := by simp [List.getD_eq_getElem?_getD, hk]
    rw [RfG.preS, preS_getD l k (by omega), e, List.take_succ_eq_append_getElem hk, List.sum_append]
    simp
section
variable {K : PySem.W.Frag} {cA : CA} {Wd : WX} {H : Hp} {σ : L2.St} {Q : VK} {P : Addr} {gpos : Pos}
/-- the plan of any, all -/
theorem qu_plan {q : Bool} {vs us : List Nat} {src : Src} {tg : TgM} {t : MT} {e : ME} {g : TG} {ds : List D} {w1 w2 : W} {b0 : Bool} {J : It} {Lk : Addr → Option (Obj × HO)} {φ1 : List Addr} {F1 Pr1 H2 : Hp} {Item : Nat → V → Hp → Prop → Prop} {Stop : Hp → Prop}
    (gf : GFit K cA us g tg) (hu : ∀ i ∈ us, i ∈ vs) (R1 : Rep K cA Lk φ1 F1 Pr1 w1 σ H2) (it : ItR K cA Lk φ1 F1 J ds (srcInv src)) (el : quL q vs src tg t e ds (wipeW vs w1) = .ok b0 w2)
    (hstop : b0 = !q → ∀ H φ F, Le F1 F → Pf φ1 φ → Rep K cA Lk φ F Pr1 (restW vs w1 w2) σ H → Stop H)
    (hitem : ∀ j b H N, (b = q → b0 = q ∧ ∃ φ F, Le F1 F ∧ Pf φ1 φ ∧ Rep K cA Lk φ F Pr1 (restW vs w1 w2) σ H) → (b ≠ q → N) → Item j (.bl b) H N) :
    ∃ T, RfG.GPlan J g (tMT K cA (fun _ _ _ _ => False) t) (tM K cA (fun _ _ _ _ => False) e) vs σ T Stop Item H2 := by
  refine ⟨cntL q vs src tg t e ds (wipeW vs w1), fun i r m H => ∃ φ F w, Le F1 F ∧ Pf φ1 φ ∧ Rep K cA Lk φ F Pr1 w (wipe σ vs) H ∧ m = ds.length - i ∧ i ≤ ds.length ∧ quL q vs src tg t e (ds.drop i) w = .ok b0 w2 ∧ r = cntL q vs src tg t e (ds.drop i) w,
    ⟨ds.length, φ1, F1, _, Le.refl _, Pf.refl _, R1.wipe, by simp, Nat.zero_le _, el, rfl⟩, ?_⟩
  rintro i r m H ⟨φ, F, w, l, pf, R, rfl, hi, hl, hr⟩
  by_cases hlt : i < ds.length
  · have hd : ds.drop i = ds[i] :: ds.drop (i + 1) := List.drop_eq_getElem_cons hlt
    rw [hd] at hl hr
    rw [quL] at hl
    rw [cntL] at hr
    by_cases hs : srcOk src w = true
    case neg => rw [if_neg hs] at hl; cases hl
    rw [if_pos hs] at hl
    have iv := srcOk_iff.mp hs
    refine .inr ⟨it.go i l pf R iv hlt, fun r' H' => ∃ φ F w, Le F1 F ∧ Pf φ1 φ ∧ Rep K cA Lk φ F Pr1 w (wipe σ vs) H' ∧ quL q vs src tg t e (ds.drop (i + 1)) w = .ok b0 w2 ∧ r' = cntL q vs src tg t e (ds.drop (i + 1)) w, fun r' H' z => ?_, fun x H' y => ?_⟩
    · obtain ⟨φ', F', w', q1, q2, q3, q4, q5⟩ := z
      exact ⟨ds.length - (i + 1), by omega, φ', F', w', q1, q2, q3, rfl, hlt, q4, q5⟩
    · obtain ⟨F2, l2, R3, s2⟩ := it.yld i x H' ds[i] l pf R iv (List.getElem?_eq_getElem hlt) y
      cases e2 : tg ds[i] w with
      | none => rw [e2] at hl; cases hl
      | some w3 =>
        rw [e2] at hl hr
        refine gf Lk φ F2 _ w w3 (wipe σ vs) H' x ds[i] _ R3 s2 e2 fun σ2 hw2 R4 => ?_
        have hw : wipe σ2 vs = wipe σ vs := by rw [hw2 vs hu, wipe_wipe]
        refine ⟨hw, ⟨Lk, φ, F2, _, w3, R4, ?_⟩⟩
        simp only at hl hr
        cases e3 : t w3 with
        | no => rw [e3] at hl; cases hl
        | ex x w4 => rw [e3] at hl; cases hl
        | ok c w4 =>
          rw [e3] at hl hr
          intro H3 φ3 F3 Pr3 l3 p3 lp3 R5
          simp only at hl hr
          cases c with
          | false =>
            simp only [Bool.false_eq_true, if_false] at hl hr ⊢
            exact ⟨φ3, F3, _, (l.trans l2).trans l3, pf.trans p3, (R5.weak lp3).rewipe hw, hl, hr⟩
          | true =>
            simp only [if_true] at hl hr ⊢
            refine ⟨Lk, φ3, F3, _, w4, R5.weak lp3, ?_⟩
            cases e4 : e w4 with
            | no => rw [e4] at hl; cases hl
            | ex x w5 => rw [e4] at hl; cases hl
            | ok rr w5 =>
              rw [e4] at hl hr
              cases rr with
              | own d => cases hl
              | bor d => cases hl
              | sh yd =>
                cases yd with
                | bl b =>
                  simp only at hl hr
                  intro yv H4 φ4 F4 Pr4 l4 p4 lp4 R6 rv
                  have R7 := R6.weak lp4
                  have hyv : yv = .bl b := Sh.bl_d rv
                  subst hyv
                  refine ⟨_, hr, hitem _ b H4 _ (fun hb => ?_) fun hb => ?_⟩
                  · rw [if_pos hb] at hl
                    cases hl
                    exact ⟨rfl, φ4, F4, (l.trans l2).trans (l3.trans l4), pf.trans (p3.trans p4), R1.unwipe ((l.trans l2).trans (l3.trans l4)) (pf.trans (p3.trans p4)) (R7.rewipe hw)⟩
                  · rw [if_neg hb] at hl
                    rw [if_neg hb]
                    exact ⟨φ4, F4, _, (l.trans l2).trans (l3.trans l4), pf.trans (p3.trans p4), R7.rewipe hw, hl, rfl⟩
                | _ => cases hl
  · have ei : i = ds.length := by omega
    subst ei
    rw [List.drop_length] at hl hr
    rw [quL] at hl
    rw [cntL] at hr
    by_cases hs : srcOk src w = true
    case neg => rw [if_neg hs] at hl; cases hl
    rw [if_pos hs] at hl
    cases hl
    exact .inl ⟨it.stop l pf R (srcOk_iff.mp hs), hr, hstop rfl H φ F l pf (R1.unwipe l pf R)⟩
theorem any_at {mi : MI} {vs us : List Nat} {tg : TgM} {t : MT} {e : ME} {g : TG} {wi : TI} {Lk : Addr → Option (Obj × HO)} {φ0 : List Addr} {F0 Pr : Hp} {w0 : W} (gf : GFit K cA us g tg) (hu : ∀ i ∈ us, i ∈ vs) (G : GxTab cA P gpos) (hw : WiAt K cA Wd wi Lk φ0 F0 Pr σ H (mi w0)) (h : MP K cA Wd Lk φ0 F0 Pr σ Q (eQu true mi vs tg t e w0)) :
    RfG.tAnyG P gpos wi g (tMT K cA (fun _ _ _ _ => False) t) (tM K cA (fun _ _ _ _ => False) e) vs σ H Q := by
  unfold eQu at h
  refine hw _ ?_
  cases em : mi w0 with
  | no => rw [em] at h; exact h
  | ex x w1 => rw [em] at h; exact h
  | ok p w1 =>
    rw [em] at h
    obtain ⟨src, ds⟩ := p
    intro J H1 φ1 F1 Pr1 l1 p1 lp1 R1 it
    refine ⟨R1.tabG G, fun H2 gt => ?_⟩
    have R2 := R1.gtab G gt
    have h := MP.step l1 p1 lp1 h
    simp only [Res.bind] at h
    cases el : quL true vs src tg t e ds (wipeW vs w1) with
    | no => rw [el] at h; exact h.elim
    | ex x w2 => rw [el] at h; exact h.elim
    | ok b0 w2 =>
      rw [el] at h
      refine qu_plan gf hu R2 it el (fun hb H φ F l pf R => ?_) fun j b H N h1 h2 => ⟨b, rfl, ?_⟩
      · rw [hb] at h
        exact h _ H φ F Pr1 l pf (Le.refl _) R (.bl _)
      · cases b with
        | true =>
          obtain ⟨hb, φ, F, l, pf, R⟩ := h1 rfl
          rw [hb] at h
          exact h _ H φ F Pr1 l pf (Le.refl _) R (.bl _)
        | false => exact h2 (by simp)
theorem all_at {mi : MI} {vs us : List Nat} {tg : TgM} {t : MT} {e : ME} {g : TG} {wi : TI} {Lk : Addr → Option (Obj × HO)} {φ0 : List Addr} {F0 Pr : Hp} {w0 : W} (gf : GFit K cA us g tg) (hu : ∀ i ∈ us, i ∈ vs) (G : GxTab cA P gpos) (hw : WiAt K cA Wd wi Lk φ0 F0 Pr σ H (mi w0)) (h : MP K cA Wd Lk φ0 F0 Pr σ Q (eQu false mi vs tg t e w0)) :
    RfG.tAllG P gpos wi g (tMT K cA (fun _ _ _ _ => False) t) (tM K cA (fun _ _ _ _ => False) e) vs σ H Q := by
  unfold eQu at h
  refine hw _ ?_
  cases em : mi w0 with
  | no => rw [em] at h; exact h
  | ex x w1 => rw [em] at h; exact h
  | ok p w1 =>
    rw [em] at h
    obtain ⟨src, ds⟩ := p
    intro J H1 φ1 F1 Pr1 l1 p1 lp1 R1 it
    refine ⟨R1.tabG G, fun H2 gt => ?_⟩
    have R2 := R1.gtab G gt
    have h := MP.step l1 p1 lp1 h
    simp only [Res.bind] at h
    cases el : quL false vs src tg t e ds (wipeW vs w1) with
    | no => rw [el] at h; exact h.elim
    | ex x w2 => rw [el] at h; exact h.elim
    | ok b0 w2 =>
      rw [el] at h
      refine qu_plan gf hu R2 it el (fun hb H φ F l pf R => ?_) fun j b H N h1 h2 => ⟨b, rfl, ?_⟩
      · rw [hb] at h
        exact h _ H φ F Pr1 l pf (Le.refl _) R (.bl _)
      · cases b with
        | false =>
          obtain ⟨hb, φ, F, l, pf, R⟩ := h1 rfl
          rw [hb] at h
          exact h _ H φ F Pr1 l pf (Le.refl _) R (.bl _)
        | true => exact h2 (by simp)
theorem sumG_at {mi : MI} {vs us : List Nat} {tg : TgM} {t : MT} {e : ME} {g : TG} {wi : TI} {Lk : Addr → Option (Obj × HO)} {φ0 : List Addr} {F0 Pr : Hp} {w0 : W} (gf : GFit K cA us g tg) (hu : ∀ i ∈ us, i ∈ vs) (G : GxTab cA P gpos) (hw : WiAt K cA Wd wi Lk φ0 F0 Pr σ H (mi w0)) (h : MP K cA Wd Lk φ0 F0 Pr σ Q (eSumG mi vs tg t e w0)) :
    RfG.tSumG P gpos wi g (tMT K cA (fun _ _ _ _ => False) t) (tM K cA (fun _ _ _ _ => False) e) vs σ H Q := by
  unfold eSumG at h
  refine hw _ ?_
  cases em : mi w0 with
  | no => rw [em] at h; exact h
  | ex x w1 => rw [em] at h; exact h
  | ok p w1 =>
    rw [em] at h
    obtain ⟨src, ds⟩ := p
    intro J H1 φ1 F1 Pr1 l1 p1 lp1 R1 it
    refine ⟨R1.tabG G, fun H2 gt => ?_⟩
    have R2 := R1.gtab G gt
    have h := MP.step l1 p1 lp1 h
    simp only [Res.bind] at h
    cases el : sumL vs src tg t e ds (wipeW vs w1) with
    | no => rw [el] at h; exact h.elim
    | ex x w2 => rw [el] at h; exact h.elim
    | ok out w2 =>
    rw [el] at h
    have hsum : RfG.preS (fun j => out.getD j 0) out.length = out.sum := by rw [preS_getD out out.length (Nat.le_refl _), List.take_length]
    refine ⟨out.length, fun j => out.getD j 0, fun i r m H => ∃ φ F w ys, Le F1 F ∧ Pf φ1 φ ∧ Rep K cA Lk φ F Pr1 w (wipe σ vs) H ∧ m = ds.length - i ∧ i ≤ ds.length ∧ sumL vs src tg t e (ds.drop i) w = .ok ys w2 ∧ r = ys.length ∧ ys = out.drop (out.length - r) ∧ r ≤ out.length,
      ⟨ds.length, φ1, F1, _, out, Le.refl _, Pf.refl _, R2.wipe, by simp, Nat.zero_le _, el, rfl, by simp, Nat.le_refl _⟩, ?_⟩
    rintro i r m H ⟨φ, F, w, ys, l, pf, R, rfl, hi, hl, hr, hy, hro⟩
    by_cases hlt : i < ds.length
    · have hd : ds.drop i = ds[i] :: ds.drop (i + 1) := List.drop_eq_getElem_cons hlt
      rw [hd, sumL] at hl
      by_cases hs : srcOk src w = true
      case neg => rw [if_neg hs] at hl; cases hl
      rw [if_pos hs] at hl
      have iv := srcOk_iff.mp hs
      refine .inr ⟨it.go i l pf R iv hlt, fun r' H' => ∃ φ F w ys, Le F1 F ∧ Pf φ1 φ ∧ Rep K cA Lk φ F Pr1 w (wipe σ vs) H' ∧ sumL vs src tg t e (ds.drop (i + 1)) w = .ok ys w2 ∧ r' = ys.length ∧ ys = out.drop (out.length - r') ∧ r' ≤ out.length, fun r' H' z => ?_, fun x H' y => ?_⟩
      · obtain ⟨φ', F', w', ys', q1, q2, q3, q4, q5, q6, q7⟩ := z
        exact ⟨ds.length - (i + 1), by omega, φ', F', w', ys', q1, q2, q3, rfl, hlt, q4, q5, q6, q7⟩
      · obtain ⟨F2, l2, R3, s2⟩ := it.yld i x H' ds[i] l pf R iv (List.getElem?_eq_getElem hlt) y
        cases e2 : tg ds[i] w with
        | none => rw [e2] at hl; cases hl
        | some w3 =>
          rw [e2] at hl
          refine gf Lk φ F2 _ w w3 (wipe σ vs) H' x ds[i] _ R3 s2 e2 fun σ2 hw2 R4 => ?_
          have hw : wipe σ2 vs = wipe σ vs := by rw [hw2 vs hu, wipe_wipe]
          refine ⟨hw, ⟨Lk, φ, F2, _, w3, R4, ?_⟩⟩
          simp only at hl
          cases e3 : t w3 with
          | no => rw [e3] at hl; cases hl
          | ex x w4 => rw [e3] at hl; cases hl
          | ok c w4 =>
            rw [e3] at hl
            intro H3 φ3 F3 Pr3 l3 p3 lp3 R5
            simp only at hl
            cases c with
            | false =>
              simp only [Bool.false_eq_true, if_false] at hl ⊢
              exact ⟨φ3, F3, _, ys, (l.trans l2).trans l3, pf.trans p3, (R5.weak lp3).rewipe hw, hl, hr, hy, hro⟩
            | true =>
              simp only [if_true] at hl ⊢
              refine ⟨Lk, φ3, F3, _, w4, R5.weak lp3, ?_⟩
              cases e4 : e w4 with
              | no => rw [e4] at hl; cases hl
              | ex x w5 => rw [e4] at hl; cases hl
              | ok rr w5 =>
                rw [e4] at hl
                cases rr with
                | own d => cases hl
                | bor d => cases hl
                | sh yd =>
                  simp only at hl
                  cases e6 : numD yd with
                  | none => rw [e6] at hl; cases hl
                  | some n =>
                    rw [e6] at hl
                    simp only at hl
                    cases e5 : sumL vs src tg t e (ds.drop (i + 1)) (wipeW vs w5) with
                    | no => rw [e5] at hl; cases hl
                    | ex x w6 => rw [e5] at hl; cases hl
                    | ok ys' w6 =>
                      rw [e5] at hl
                      cases hl
                      intro yv H4 φ4 F4 Pr4 l4 p4 lp4 R6 rv
                      have R7 := R6.weak lp4
                      have hlen : r = ys'.length + 1 := by rw [hr]; simp
                      have hlt2 : out.length - r < out.length := by omega
                      have hc : out.drop (out.length - r) = out[out.length - r] :: out.drop (out.length - r + 1) := List.drop_eq_getElem_cons hlt2
                      rw [hc] at hy
                      injection hy with hy1 hy2
                      refine ⟨ys'.length, hlen, ?_, φ4, F4, _, ys', (l.trans l2).trans (l3.trans l4), pf.trans (p3.trans p4), R7.rewipe hw, e5, rfl, ?_, by omega⟩
                      · rw [numV_of_D rv e6]
                        simp [List.getD_eq_getElem?_getD, hlt2, hy1]
                      · have e9 : out.length - ys'.length = out.length - r + 1 := by omega
                        rw [e9]; exact hy2
    · have ei : i = ds.length := by omega
      subst ei
      rw [List.drop_length, sumL] at hl
      by_cases hs : srcOk src w = true
      case neg => rw [if_neg hs] at hl; cases hl
      rw [if_pos hs] at hl
      cases hl
      refine .inl ⟨it.stop l pf R (srcOk_iff.mp hs), hr, ?_⟩
      rw [hsum]
      exact h (.int _) H φ F Pr1 l pf (Le.refl _) (R2.unwipe l pf R) (.int _)
theorem rd_any {mi : MI} {vs us : List Nat} {tg : TgM} {t : MT} {e : ME} {g : TG} (gf : GFit K cA us g tg) (hu : ∀ i ∈ us, i ∈ vs) (G : GxTab cA P gpos) (h : tM K cA Wd (eQu true mi vs tg t e) σ H Q) :
    RfG.tAnyG P gpos (tMI K cA Wd mi) g (tMT K cA (fun _ _ _ _ => False) t) (tM K cA (fun _ _ _ _ => False) e) vs σ H Q := by
  obtain ⟨Lk, φ0, F0, Pr, w0, R0, h⟩ := h
  exact any_at gf hu G (wiAt_tMI R0) h
theorem rd_all {mi : MI} {vs us : List Nat} {tg : TgM} {t : MT} {e : ME} {g : TG} (gf : GFit K cA us g tg) (hu : ∀ i ∈ us, i ∈ vs) (G : GxTab cA P gpos) (h : tM K cA Wd (eQu false mi vs tg t e) σ H Q) :
    RfG.tAllG P gpos (tMI K cA Wd mi) g (tMT K cA (fun _ _ _ _ => False) t) (tM K cA (fun _ _ _ _ => False) e) vs σ H Q := by
  obtain ⟨Lk, φ0, F0, Pr, w0, R0, h⟩ := h
  exact all_at gf hu G (wiAt_tMI R0) h
theorem rd_sumG {mi : MI} {vs us : List Nat} {tg : TgM} {t : MT} {e : ME} {g : TG} (gf : GFit K cA us g tg) (hu : ∀ i ∈ us, i ∈ vs) (G : GxTab cA P gpos) (h : tM K cA Wd (eSumG mi vs tg t e) σ H Q) :
    RfG.tSumG P gpos (tMI K cA Wd mi) g (tMT K cA (fun _ _ _ _ => False) t) (tM K cA (fun _ _ _ _ => False) e) vs σ H Q := by
  obtain ⟨Lk, φ0, F0, Pr, w0, R0, h⟩ := h
  exact sumG_at gf hu G (wiAt_tMI R0) h
end
end Rf
set_option maxHeartbeats 1000000
/-! Rf9: own functions, methods, classes. -/
namespace Rf
open PySem L2
open PyProof.Rows hiding St

abbrev FM := List D → W → Res R
/-- behind a callee: the caller's slots again -/
def backW (w1 : W) : Res R → Res R
  | .ok (.sh d) w2 => .ok (.sh d) { w2 with env := w1.env }
  | .ok (.own d) w2 => .ok (.own d) { w2 with env := w1.env }
  | .ex x w2 => .ex x { w2 with env := w1.env }
  | _ => .no
def eFn (n : Nat) (f : FM) (ms : MA) : ME := fun w => (ms w).bind fun rs w1 => match shAll rs with
  | some ds => if ds.length = n then backW w1 (f ds { w1 with env := [] }) else .no
  | none => .no
def eMeth (C m : Str) (n : Nat) (f : FM) (mo : ME) (ms : MA) : ME := fun w => (mo w).bind fun r w0 => match r with
  | .sh (.obj k) => (match w0.st[k]? with
    | some (.ins C' fs) => if C' = C ∧ lookF fs m = none then ((ms w0).bind fun rs w1 => match shAll rs with
      | some ds => if ds.length + 1 = n then backW w1 (f (.obj k :: ds) { w1 with env := [] }) else .no
      | none => .no) else .no
    | _ => .no)
  | _ => .no
def eMake (C : Str) (n : Nat) (f : FM) (ms : MA) : ME := fun w => (ms w).bind fun rs w1 => match shAll rs with
  | some ds => if ds.length + 1 = n then (match backW w1 (f (.obj w1.st.length :: ds) { w1 with env := [], st := w1.st ++ [.ins C []] }) with
    | .ok (.sh .non) w2 => .ok (.sh (.obj w1.st.length)) w2
    | .ex x w2 => .ex x w2
    | _ => .no) else .no
  | none => .no
/-- a def's meaning by its body's; N: how many names -/
def fnM (N : Nat) (m : MS) : FM := fun ds w => match m { w with env := ds.map (fun d => some (.sh d)) ++ List.replicate (N - ds.length) none } with
  | .ok .nx w' => .ok (.sh .non) w'
  | .ok (.rt (.sh d)) w' => .ok (.sh d) w'
  | .ok (.rt (.own d)) w' => .ok (.own d) w'
  | .ex x w' => .ex x w'
  | _ => .no
section
variable (K : PySem.W.Frag) (cA : CA)
def SPP (Lk : Addr → Option (Obj × HO)) (φ : List Addr) (F Pr : Hp) (Q : VK) (E : XK) : Res R → Prop
  | .ok r w' => ∀ v H' φ' F' Pr2, Le F F' → Pf φ φ' → Le Pr Pr2 → Rep K cA Lk φ' F' Pr2 { w' with env := [] } [] H' → RV K φ' F' Pr Pr2 [] v r → Q v H'
  | .ex x w' => ∀ cls dx H' φ' F', Le F F' → Pf φ φ' → Rep K cA Lk φ' F' Pr { w' with env := [] } [] H' → XR cA K φ' F' H' x cls dx → E cls dx H'
  | .no => False
def SP (n : Nat) (f : FM) : Sp := fun vs H Q E => vs.length = n ∧ ∃ Lk φ F Pr w ds, w.env = [] ∧ Rep K cA Lk φ F Pr w [] H ∧ Shs K φ F vs ds ∧ SPP K cA Lk φ F Pr Q E (f ds w)
end
section
variable {K : PySem.W.Frag} {cA : CA} {Lk : Addr → Option (Obj × HO)} {φ : List Addr} {F Pr H : Hp} {w : W} {σ : L2.St} {p a : Addr} {o o' : HO} {c : D}
/-- a callee's view, and back -/
theorem Rep.env1 (R : Rep K cA Lk φ F Pr w σ H) : ∃ Pr' : Hp, Le Pr Pr' ∧ Rep K cA Lk φ F Pr' { w with env := [] } [] H ∧
    ∀ {φ' : List Addr} {F' H' Pr2 : Hp} {w' : W}, w'.env = [] → Le F F' → Pf φ φ' → Le Pr' Pr2 → Rep K cA Lk φ' F' Pr2 w' [] H' →
      ∃ Pr3, Le Pr Pr3 ∧ (∀ p o, Pr' p = none → Pr2 p = some o → Pr3 p = some o) ∧ Rep K cA Lk φ' F' Pr3 { w' with env := w.env } σ H' := by
  classical
  let own : Addr → Prop := fun a => ∃ (i : Nat) (c : D), w.env[i]? = some (some (.own c)) ∧ σ[i]? = some (some (V.ref a))
  have ownF : ∀ a, own a → ∃ o, H a = some o ∧ F a = none ∧ Pr a = none ∧ ∀ n : Nat, φ[n]? ≠ some a := fun a ⟨i, c, e1, e2⟩ => by
    obtain ⟨v, h1, a2, o, rfl, h3, h4, h5, h6, h7⟩ := R.sl i _ e1
    rw [e2] at h1; cases h1
    exact ⟨o, h3, h5, h6, h7⟩
  refine ⟨fun a => if own a then H a else Pr a, fun a o e => ?_, ⟨rfl, R.lkh, fun a o e => ⟨(R.fz a o e).1, ?_⟩, fun a o e => ?_, R.plen, R.ob, fun n a e => ⟨(R.of n a e).1, ?_⟩, R.pnd, fun i s e => by simp at e, fun i j a c c' e => by simp at e, fun P hP => ⟨(R.tab P hP).1, (R.tab P hP).2.1, ?_⟩⟩, fun {φ' F' H' Pr2 w'} he l pf lp R' => ?_⟩
  · have ho : ¬ own a := fun z => by
      obtain ⟨_, _, _, q, _⟩ := ownF a z
      rw [e] at q; cases q
    show (if own a then H a else Pr a) = _
    rw [if_neg ho]; exact e
  · show (if own a then H a else Pr a) = _
    have ho : ¬ own a := fun z => by
      obtain ⟨_, _, q, _⟩ := ownF a z
      rw [e] at q; cases q
    rw [if_neg ho]; exact (R.fz a o e).2
  · have e' : (if own a then H a else Pr a) = some o := e
    by_cases ho : own a
    · rw [if_pos ho] at e'; exact e'
    · rw [if_neg ho] at e'; exact R.pr _ _ e'
  · show (if own a then H a else Pr a) = _
    have ho : ¬ own a := fun z => by
      obtain ⟨_, _, _, _, q⟩ := ownF a z
      exact q n e
    rw [if_neg ho]; exact (R.of n a e).2
  · show (if own P.P then H P.P else Pr P.P) = _
    have ho : ¬ own P.P := fun ⟨i, c, e1, e2⟩ => by
      obtain ⟨v, h1, a2, o, rfl, h3, h4, _⟩ := R.sl i _ e1
      rw [e2] at h1; cases h1
      obtain ⟨⟨ps, q, _⟩, _⟩ := R.tab P hP
      exact h4.ntbl ps (Option.some.inj (h3.symm.trans q))
    rw [if_neg ho]; exact (R.tab P hP).2.2
  · have pr2 : ∀ a o, (if own a then H a else Pr a) = some o → Pr2 a = some o := fun a o e => lp a o e
    refine ⟨fun a => if own a then none else Pr2 a, fun a o e => ?_, fun q o e1 e2 => ?_, ⟨R.len, R'.lkh, fun a o e => ⟨(R'.fz a o e).1, ?_⟩, fun a o e => ?_, R'.plen, R'.ob, fun n a e => ⟨(R'.of n a e).1, ?_⟩, R'.pnd, fun i s e => ?_, R.inj, fun P hP => ⟨(R'.tab P hP).1, (R'.tab P hP).2.1, ?_⟩⟩⟩
    · have ho : ¬ own a := fun z => by
        obtain ⟨_, _, _, q, _⟩ := ownF a z
        rw [e] at q; cases q
      show (if own a then none else Pr2 a) = _
      rw [if_neg ho]
      exact pr2 a o (by rw [if_neg ho]; exact e)
    · have ho : ¬ own q := fun z => by
        have e1' : (if own q then H q else Pr q) = none := e1
        rw [if_pos z] at e1'
        obtain ⟨u, g, _⟩ := ownF q z
        rw [g] at e1'; cases e1'
      show (if own q then none else Pr2 q) = _
      rw [if_neg ho]; exact e2
    · show (if own a then none else Pr2 a) = none
      split
      · rfl
      · exact (R'.fz a o e).2
    · have e' : (if own a then none else Pr2 a) = some o := e
      by_cases ho : own a
      · rw [if_pos ho] at e'; cases e'
      · rw [if_neg ho] at e'; exact R'.pr a o e'
    · show (if own a then none else Pr2 a) = none
      split
      · rfl
      · exact (R'.of n a e).2
    · obtain ⟨v, h1, h2⟩ := R.sl i s e
      refine ⟨v, h1, ?_⟩
      cases s with
      | sh d => exact h2.le l pf
      | own c =>
        obtain ⟨a, o, rfl, h3, h4, h5, h6, h7⟩ := h2
        have ho : own a := ⟨i, c, e, h1⟩
        have hP : Pr2 a = some o := pr2 a o (by rw [if_pos ho]; exact h3)
        refine ⟨a, o, rfl, R'.pr a o hP, h4.le l pf, ?_, by show (if own a then none else Pr2 a) = none; rw [if_pos ho], fun n q => ?_⟩
        · cases q : F' a with
          | none => rfl
          | some u => have := (R'.fz _ _ q).2; rw [hP] at this; cases this
        · have := (R'.of n a q).2
          rw [hP] at this; cases this
    · show (if own P.P then none else Pr2 P.P) = none
      split
      · rfl
      · exact (R'.tab P hP).2.2
/-- a def's slots at its entry -/
theorem Rep.start {N : List Str} {vs : List V} {ds : List D} (R : Rep K cA Lk φ F Pr w [] H) (he : w.env = []) (s : Shs K φ F vs ds) : Rep K cA Lk φ F Pr { w with env := ds.map (fun d => some (.sh d)) ++ List.replicate (N.length - ds.length) none } (L2.start N vs) H := by
  have key : ∀ (i : Nat) u, (ds.map (fun d => some (S.sh d)) ++ List.replicate (N.length - ds.length) none)[i]? = some (some u) → ∃ d, ds[i]? = some d ∧ u = .sh d := fun i u e => by
    by_cases hi : i < ds.length
    · rw [List.getElem?_append_left (by simpa using hi), List.getElem?_map, List.getElem?_eq_getElem hi] at e
      simp at e
      exact ⟨ds[i], List.getElem?_eq_getElem hi, e.symm⟩
    · rw [List.getElem?_append_right (by simpa using hi), List.getElem?_replicate] at e
      split at e <;> cases e
  refine ⟨?_, R.lkh, R.fz, R.pr, R.plen, R.ob, R.of, R.pnd, fun i u e => ?_, fun i j a c c' e1 e2 => ?_, R.tab⟩
  · show (ds.map (fun d => some (S.sh d)) ++ List.replicate (N.length - ds.length) none).length = (vs.map some ++ List.replicate (N.length - vs.length) none).length
    simp [s.1]
  · obtain ⟨d, hd, rfl⟩ := key i u e
    obtain ⟨v, hv, sv⟩ := s.getD hd
    refine ⟨v, ?_, sv⟩
    have hi : i < vs.length := (List.getElem?_eq_some_iff.mp hv).1
    show (vs.map some ++ List.replicate (N.length - vs.length) none)[i]? = _
    rw [List.getElem?_append_left (by simpa using hi), List.getElem?_map, hv]
    rfl
  · obtain ⟨d, _, z⟩ := key i _ e1
    cases z
/-- anything new -/
theorem Rep.newAny (R : Rep K cA Lk φ F Pr w σ H) (hp : H p = none) : Rep K cA Lk φ F Pr w σ (upd H p o) := (R.pend hp).drop (R.fresh hp).2.1
end

section
variable {K : PySem.W.Frag} {cA : CA} {Wd : WX} {H : Hp} {σ : L2.St} {Q : VK} {n : Nat} {f : FM}
/-- the callee's end, as the caller has it -/
theorem spp_back {Lk : Addr → Option (Obj × HO)} {φ : List Addr} {F Pr Pr' : Hp} {w1 : W} {r : Res R}
    (l0 : Le Pr Pr') (back : ∀ {φ' : List Addr} {F' H' Pr2 : Hp} {w' : W}, w'.env = [] → Le F F' → Pf φ φ' → Le Pr' Pr2 → Rep K cA Lk φ' F' Pr2 w' [] H' →
      ∃ Pr3, Le Pr Pr3 ∧ (∀ p o, Pr' p = none → Pr2 p = some o → Pr3 p = some o) ∧ Rep K cA Lk φ' F' Pr3 { w' with env := w1.env } σ H')
    (h : MP K cA Wd Lk φ F Pr σ Q (backW w1 r)) : SPP K cA Lk φ F Pr' Q (WE Wd σ) r := by
  cases r with
  | no => exact h
  | ex x w2 =>
    intro cls dx H' φ' F' l pf R xr
    obtain ⟨Pr3, l3, _, R3⟩ := back rfl l pf (Le.refl _) R
    exact h cls dx H' φ' F' Pr3 l pf l3 R3 xr
  | ok r w2 =>
    cases r with
    | bor i => exact h.elim
    | sh d =>
      intro v H' φ' F' Pr2 l pf lp R rv
      obtain ⟨Pr3, l3, _, R3⟩ := back rfl l pf lp R
      exact h v H' φ' F' Pr3 l pf l3 R3 rv
    | own c =>
      intro v H' φ' F' Pr2 l pf lp R rv
      obtain ⟨Pr3, l3, k3, R3⟩ := back rfl l pf lp R
      obtain ⟨q, o, h1, h2, h3, h4⟩ := rv
      refine h v H' φ' F' Pr3 l pf l3 R3 ⟨q, o, h1, ?_, k3 q o h2 h3, h4⟩
      cases z : Pr q with
      | none => rfl
      | some u => rw [l0 _ _ z] at h2; cases h2
theorem rd_fn {ms : MA} (h : tM K cA Wd (eFn n f ms) σ H Q) : tCallSD (SP K cA n f) [] (WE Wd) (tMA K cA Wd ms) σ H Q := by
  obtain ⟨Lk, φ, F, Pr, w, R, h⟩ := h
  have h : MP K cA Wd Lk φ F Pr σ Q (eFn n f ms w) := h
  unfold eFn at h
  refine ⟨Lk, φ, F, Pr, w, R, ?_⟩
  cases e1 : ms w with
  | no => rw [e1] at h; exact h
  | ex x w1 => rw [e1] at h; exact h
  | ok rs w1 =>
    rw [e1] at h
    intro vs H1 φ1 F1 Pr1 l1 p1 lp1 R1 rv
    have h := MP.step l1 p1 lp1 h
    simp only [Res.bind] at h
    cases e2 : shAll rs with
    | none => rw [e2] at h; exact h.elim
    | some ds =>
      rw [e2] at h
      simp only at h
      by_cases hn : ds.length = n
      · rw [if_pos hn] at h
        have s := shs_of rv e2
        obtain ⟨Pr', l0, R0, back⟩ := R1.env1
        rw [List.append_nil]
        exact ⟨s.1.trans hn, Lk, φ1, F1, Pr', _, ds, rfl, R0, s, spp_back l0 back h⟩
      · rw [if_neg hn] at h; exact h.elim
def tMethSD (C : Addr) (m : Str) (sp : Sp) (E : L2.St → XK) (ta : TE) (t : TA) : TE := fun σ H Q => ta σ H fun x H1 => ∃ a dx fs, x = .ref a ∧ H1 a = some (.ins C dx fs) ∧ fs.lookup m = none ∧ t σ H1 fun vs H2 => sp (x :: vs) H2 Q (E σ)
def tMakeSD (C : Addr) (sp : Sp) (E : L2.St → XK) (t : TA) : TE := fun σ H Q => t σ H fun vs H1 => ∀ x dx, H1 x = none → H1 dx = none → dx ≠ x → sp (.ref x :: vs) (upd (upd H1 dx (.own x)) x (.ins C dx [])) (fun v H2 => v = .non ∧ Q (.ref x) H2) (E σ)
theorem fsR_none {φ : List Addr} {F : Hp} {f : Str} : ∀ {vfs : List (Str × V)} {fs : List (Str × D)}, FsR K φ F vfs fs → lookF fs f = none → vfs.lookup f = none
  | [], _, _, _ => rfl
  | (a, x) :: vr, [], h, _ => by have := h.1; simp at this
  | (a, x) :: vr, (b, y) :: r, h, e => by
    obtain ⟨h1, h2⟩ := h
    simp only [List.map_cons, List.cons.injEq] at h1 h2
    obtain ⟨rfl, h1⟩ := h1
    obtain ⟨s1, s2⟩ := h2.uncons
    simp only [lookF] at e
    split at e
    · cases e
    · rename_i q
      have qf : (f == a) = false := by simpa using fun z => q z.symm
      simp [List.lookup, qf, fsR_none (vfs := vr) ⟨h1, s2⟩ e]
theorem rd_meth {C m : Str} {mo : ME} {ms : MA} (h : tM K cA Wd (eMeth C m n f mo ms) σ H Q) : tMethSD (cA C) m (SP K cA n f) (WE Wd) (tM K cA Wd mo) (tMA K cA Wd ms) σ H Q := by
  obtain ⟨Lk, φ, F, Pr, w, R, h⟩ := h
  have h : MP K cA Wd Lk φ F Pr σ Q (eMeth C m n f mo ms w) := h
  unfold eMeth at h
  refine ⟨Lk, φ, F, Pr, w, R, ?_⟩
  cases e1 : mo w with
  | no => rw [e1] at h; exact h
  | ex x w1 => rw [e1] at h; exact h
  | ok r w0 =>
    rw [e1] at h
    intro v H1 φ1 F1 Pr1 l1 p1 lp1 R1 rv
    have h := MP.step l1 p1 lp1 h
    simp only [Res.bind] at h
    cases r with
    | own d => exact h.elim
    | bor d => exact h.elim
    | sh d =>
      cases d with
      | obj k =>
        simp only at h
        cases e2 : w0.st[k]? with
        | none => rw [e2] at h; exact h.elim
        | some ob =>
          rw [e2] at h
          cases ob with
          | lst xs => exact h.elim
          | dct t xs => exact h.elim
          | ins C' fs =>
            simp only at h
            by_cases hc : C' = C ∧ lookF fs m = none
            · rw [if_pos hc] at h
              obtain ⟨a, ev, ea⟩ := Sh.obj_d rv
              obtain ⟨dx, vfs, g1, g2⟩ := R1.ob k a _ ea e2
              rw [hc.1] at g1
              refine ⟨a, dx, vfs, ev, g1, fsR_none g2 hc.2, ⟨Lk, φ1, F1, Pr1, w0, R1, ?_⟩⟩
              cases e3 : ms w0 with
              | no => rw [e3] at h; exact h
              | ex x w1 => rw [e3] at h; exact h
              | ok rs w1 =>
                rw [e3] at h
                intro vs H2 φ2 F2 Pr2 l2 p2 lp2 R2 rv2
                have h := MP.step l2 p2 lp2 h
                simp only at h
                cases e4 : shAll rs with
                | none => rw [e4] at h; exact h.elim
                | some ds =>
                  rw [e4] at h
                  simp only at h
                  by_cases hn : ds.length + 1 = n
                  · rw [if_pos hn] at h
                    have s := shs_of rv2 e4
                    obtain ⟨Pr', l0, R0, back⟩ := R2.env1
                    exact ⟨by simp [s.1, hn], Lk, φ2, F2, Pr', _, .obj k :: ds, rfl, R0, .cons (by rw [ev]; exact .obj (p2 _ _ ea)) s, spp_back l0 back h⟩
                  · rw [if_neg hn] at h; exact h.elim
            · rw [if_neg hc] at h; exact h.elim
      | _ => exact h.elim
theorem rd_make {C : Str} {ms : MA} (h : tM K cA Wd (eMake C n f ms) σ H Q) : tMakeSD (cA C) (SP K cA n f) (WE Wd) (tMA K cA Wd ms) σ H Q := by
  obtain ⟨Lk, φ, F, Pr, w, R, h⟩ := h
  have h : MP K cA Wd Lk φ F Pr σ Q (eMake C n f ms w) := h
  unfold eMake at h
  refine ⟨Lk, φ, F, Pr, w, R, ?_⟩
  cases e1 : ms w with
  | no => rw [e1] at h; exact h
  | ex x w1 => rw [e1] at h; exact h
  | ok rs w1 =>
    rw [e1] at h
    intro vs H1 φ1 F1 Pr1 l1 p1 lp1 R1 rv
    have h := MP.step l1 p1 lp1 h
    simp only [Res.bind] at h
    cases e2 : shAll rs with
    | none => rw [e2] at h; exact h.elim
    | some ds =>
      rw [e2] at h
      simp only at h
      by_cases hn : ds.length + 1 = n
      case neg => rw [if_neg hn] at h; exact h.elim
      rw [if_pos hn] at h
      have s := shs_of rv e2
      intro x dx hx hdx hne
      have hx2 : upd H1 dx (.own x) x = none := by rw [upd_ne (fun z => hne z.symm)]; exact hx
      have Ra := R1.newAny (o := .own x) hdx
      have Rb := Ra.pend (o := .ins (cA C) dx []) hx2
      have px := (Ra.fresh hx2).2.1
      have Rc := Rb.boxed (ob := .ins C []) px ⟨dx, [], upd_same, rfl, .nil⟩
      obtain ⟨Pr', l0, R0, back⟩ := Rc.env1
      have pf : Pf φ1 (φ1 ++ [x]) := Pf.snoc φ1 x
      have hx3 : (φ1 ++ [x])[w1.st.length]? = some x := by rw [← R1.plen]; simp
      refine ⟨by simp [s.1, hn], Lk, φ1 ++ [x], F1, Pr', _, .obj w1.st.length :: ds, rfl, R0, .cons (.obj hx3) (s.le (Le.refl _) pf), ?_⟩
      have e0 : ({ w1 with st := w1.st ++ [.ins C []], env := [] } : W) = { w1 with env := [], st := w1.st ++ [.ins C []] } := rfl
      refine spp_back (Wd := Wd) (w1 := w1) (Q := fun v H2 => v = .non ∧ Q (.ref x) H2) l0 (fun {φ' F' H' Pr2 w'} => back) ?_
      show MP K cA Wd Lk (φ1 ++ [x]) F1 Pr1 σ _ (backW w1 (f (.obj w1.st.length :: ds) { w1 with env := [], st := w1.st ++ [.ins C []] }))
      cases e5 : backW w1 (f (.obj w1.st.length :: ds) { w1 with env := [], st := w1.st ++ [.ins C []] }) with
      | no => rw [e5] at h; exact h
      | ex y w2 => rw [e5] at h; exact MP.step (r := .ex y w2) (Q := Q) (Le.refl _) pf (Le.refl _) h
      | ok r w2 =>
        rw [e5] at h
        cases r with
        | own d => exact h.elim
        | bor d => exact h.elim
        | sh d =>
          cases d with
          | non =>
            have h := MP.step (Le.refl _) pf (Le.refl _) h
            intro v H' φ' F' Pr2 l p lp R' rv'
            exact ⟨Sh.non_d rv', h (.ref x) H' φ' F' Pr2 l p lp R' (.obj (p _ _ hx3))⟩
          | _ => exact h.elim
end

/-! ### the rules of calls -/
section
variable {X : Cx} {k : Nat} {f C : Addr} {fd : FuncData} {ps : List Str} {sp : Sp} {x m : Str} {p pos apos : Pos} {e o : Expr} {es : List Expr} {ta : TE} {t : TA} {Wd : WX}
theorem pe_fnSD {CX : CXT} (hx : ∀ σ : L2.St, PassesAt CX X σ (WE Wd σ)) (F : FnOk X.prog X.w X.K X.mg X.base CX k f fd ps sp) (hr : Room k X.A) (hg : Gl X x) (hm : X.mg x = some (.ref f)) (hk : PySem.W.keepIn X.K (.ref f) = true) (hb : Binds X.K fd ps [])
    (ha : PA X (e :: es) t) (hdb : (x == ("__debug__" : Str)) = false := by decide) (he : starEach (e :: es) X.env = (false, eval e X.env) :: starEach es X.env := by rfl) (hpl : (backTo pos (starEach es X.env)).any (·.1) = false := by rfl) :
    PE X (.Call (.Name x p) (e :: es) [] pos) (tCallSD sp [] (WE Wd) t) := pe_callSD F hr hg hm hk hb .nil hx ha hdb he hpl
theorem pe_fnSD0 {CX : CXT} (hx : ∀ σ : L2.St, PassesAt CX X σ (WE Wd σ)) (F : FnOk X.prog X.w X.K X.mg X.base CX k f fd ps sp) (hr : Room k X.A) (hg : Gl X x) (hm : X.mg x = some (.ref f)) (hk : PySem.W.keepIn X.K (.ref f) = true) (hb : Binds X.K fd ps [])
    (hdb : (x == ("__debug__" : Str)) = false := by decide) : PE X (.Call (.Name x p) [] [] pos) (tCallSD sp [] (WE Wd) tNil) := by
  refine ⟨fun pins s σ H Q I h => ?_⟩
  refine wpAny_Call_Name_kw (ld_glob I hg hm ?_ hdb)
  exact PySem.W.callWith_K0 I.kIn hk (run_fnSD (E := WE Wd) (us := []) F hr hb .nil (hx σ) I .nil h)
theorem pe_methSD {pl : Sem Bool} {CX : CXT} (hx : ∀ σ : L2.St, PassesAt CX X σ (WE Wd σ)) (he : PE X o ta) (c : Cls X.K C) (hm : Meth X.K C m f) (F : FnOk X.prog X.w X.K X.mg X.base CX k f fd ps sp) (hr : Room k X.A) (hb : Binds X.K fd ps []) (ha : PA X (e :: es) t)
    (hst : starEach (e :: es) X.env = (false, eval e X.env) :: starEach es X.env := by rfl) (hpl : (backTo pos (starEach es X.env)).any (·.1) = false := by rfl)
    (ht : eval (.Call (.Attribute o m apos) (e :: es) [] pos) X.env = (do
      let ov ← eval o X.env
      standAt apos.atName
      let (f, first) ← holding [ov] (getMethod ov m pl)
      callWith pos f first (backTo pos (starEach (e :: es) X.env)) (backToKw pos (keywordEach [] X.env))) := by rfl) :
    PE X (.Call (.Attribute o m apos) (e :: es) [] pos) (tMethSD C m sp (WE Wd) ta t) := by
  refine ⟨fun pins s σ H Q I h => ?_⟩
  refine PySem.W.methodCall_KW (pl := pl) (thn (he.run pins s σ H _ I h) fun u s1 ⟨x, H1, I1, rx, a, dx, fs, ex, ea, l, q⟩ => ?_) ht
  subst ex
  obtain rfl : u = Value.ref a := rx
  refine getmeth_ok I1 ea c hm l ?_
  refine PySem.W.callWith_K (first := [.ref a]) (h₀ := X.base) I.ok.mod.kin hm.kp (thn (ha.run pos pins s1 σ H1 _ I1 q) fun us s2 ⟨vs, H2, I2, r, q2⟩ => ⟨I2.kIn, ?_⟩) hst hpl
  exact run_fnSD (E := WE Wd) (dvs := []) (ds := []) (us := .ref a :: us) (vs := .ref a :: vs) F hr hb .nil (hx σ) I2 (.cons rfl r) (by rw [List.append_nil]; exact q2)
theorem pe_methSD0 {pl : Sem Bool} {CX : CXT} (hx : ∀ σ : L2.St, PassesAt CX X σ (WE Wd σ)) (he : PE X o ta) (c : Cls X.K C) (hm : Meth X.K C m f) (F : FnOk X.prog X.w X.K X.mg X.base CX k f fd ps sp) (hr : Room k X.A) (hb : Binds X.K fd ps [])
    (ht : eval (.Call (.Attribute o m apos) [] [] pos) X.env = (do
      let ov ← eval o X.env
      standAt apos.atName
      let (f, first) ← holding [ov] (getMethod ov m pl)
      callWith pos f first (backTo pos (starEach [] X.env)) (backToKw pos (keywordEach [] X.env))) := by rfl) :
    PE X (.Call (.Attribute o m apos) [] [] pos) (tMethSD C m sp (WE Wd) ta tNil) := by
  refine ⟨fun pins s σ H Q I h => ?_⟩
  refine PySem.W.methodCall_KW (pl := pl) (thn (he.run pins s σ H _ I h) fun u s1 ⟨x, H1, I1, rx, a, dx, fs, ex, ea, l, q⟩ => ?_) ht
  subst ex
  obtain rfl : u = Value.ref a := rx
  refine getmeth_ok I1 ea c hm l ?_
  exact PySem.W.callWith_K0 (first := [.ref a]) I1.kIn hm.kp (run_fnSD (E := WE Wd) (dvs := []) (ds := []) (us := [.ref a]) (vs := [.ref a]) F hr hb .nil (hx σ) I1 (.cons rfl .nil) q)
theorem run_makeSD {CX : CXT} {E : L2.St → XK} {pins : List (Addr × Obj)} {σ : L2.St} {H : Hp} {s : Shared} {Q : VK} {us : List Value} {vs : List V} (M : Mk X.K C f) (F : FnOk X.prog X.w X.K X.mg X.base CX k f fd ps sp) (hr : Room (k + 1) X.A) (hb : Binds X.K fd ps [])
    (hx : PassesAt CX X σ (E σ)) (I : Inv X pins σ H s) (r : Vals vs us)
    (h : ∀ x dx, H x = none → H dx = none → dx ≠ x → sp (.ref x :: vs) (upd (upd H dx (.own x)) x (.ins C dx [])) (fun v H2 => v = .non ∧ Q (.ref x) H2) (E σ)) :
    wpAny (model X.prog X.w) X.A (call (.ref C) us) (EP X pins σ Q) X.xe s := by
  have hq := h (s.heap.objs.size + 1) s.heap.objs.size (I.hok.fresh (Nat.le_succ _)) (I.hok.fresh (Nat.le_refl _)) (Nat.ne_of_lt (Nat.lt_succ_self _))
  have I2 := Inv.made (C := C) I
  have r2 : Vals (V.ref (s.heap.objs.size + 1) :: vs) (Value.ref (s.heap.objs.size + 1) :: us) := .cons rfl r
  have hl : (Value.ref (s.heap.objs.size + 1) :: us ++ []).length = ps.length := by
    have e := r2.length
    rw [F.len _ _ _ _ hq] at e
    rw [List.append_nil]
    exact e.symm
  refine wpAny_call (make_map (f := f) I.kIn M.makes M.init (beq_iff_eq.mp M.fn) (codeAny_mono (F.run _ X.stack _ _ ⟨Value.ref (s.heap.objs.size + 1) :: us, []⟩ (Value.ref (s.heap.objs.size + 1) :: us) _ _ (E σ) (hr.make C us [])
    (I2.env0.make C us []) (by have := hb _ (Value.ref (s.heap.objs.size + 1) :: us) I2.kIn hl; rwa [List.append_nil] at this) r2 hq) fun r s' hq' => ?_))
  cases r with
  | error e => exact hx pins _ _ e s' I2 hq'
  | ok fl =>
    cases fl with
    | ret u =>
      obtain ⟨v, H', I3, rv, ev, q3⟩ := I2.after hq'
      subst ev
      exact ⟨rv, ⟨V.ref (s.heap.objs.size + 1), H', I3, rfl, q3⟩⟩
    | next => exact False.elim hq'
    | brk => exact False.elim hq'
    | cont => exact False.elim hq'
theorem pe_makeSD {CX : CXT} (hx : ∀ σ : L2.St, PassesAt CX X σ (WE Wd σ)) (M : Mk X.K C f) (F : FnOk X.prog X.w X.K X.mg X.base CX k f fd ps sp) (hr : Room (k + 1) X.A) (hg : Gl X x) (hm : X.mg x = some (.ref C)) (hb : Binds X.K fd ps [])
    (ha : PA X (e :: es) t) (hdb : (x == ("__debug__" : Str)) = false := by decide) (he : starEach (e :: es) X.env = (false, eval e X.env) :: starEach es X.env := by rfl) (hpl : (backTo pos (starEach es X.env)).any (·.1) = false := by rfl) :
    PE X (.Call (.Name x p) (e :: es) [] pos) (tMakeSD C sp (WE Wd) t) := by
  refine ⟨fun pins s σ H Q I h => ?_⟩
  refine wpAny_Call_Name_kw (ld_glob I hg hm ?_ hdb)
  refine PySem.W.callWith_K (h₀ := X.base) I.ok.mod.kin M.kp (thn (ha.run pos pins s σ H _ I h) fun us s1 ⟨vs, H1, I1, r, q⟩ => ⟨I1.kIn, ?_⟩) he hpl
  exact run_makeSD (E := WE Wd) M F hr hb (hx σ) I1 r q
theorem pe_makeSD0 {CX : CXT} (hx : ∀ σ : L2.St, PassesAt CX X σ (WE Wd σ)) (M : Mk X.K C f) (F : FnOk X.prog X.w X.K X.mg X.base CX k f fd ps sp) (hr : Room (k + 1) X.A) (hg : Gl X x) (hm : X.mg x = some (.ref C)) (hb : Binds X.K fd ps [])
    (hdb : (x == ("__debug__" : Str)) = false := by decide) : PE X (.Call (.Name x p) [] [] pos) (tMakeSD C sp (WE Wd) tNil) := by
  refine ⟨fun pins s σ H Q I h => ?_⟩
  refine wpAny_Call_Name_kw (ld_glob I hg hm ?_ hdb)
  exact PySem.W.callWith_K0 I.kIn M.kp (run_makeSD (E := WE Wd) (us := []) M F hr hb (hx σ) I .nil h)
end

/-! ### a def's promise -/
theorem takes_cx {P : Program} {w : World} {K : PySem.W.Frag} {mg : Str → Option Value} {base : Heap} {N : List Str} {qual : Str} {scope : Scope} {f : Addr} {cd : Value} {A : Around} {outer : List Env} {s : Shared} {H : Hp} {E : XK} :
    Takes (cxOf (L2.CX P w) P w K mg base N qual scope f cd A outer s H E) (fun cls d _ H => E cls d H) := takes_of rfl rfl rfl rfl
theorem owns_cx {CX : CXT} {P : Program} {w : World} {K : PySem.W.Frag} {mg : Str → Option Value} {base : Heap} {N : List Str} {qual : Str} {scope : Scope} {f : Addr} {cd : Value} {A : Around} {outer : List Env} {s : Shared} {H : Hp} {E : XK} :
    PassesOwn (model P w) (cxOf CX P w K mg base N qual scope f cd A outer s H E).A (cxOf CX P w K mg base N qual scope f cd A outer s H E).env (cxOf CX P w K mg base N qual scope f cd A outer s H E).xe :=
  passes_of (X := cxOf CX P w K mg base N qual scope f cd A outer s H E) (K := fun e s'' => CX outer H s E e s'') (E₁ := fun e s'' => CX outer H s E e s'') rfl
theorem fn_promise {CX : CXT} {P : Program} {w : World} {K : PySem.W.Frag} {cA : CA} {mg : Str → Option Value} {base : Heap} {k : Nat} {f : Addr} {name qual : Str} {params : Arguments} {body : List Stmt} {scope : Scope} {dV kV doc pm cdv ct oc : Value} {an od : Option Addr}
    {osl : Array (Option Value)} {N ps : List Str} {m : MS} {n : Nat} (lk : K.lookup f = some ⟨oc, od, .func (PySem.W.fnOf name qual params body scope dV kV doc pm an cdv ct), osl⟩) (hcd : PySem.W.codeIn K cdv qual = true) (S : FnScope N ps scope) (hn : ps.length = n)
    (hbody : ∀ (A : Around) (outer : List Env) (s : Shared) (H : Hp) (E : XK), Room k (A.deeper (envOfC qual scope s.heap.objs.size f cdv)) → PSs (cxOf CX P w K mg base N qual scope f cdv A outer s H E) body (tMS K cA (fun cls d _ H => E cls d H) m)) :
    FnOk P w K mg base CX (k + 1) f (PySem.W.fnOf name qual params body scope dV kV doc pm an cdv ct) ps (SP K cA n (fnM N.length m)) := by
  refine fn_of lk hcd S (fun vs H Q E h => h.1.trans hn.symm) fun A outer s H vs Q E hr h => ⟨_, hbody A outer s H E hr, ?_⟩
  obtain ⟨_, Lk, φ, F, Pr, w0, ds, he, R, sv, h⟩ := h
  have R1 := R.start (N := N) he sv
  refine tMS_of R1 ?_
  unfold fnM at h
  cases e : m { w0 with env := ds.map (fun d => some (Rf.S.sh d)) ++ List.replicate (N.length - ds.length) none } with
  | no => rw [e] at h; exact h
  | ex x w1 =>
    rw [e] at h
    exact fun cls dx σ' H' φ' F' l pf R' xr => h cls dx H' φ' F' l pf R'.noenv xr
  | ok g w1 =>
    rw [e] at h
    cases g with
    | bk => exact h.elim
    | ct => exact h.elim
    | nx => exact fun σ' H' φ' F' l pf R' => h .non H' φ' F' Pr l pf (Le.refl _) R'.noenv .non
    | rt r =>
      cases r with
      | sh d => exact fun v σ' H' φ' F' Pr2 l pf lp R' rv => h v H' φ' F' Pr2 l pf lp R'.noenv rv
      | own d => exact fun v σ' H' φ' F' Pr2 l pf lp R' rv => h v H' φ' F' Pr2 l pf lp R'.noenv rv
      | bor i => exact h.elim
end Rf
set_option maxHeartbeats 2000000
/-! Rf10: a lambda handed to a def that tells what it raises; raise; try. -/
namespace Rf
open PySem PySem.Spec L2
open PyProof.Rows hiding St

section
variable {X : Cx} {pins : List (Addr × Obj)} {σ : L2.St} {H : Hp} {s : Shared}
/-- the lambda is made: its code object is new, or found in the table -/
theorem lam_make3 {tb : List Tb} {t : Tb} {c : Addr} {params : Arguments} {body : Expr} {scope : Scope} {pos : Pos} {E : Value → Shared → Prop} {Q : Value → Shared → Prop} (I : Inv X pins σ H s) (TB : LamX.TabB X.base X.mg c t.P) (hcode : X.env.code = .ref c)
    (hq : t.q = X.env.qual ++ "<lambda>") (hp : t.at pos = true) (hm : t ∈ tb) (hu : ∀ t' ∈ tb, t'.P = t.P → t' = t) (hT : ∀ t ∈ tb, TabL H t) (hdef : defaultsOf params X.env = ([], [])) (hfree : ∀ y ∈ scope.names, y.2 = .free → ∃ c, X.env.cells.lookup y.1 = some c)
    (h : ∀ (f c' : Addr) (pm ctv : Value) (H1 : Hp) (s' : Shared), Inv X pins σ H1 s' → ExtP tb H H1 → (∀ t ∈ tb, TabL H1 t) →
      s'.heap.get? f = some (PySem.W.kla_obj "<lambda>" (X.env.qual ++ "<lambda>") params body scope (cloFrom X.env.cells scope.names []) pm c' ctv) → H1 f = none → f ∉ frs X.stack → H1 c' = some (LamX.CodeO c' (X.env.qual ++ "<lambda>")) → Q (.ref f) s') :
    wpAny (model X.prog X.w) X.A (eval (.Lambda params body scope pos) X.env) Q E s := by
  obtain ⟨ps, hP, ht, ha⟩ := hT _ hm
  refine PySem.W.kla_eval hdef ?_
  have bP : s.heap.BuiltinsAt X.mg t.P := TB.bm.keeps I.bk
  have hP' : s.heap.get? t.P = some { cls := .none, data := .fields ps } := I.hok t.P _ hP
  have nofr : ∀ f, s.heap.objs.size ≤ f → f ∉ frs X.stack := fun f hf z => by
    rcases List.mem_cons.mp (I.stkSub _ z) with e | e
    · have h1 := I.lt
      rw [← e] at h1
      exact Nat.lt_irrefl _ (Nat.lt_of_lt_of_le h1 hf)
    · exact I.nofs hf e
  cases hc : codeAmong pos ps.toList with
  | none =>
    refine PySem.W.kla_makeFunction (mg := X.mg) (c := c) (P := t.P) (ps := ps) (closure_ok hfree) I.ok.glob (I.mod.glob.keeps I.bk) hcode (TB.code.keeps I.bk) hP' ht hc TB.gP bP fun c' ctv h' tk hx hge hlt hrec htb => ?_
    obtain ⟨c2, oc, vs, tt, e2, hoc, hd, hv⟩ := hrec
    cases e2
    have hsz : s.heap.objs.size ≤ h'.objs.size := Nat.le_trans hge (Nat.le_of_lt hlt)
    have nC : H c' = none := I.hok.fresh hge
    have I1 := LamX.inv_table (t' := tk) (more := #[rawInt pos.line, rawInt pos.col, .ref c']) (h' := h'.push (PySem.W.kla_obj "<lambda>" (X.env.qual ++ "<lambda>") params body scope (cloFrom X.env.cells scope.names []) ((X.mg "__name__").getD .none) c' ctv)) I hP
      (fun b o hb e => Heap.get?_push_of_some _ (hx b o hb e)) (Heap.get?_push_of_some _ htb) hge ⟨oc, vs, tt, Heap.get?_push_of_some _ hoc, hd, hv⟩
    have at_ : ∀ b o, H b = some o → b ≠ t.P → upd (upd H t.P (.tbl (ps ++ #[rawInt pos.line, rawInt pos.col, .ref c']))) c' (LamX.CodeO c' (X.env.qual ++ "<lambda>")) b = some o := fun b o e n => by
      rw [upd_ne (ne_of_none e nC), upd_ne n]; exact e
    have code : ∀ c q, H c = some (LamX.CodeO c q) → c ≠ t.P := fun c q e z => by
      rw [z, hP] at e
      exact LamX.codeO_ne ps (Option.some.inj e).symm
    have eL : (ps ++ #[rawInt pos.line, rawInt pos.col, .ref c']).toList = ps.toList ++ [rawInt pos.line, rawInt pos.col, .ref c'] := by simp
    refine h h'.objs.size c' ((X.mg "__name__").getD .none) ctv _ _ I1 (fun b o e n => at_ b o e (n t hm)) (fun t' ht' => ?_) (Heap.get?_push_size _ rfl) ?_ (nofr _ hsz) upd_same
    · by_cases hb : t'.P = t.P
      · have e := hu t' ht' hb
        subst e
        refine ⟨_, by rw [upd_ne (ne_of_none hP nC), upd_same], by rw [eL]; exact PySem.TriplesOk_snoc _ _ _ _ ht, fun p' cv h1 hcv => ?_⟩
        rw [eL] at hcv
        rcases LamX.among_app _ ht hcv with z | z
        · obtain ⟨c0, e1, e2⟩ := ha p' cv h1 z
          exact ⟨c0, e1, at_ _ _ e2 (code _ _ e2)⟩
        · exact ⟨c', z, by rw [hq]; exact upd_same⟩
      · obtain ⟨ps', a1, a2, a3⟩ := hT t' ht'
        refine ⟨ps', at_ _ _ a1 hb, a2, fun p' cv h1 hcv => ?_⟩
        obtain ⟨c0, e1, e2⟩ := a3 p' cv h1 hcv
        exact ⟨c0, e1, at_ _ _ e2 (code _ _ e2)⟩
    · have n1 : h'.objs.size ≠ c' := Nat.ne_of_gt hlt
      have n2 : h'.objs.size ≠ t.P := Nat.ne_of_gt (Nat.lt_of_lt_of_le (Heap.lt_size hP') hsz)
      rw [upd_ne n1, upd_ne n2]
      exact I.hok.fresh hsz
  | some cv =>
    obtain ⟨c', e, hco⟩ := ha pos cv hp hc
    subst e
    refine PySem.W.kla_makeFunctionHit (mg := X.mg) (c := c) (P := t.P) (ps := ps) (closure_ok hfree) I.ok.glob (I.mod.glob.keeps I.bk) hcode (TB.code.keeps I.bk) hP' ht hc bP fun ctv h' tk hx hsz => ?_
    have I1 : Inv X pins σ H { s with heap := h'.push (PySem.W.kla_obj "<lambda>" (X.env.qual ++ "<lambda>") params body scope (cloFrom X.env.cells scope.names []) ((X.mg "__name__").getD .none) c' ctv), toks := tk } := I.kept fun b o e => Heap.get?_push_of_some _ (hx b o e)
    exact h h'.objs.size c' ((X.mg "__name__").getD .none) ctv H _ I1 (fun _ _ e _ => e) hT (Heap.get?_push_size _ rfl) (I.hok.fresh hsz) (nofr _ hsz) (by rw [← hq]; exact hco)
end
def tLamT (tb : List Tb) (TT : (XK → Hp → VK → Prop) → Hp → VK → Prop) (t : XK → TE) : TE := fun σ H Q => (∀ t ∈ tb, TabL H t) ∧ ∀ H1, ExtP tb H H1 → (∀ t ∈ tb, TabL H1 t) → TT (fun E H' Q' => t E σ H' Q') H1 Q
/-- what a lambda asks of its def -/
structure LmOk (X : Cx) (tb : List Tb) (t : Tb) (c : Addr) (scope : Scope) (pos : Pos) : Prop where
  tbB : LamX.TabB X.base X.mg c t.P
  code : X.env.code = .ref c
  q : t.q = X.env.qual ++ "<lambda>"
  at_ : t.at pos = true
  mem : t ∈ tb
  uni : ∀ t' ∈ tb, t'.P = t.P → t' = t
  sc : LamX.LamS X.env.scope scope
section
variable {X : Cx}
/-- x(lambda: body) -/
theorem pe_lamcall2 {tb : List Tb} {tt : Tb} {TT : (XK → Hp → VK → Prop) → Hp → VK → Prop} {x a : Str} {g c : Addr} {k : Nat} {pg : Arguments} {bg : List Stmt} {sg : Scope} {dV kV doc pm cdv ct oc : Value} {an od : Option Addr} {osl : Array (Option Value)} {Ng : List Str}
    {params : Arguments} {body : Expr} {scope : Scope} {t : XK → TE} {p lpos pos : Pos} (hg : Gl X x) (hm : X.mg x = some (.ref g)) (hk : PySem.W.keepIn X.K (.ref g) = true)
    (lk : X.K.lookup g = some ⟨oc, od, .func (PySem.W.fnOf x x pg bg sg dV kV doc pm an cdv ct), osl⟩) (hcg : PySem.W.codeIn X.K cdv x = true) (hb : L2.Binds X.K (PySem.W.fnOf x x pg bg sg dV kV doc pm an cdv ct) [a] []) (Sg : FnScope Ng [a] sg) (hNg : Ng[0]? = some a) (hva : Vis sg a)
    (hG : LamX.GivesTo X Ng x sg g cdv bg a (X.env.qual ++ "<lambda>") TT) (L : LmOk X tb tt c scope lpos) (hr : Room (k + 2) X.A) (hdef : defaultsOf params X.env = ([], []))
    (hbind : ∀ (q : Str) (cl : List (Str × Addr)) (pm cv ctv : Value), bindArgs (PySem.W.kla_fn "<lambda>" q params body scope cl pm cv ctv) ⟨[], []⟩ = pure [])
    (hbody : ∀ (A : Around) (outer : List Env) (s : Shared) (H : Hp) (E : XK) (f c' : Addr), Room k (A.deeper (LamX.lamEnv X scope s.heap.objs.size f c')) → PE (LamX.lamCx X A outer s H E scope f c') body (t E))
    (hdb : (x == ("__debug__" : Str)) = false := by decide) (hd : (a == ("__debug__" : Str)) = false := by decide) (hcd : (a == ("__classdict__" : Str)) = false := by decide) :
    PE X (.Call (.Name x p) [.Lambda params body scope lpos] [] pos) (tLamT tb TT t) := by
  refine ⟨fun pins s σ H Q I h => ?_⟩
  obtain ⟨hT, h⟩ := h
  refine wpAny_Call_Name_kw (ld_glob I hg hm ?_ hdb)
  refine PySem.W.callWith_K (h₀ := X.base) I.ok.mod.kin hk ?_ (by rfl) (by rfl)
  show wpAny _ _ (spliced ((false, eval (.Lambda params body scope lpos) X.env) :: backTo pos (starEach [] X.env))) _ _ s
  refine Calls.spliced_cons (lam_make3 I L.tbB L.code L.q L.at_ L.mem L.uni hT hdef (L.sc.has I.ok) fun f c' pm' ctv H1 s' I1 eN T1 hf hfn hfr hco => ?_)
  refine Calls.spliced_nil ⟨I1.kIn, ?_⟩
  have rc : codeAny (model X.prog X.w) X.A (.call (.ref g) ⟨[.ref f], []⟩) (L2.CR C8.CX0 X.stack X.prog X.w H1 s' Q C8.E0) s' := by
    refine LamX.run_ofS (N := Ng) (ps := [a]) (us := [.ref f]) (vs := [.ref f]) lk hcg Sg hr I1.env0 (hb s' [.ref f] I1.kIn rfl) (.cons rfl .nil) rfl fun hr' => ?_
    obtain ⟨t', ht', hq'⟩ := hG f c' s' H1 Q (fun E H' Q' => t E σ H' Q') (fun W pn xe E p1 p2 tk hW => LamX.pe_act (i := 0) I1 L.sc hf hfn hfr (hbind _ _ _ _ _) tk hW hr' (fun A outer s H hr2 => hbody A outer s H E f c' hr2) hNg hva hd hcd) hco (h H1 eN T1)
    exact ⟨t', ht'.nox, hq'⟩
  refine wpAny_call (codeAny_mono rc fun r s2 hq => ?_)
  cases r with
  | error e => exact (show False from hq).elim
  | ok fl =>
    cases fl with
    | ret u => exact I1.after hq
    | next => exact False.elim hq
    | brk => exact False.elim hq
    | cont => exact False.elim hq
theorem takes_lam {A : Around} {outer : List Env} {s : Shared} {H : Hp} {E : XK} {scope : Scope} {f c' : Addr} : Takes (LamX.lamCx X A outer s H E scope f c') (fun cls d _ H => E cls d H) := takes_of rfl rfl rfl rfl
end

/-! ### several clauses that tell -/
def ManyR (K : PySem.W.Frag) : List (Addr × Str) → Value → (Str → Prop) → Prop
  | [], _, _ => False
  | (CS, ret) :: l, cls, k => ∃ b, PySem.W.exmOne K cls (.ref CS) = some b ∧ (b = true → k ret) ∧ (b = false → ManyR K l cls k)
inductive ToldHds (sg : Scope) (mg : Str → Option Value) : List ExceptHandler → List (Addr × Str) → Prop
  | nil : ToldHds sg mg [] []
  | cons {e ret : Str} {CS : Addr} {j : Nat} {p4 p5 p6 p7 : Pos} {hds : List ExceptHandler} {l : List (Addr × Str)} (hge : sg.names.lookup e = some .globalImplicit) (hme : mg e = some (.ref CS)) (hde : (e == ("__debug__" : Str)) = false) (r : ToldHds sg mg hds l) :
      ToldHds sg mg (.ExceptHandler (some (.Name e p4)) none [.Return (some (.Constant (.str ret) j p5)) p6] p7 :: hds) ((CS, ret) :: l)
def TTm (K : PySem.W.Frag) (l : List (Addr × Str)) : (XK → Hp → VK → Prop) → Hp → VK → Prop := fun tl H Q => tl (fun cls _ H' => ManyR K l cls fun r => Q (.str r) H') H Q
abbrev cls1 (l : List (Addr × Str)) : List (Value × (Addr → Value → Option Addr → TS)) := l.map fun p => (.ref p.1, fun _ _ _ => tRet (tC (.str p.2)))
theorem told_gives8 {X : Cx} {Ng : List Str} {x a q : Str} {sg : Scope} {g : Addr} {cdg : Value} {h0 : ExceptHandler} {hds : List ExceptHandler} {l : List (Addr × Str)} {p1 p2 p3 p8 : Pos} (hh : ToldHds sg X.mg (h0 :: hds) l) (hs0 : ∀ f : Addr, (L2.start Ng [V.ref f])[0]? = some (some (V.ref f))) :
    LamX.GivesTo X Ng x sg g cdg [.Try [.Return (some (.Call (.Name a p1) [] [] p2)) p3] (h0 :: hds) [] [] p8] a q (TTm X.K l) := by
  intro f c' s H Q tl act hc h
  have hdsOk : ∀ {hs : List ExceptHandler} {l : List (Addr × Str)}, ToldHds sg X.mg hs l → HdsOk (cxOf C8.CX0 X.prog X.w X.K X.mg X.base Ng x sg g cdg X.A X.stack s H C8.E0).nox hs (cls1 l) := by
    intro hs l th
    induction th with
    | nil => exact .nil
    | cons hge hme hde r ih => exact .cons ⟨hge, hde, .inl hme⟩ (fun a oe cls d pn _ _ => pss_one (ps_ret pe_str)) ih
  have many : ∀ {l : List (Addr × Str)} {cls : Value} {d : Option Addr} {σ' : L2.St} {H' : Hp}, ManyR X.K l cls (fun r => Q (.str r) H') → wMany X.K (fun _ _ _ _ => False) { nx := fun _ H' => Q .non H', rt := Q } (cls1 l) cls d σ' H' := by
    intro l cls d σ' H'
    induction l with
    | nil => exact fun h => h
    | cons p r ih =>
      rintro ⟨b, h1, h2, h3⟩
      exact ⟨b, h1, fun hb a _ => h2 hb, fun hb => ih (h3 hb)⟩
  refine ⟨_, pss_one (ps_try_many (X := (cxOf C8.CX0 X.prog X.w X.K X.mg X.base Ng x sg g cdg X.A X.stack s H C8.E0).nox)
      (tb := fun W D σ H => ∃ Ech : XK, (∀ cls d σ' H', Ech cls d H' → W cls d σ' H') ∧ σ[0]? = some (some (.ref f)) ∧ H c' = some (LamX.CodeO c' q) ∧ tl Ech H D.rt)
      rfl rfl LamX.takes0 (fun W pn xe tk _ => ?_) (hdsOk hh)), ?_⟩
  · refine ⟨fun pins s' σ H' D I h' => ?_⟩
    obtain ⟨Ech, hW, h1, h2, h3⟩ := h'
    have hp := act W pn xe Ech p1 p2 tk hW
    have hq := pss_one (ps_ret (pos := p3) hp)
    exact hq.run pins s' σ H' D I ⟨h1, h2, h3⟩
  · exact ⟨fun cls _ H' => ManyR X.K l cls fun r => Q (.str r) H', fun cls d σ' H' hm => many hm, hs0 f, hc, h⟩

def toldN : List (Str × Str) → Str → Option Str
  | [], _ => none
  | (a, r) :: l, c => if a = c then some r else toldN l c
/-- _law_told(lambda: m) -/
def eTold (l : List (Str × Str)) (m : ME) : ME := fun w => match m w with
  | .ok r w' => .ok r w'
  | .ex x w' => (match toldN l x.cls with
    | some r => .ok (.sh (.str r)) w'
    | none => .no)
  | .no => .no
/-- the exception classes stand apart -/
def ExcAp (K : PySem.W.Frag) (cA : CA) (L : List Str) : Prop := ∀ C ∈ L, ∀ a ∈ L, PySem.W.exmOne K (.ref (cA C)) (.ref (cA a)) = some (decide (C = a))
theorem many_of {K : PySem.W.Frag} {cA : CA} {L : List Str} (E : ExcAp K cA L) {c : Str} (hc : c ∈ L) {k : Str → Prop} {r : Str} : ∀ {l : List (Str × Str)}, (∀ p ∈ l, p.1 ∈ L) → toldN l c = some r → k r → ManyR K (l.map fun p => (cA p.1, p.2)) (.ref (cA c)) k
  | [], _, h, _ => by cases h
  | (a, q) :: l, hl, h, hk => by
    refine ⟨decide (c = a), E c hc a (hl _ List.mem_cons_self), fun hb => ?_, fun hb => many_of E hc (l := l) (fun p hp => hl p (List.mem_cons_of_mem _ hp)) ?_ hk⟩
    · have e : a = c := (of_decide_eq_true hb).symm
      have h : (if a = c then some q else toldN l c) = some r := h
      rw [if_pos e] at h
      cases h; exact hk
    · have e : ¬ a = c := fun z => of_decide_eq_false hb z.symm
      have h : (if a = c then some q else toldN l c) = some r := h
      rw [if_neg e] at h
      exact h
theorem told_mem {c r : Str} : ∀ {l : List (Str × Str)}, toldN l c = some r → ∃ p ∈ l, p.1 = c
  | [], h => by cases h
  | (a, q) :: l, h => by
    have h : (if a = c then some q else toldN l c) = some r := h
    split at h
    · rename_i e; exact ⟨_, List.mem_cons_self, e⟩
    · obtain ⟨p, hp, e⟩ := told_mem h
      exact ⟨p, List.mem_cons_of_mem _ hp, e⟩
theorem rd_told {K : PySem.W.Frag} {cA : CA} {Wd : WX} {σ : L2.St} {H : Hp} {Q : VK} {L : List Str} {l : List (Str × Str)} {m : ME} (E : ExcAp K cA L) (hl : ∀ p ∈ l, p.1 ∈ L) (h : tM K cA Wd (eTold l m) σ H Q) :
    tLamT cA.tb (TTm K (l.map fun p => (cA p.1, p.2))) (fun E => tM K cA (fun cls d _ H => E cls d H) m) σ H Q := by
  obtain ⟨Lk, φ, F, Pr, w, R, h⟩ := h
  have h : MP K cA Wd Lk φ F Pr σ Q (eTold l m w) := h
  unfold eTold at h
  refine ⟨fun t ht => (R.tab t ht).1, fun H1 x1 t1 => ?_⟩
  have R1 := R.extP x1 t1
  show tM K cA (fun cls d _ H' => ManyR K (l.map fun p => (cA p.1, p.2)) cls fun r => Q (.str r) H') m σ H1 Q
  refine tM_of R1 ?_
  cases e : m w with
  | no => rw [e] at h; exact h
  | ok r w1 => rw [e] at h; exact h
  | ex x w1 =>
    rw [e] at h
    simp only at h
    intro cls dx H' φ' F' Pr2 l2 p2 lp2 R2 xr
    cases e2 : toldN l x.cls with
    | none => rw [e2] at h; exact h.elim
    | some r =>
      rw [e2] at h
      obtain ⟨p, hp, ep⟩ := told_mem e2
      have hx : x.cls ∈ L := by rw [← ep]; exact hl p hp
      rw [xr.1]
      exact many_of E hx hl e2 (h (.str r) H' φ' F' Pr2 l2 p2 lp2 R2 (.str r))

/-! ### raise -/
/-- X(e) -/
theorem pmk_ownE {X : Cx} {C : Addr} {bmB : List Value} {B newId initId : String} {x : Str} {e : Expr} {te : TE} {p pos : Pos} (F : ExcBaseFacts B newId initId bmB) (q : PySem.W.excIn X.K C bmB newId = true) (gC : X.mg x = some (.ref C)) (kC : PySem.W.keepIn X.K (.ref C) = true) (r : Raises X (.ref C)) (hg : Gl X x) (he : PE X e te)
    (hdb : (x == ("__debug__" : Str)) = false := by decide) (hst : starEach [e] X.env = (false, eval e X.env) :: starEach [] X.env := by rfl) (hpl : (backTo pos (starEach [] X.env)).any (·.1) = false := by rfl) :
    PMk X (.Call (.Name x p) [e] [] pos) (fun σ H Q => te σ H fun _ H1 => Q (.ref C) none H1) := by
  intro pins s σ H Q I h
  refine wpAny_Call_Name_kw (ld_glob I hg gC ?_ hdb)
  have ha : PA X [e] (tCons te tNil) := pa_cons he pa_nil hst
  refine PySem.W.callWith_K (h₀ := X.base) I.ok.mod.kin kC (thn (ha.run pos pins s σ H (fun vs H1 => vs.length = 1 ∧ Q (.ref C) none H1) I ?_) fun us s1 hh => ?_) hst hpl
  · show te σ H fun x H1 => tNil σ H1 fun xs H2 => (x :: xs).length = 1 ∧ Q (.ref C) none H2
    have e : (fun (x : V) (H1 : Hp) => tNil σ H1 fun xs H2 => (x :: xs).length = 1 ∧ Q (.ref C) none H2) = fun _ H1 => Q (.ref C) none H1 := by
      funext x H1
      simp [tNil]
    rw [e]; exact h
  obtain ⟨vs, H1, I1, r1, ev, h⟩ := hh
  refine ⟨I1.kIn, ?_⟩
  have hl : us.length = 1 := by rw [← r1.length]; exact ev
  obtain ⟨u, rfl⟩ : ∃ u, us = [u] := by
    cases us with
    | nil => cases hl
    | cons u t => cases t with
      | nil => exact ⟨u, rfl⟩
      | cons _ _ => simp at hl
  obtain ⟨bm, N, nm, qn, bs, hdct, sn, sub, ab, col, dd, k0, k1, k2, k3, k5, mN, hC, hN, hni, T⟩ := exc_obj I1.kIn q
  refine wpAny_call_exc_subT F T hC hN hni (fun h' e hm => ?_) (by show 1 ≤ sizeLine; rw [sizeLine_eq]; omega)
  exact mk_of I1 hm r h (I1.hok.gone hm.new)
def sRaise (C : Str) (m : ME) : MS := fun w => (m w).bind fun _ w1 => .ex ⟨C, none⟩ w1
theorem rd_raise {K : PySem.W.Frag} {cA : CA} {Wd : WX} {σ : L2.St} {H : Hp} {D : Ends} {C : Str} {m : ME} (h : tMS K cA Wd (sRaise C m) D σ H) : tM K cA Wd m σ H fun _ H1 => Wd (.ref (cA C)) none σ H1 := by
  obtain ⟨Lk, φ, F, Pr, w, R, h⟩ := h
  exact rd_do (f := fun _ w1 => .ex ⟨C, none⟩ w1) (fun v H' φ' F' Pr2 r w' l p lp R rv h => h _ _ σ H' φ' F' l p (R.weak lp) ⟨rfl, rfl⟩) R h
theorem ps_raiseC {X : Cx} {cA : CA} {Wd : WX} {C : Addr} {bmB : List Value} {B newId initId : String} {x Cn : Str} {e : Expr} {m : ME} {p pos rpos : Pos} (hc : X.calm = true) (tk : Takes X Wd) (F : ExcBaseFacts B newId initId bmB) (q : PySem.W.excIn X.K C bmB newId = true) (gC : X.mg x = some (.ref C)) (kC : PySem.W.keepIn X.K (.ref C) = true)
    (r : Raises X (.ref C)) (hg : Gl X x) (hC : cA Cn = C) (he : PE X e (tM X.K cA Wd m)) (hdb : (x == ("__debug__" : Str)) = false := by decide) (hst : starEach [e] X.env = (false, eval e X.env) :: starEach [] X.env := by rfl) (hpl : (backTo pos (starEach [] X.env)).any (·.1) = false := by rfl) :
    PS X (.Raise (some (.Call (.Name x p) [e] [] pos)) none rpos) (tMS X.K cA Wd (sRaise Cn m)) :=
  ps_imp (ps_raise hc tk (pmk_ownE F q gC kC r hg he hdb hst hpl)) fun D σ H h => by rw [← hC]; exact rd_raise h
end Rf
set_option maxHeartbeats 1000000
/-! Rf14: subscripts, slices, calls of built-ins. -/
namespace Rf
open PySem PySem.Spec L2
open PyProof.Rows hiding St

/-! ### subscripts -/
def rDGet : R2 := fun x y H Q => ∃ a v, x = .ref a ∧ DGet H a y (some v) ∧ Q v H
theorem ix_dict {X : Cx} (hu : X.A.units + 1 < cLine) : IxR X rDGet := by
  intro value slice pins s σ H x y v u Q I rx ry h hs
  obtain ⟨a, z, rfl, g, q⟩ := h
  cases rx
  exact tail_any (dict_typeIs I g) PySem.F.slot_dict_getitem.lookup (d_getItem hu I g ry fun w' s3 I3 rw' => ⟨z, H, I3, rw', q⟩) hs
/-- no tuple stands among the written objects -/
def NoKT (K : PySem.W.Frag) : Prop := ∀ a o, K.lookup a = some o → o.cls ≠ .type "tuple"
def rIxAll (K : PySem.W.Frag) : R2 := fun x y H Q => rIx K x y H Q ∨ rDGet x y H Q
theorem ix_all {X : Cx} (hu : X.A.units + 1 < cLine) : IxR X (rIxAll X.K) := ix_seq.or (ix_dict hu)
def gIx : D → D → Option R
  | .lst xs, .int i => (atI xs i).map .sh
  | .tup xs, .int i => (atI xs i).map .sh
  | .str z, .int i => if sizeOk z.length then (atI z.cps.toList i).map (fun c => .sh (.str ⟨#[c]⟩)) else none
  | .dct false kvs, k => if (keyD k).isSome then (lookD kvs k).map .sh else none
  | _, _ => none
section
variable {K : PySem.W.Frag} {cA : CA}
theorem Shs.atI {φ : List Addr} {F : Hp} {vs : List V} {ds : List D} {i : Int} {d : D} (s : Shs K φ F vs ds) (h : L2.atI ds i = some d) : ∃ v, L2.atI vs i = some v ∧ Sh K φ F v d := by
  unfold L2.atI at h ⊢
  rw [s.1]
  cases e : ixN ds.length i with
  | none => rw [e] at h; cases h
  | some j =>
    rw [e] at h
    obtain ⟨v, h1, h2⟩ := s.getD (show ds[j]? = some d from h)
    exact ⟨v, h1, h2⟩
theorem Rdv.keyV {Lk : Addr → Option (Obj × HO)} {φ : List Addr} {F H : Hp} {v : V} {d : D} {k : Key} (h : Rdv K Lk φ F H v d) (e : keyD d = some k) : v = kV k := by
  cases d <;> simp [keyD] at e
  · subst e; exact h.int
  · subst e; exact h.str
theorem fit_ix : Fit2 K cA (rIxAll K) gIx := by
  intro Lk φ F Pr w σ H v1 v2 d1 d2 rr Q Rp h1 h2 e k
  have seq : ∀ {xs : List D} {i : Int}, (atI xs i).map R.sh = some rr → ∃ d, atI xs i = some d ∧ rr = .sh d := fun e => by
    obtain ⟨d, e1, e2⟩ := Option.map_eq_some_iff.mp e
    exact ⟨d, e1, e2.symm⟩
  cases d1 with
  | lst xs =>
    cases d2 <;> simp only [gIx] at e <;> try (cases e; done)
    obtain ⟨d, e1, rfl⟩ := seq e
    obtain ⟨a, vs, rfl, ha, s⟩ := h1.lst Rp
    obtain ⟨v, e2, s2⟩ := s.atI e1
    exact .inl (.inl ⟨a, vs, _, v, rfl, h2.int, ha, e2, say Rp k rfl s2⟩)
  | tup xs =>
    cases d2 <;> simp only [gIx] at e <;> try (cases e; done)
    obtain ⟨d, e1, rfl⟩ := seq e
    obtain ⟨a, vs, rfl, ha, s⟩ := h1.tup Rp
    obtain ⟨v, e2, s2⟩ := s.atI e1
    exact .inl (.inr (.inl ⟨a, vs, _, v, rfl, h2.int, ha, e2, say Rp k rfl s2⟩))
  | str z =>
    cases d2 <;> simp only [gIx] at e <;> try (cases e; done)
    split at e
    · rename_i hz
      obtain ⟨c, e1, e2⟩ := Option.map_eq_some_iff.mp e
      exact .inl (.inr (.inr ⟨z, _, c, h1.str, h2.int, sizeOk_le hz, e1, say Rp k e2.symm (.str _)⟩))
    · cases e
  | dct t kvs =>
    cases t with
    | true => simp [gIx] at e
    | false =>
      simp only [gIx] at e
      cases ek : keyD d2 with
      | none => rw [ek] at e; cases e
      | some key =>
        rw [ek] at e
        simp only [Option.isSome_some, if_true] at e
        obtain ⟨d, e1, e2⟩ := Option.map_eq_some_iff.mp e
        obtain ⟨a, ks, rfl, ha, s⟩ := h1.dct Rp
        obtain ⟨v, g1, g2⟩ := (s.look ek).1 d e1
        exact .inr ⟨a, v, rfl, .inl ⟨ks, key, ha, h2.keyV ek, g1.symm⟩, say Rp k e2.symm g2⟩
  | _ => simp [gIx] at e
end

/-! ### slices -/
def cutD (xs : List D) (lo hi : Option Int) : List D := (xs.drop (HT.sIx xs.length 0 lo)).take (HT.sIx xs.length xs.length hi - HT.sIx xs.length 0 lo)
def gSl : D → Option Int → Option Int → Option R
  | .lst xs, lo, hi => some (.own (.lst (cutD xs lo hi)))
  | .ext xs, lo, hi => some (.own (.lst (cutD xs lo hi)))
  | .tup xs, lo, hi => some (.sh (.tup (cutD xs lo hi)))
  | .str z, lo, hi => if sizeOk z.length then some (.sh (.str (cutS z lo hi))) else none
  | _, _, _ => none
abbrev MO := W → Res (Option Int)
def oNone : MO := fun w => .ok none w
def oSome (m : ME) : MO := fun w => (m w).bind fun r w1 => match r with
  | .sh (.int i) => .ok (some i) w1
  | _ => .no
def eSl (m : ME) (lo hi : MO) : ME := fun w => (m w).bind fun r w1 => (lo w1).bind fun l w2 => (hi w2).bind fun h w3 => match r.d w3 with
  | some d => (match gSl d l h with
    | some r' => .ok r' w3
    | none => .no)
  | none => .no
section
variable (K : PySem.W.Frag) (cA : CA) (Wd : WX)
def tMO (m : MO) : TO := fun σ H Q => ∃ Lk φ F Pr w, Rep K cA Lk φ F Pr w σ H ∧ match m w with
  | .ok r w' => ∀ H' φ' F' Pr2, Le F F' → Pf φ φ' → Le Pr Pr2 → Rep K cA Lk φ' F' Pr2 w' σ H' → Q r H'
  | .ex x w' => ∀ cls dx H' φ' F' Pr2, Le F F' → Pf φ φ' → Le Pr Pr2 → Rep K cA Lk φ' F' Pr2 w' σ H' → XR cA K φ' F' H' x cls dx → Wd cls dx σ H'
  | .no => False
end
section
variable {K : PySem.W.Frag} {cA : CA} {Wd : WX} {σ : L2.St} {H : Hp}
theorem rd_oNone {Q : Option Int → Hp → Prop} (h : tMO K cA Wd oNone σ H Q) : tNoPart σ H Q := by
  obtain ⟨Lk, φ, F, Pr, w, Rp, h⟩ := h
  exact h H φ F Pr (Le.refl _) (Pf.refl _) (Le.refl _) Rp
theorem rd_oSome {m : ME} {Q : Option Int → Hp → Prop} (h : tMO K cA Wd (oSome m) σ H Q) : tPart (tM K cA Wd m) σ H Q := by
  obtain ⟨Lk, φ, F, Pr, w, Rp, h⟩ := h
  unfold oSome at h
  refine ⟨Lk, φ, F, Pr, w, Rp, ?_⟩
  cases e1 : m w with
  | no => simp only [e1, Res.bind] at h
  | ex x w1 => simp only [e1, Res.bind] at h; exact h
  | ok r w1 =>
    simp only [e1, Res.bind] at h
    intro v H1 φ1 F1 Pr1 l1 p1 q1 Rp1 rv1
    cases r with
    | own d => exact h.elim
    | bor d => exact h.elim
    | sh d =>
      cases d with
      | int i => exact ⟨i, Sh.int_d rv1, h H1 φ1 F1 Pr1 l1 p1 q1 Rp1⟩
      | _ => exact h.elim
theorem Shs.cut {φ : List Addr} {F : Hp} {vs : List V} {ds : List D} {lo hi : Option Int} (s : Shs K φ F vs ds) : Shs K φ F (cutV vs lo hi) (cutD ds lo hi) := by
  unfold cutV cutD
  rw [s.1]
  exact (s.drop _).take _
def rSlAll (K : PySem.W.Frag) : V → Option Int → Option Int → Hp → VK → Prop := fun x lo hi H Q => (rSlL K x lo hi H Q ∨ rSlA K x lo hi H Q) ∨ rSlS x lo hi H Q
theorem sl_all {X : Cx} : SlR X (rSlAll X.K) := (sl_list.or sl_tupA).or sl_str
theorem fit_sl {Lk : Addr → Option (Obj × HO)} {φ : List Addr} {F Pr : Hp} {w : W} {v1 : V} {d1 : D} {rr : R} {lo hi : Option Int} {Q : VK} (Rp : Rep K cA Lk φ F Pr w σ H) (h1 : Rdv K Lk φ F H v1 d1) (e : gSl d1 lo hi = some rr)
    (k : ∀ v H' F' Pr2, Le F F' → Le Pr Pr2 → Rep K cA Lk φ F' Pr2 w σ H' → RV K φ F' Pr Pr2 σ v rr → Q v H') : rSlAll K v1 lo hi H Q := by
  cases d1 with
  | lst xs =>
    cases e
    obtain ⟨a, vs, rfl, ha, s⟩ := h1.lst Rp
    exact .inl (.inl ⟨a, vs, rfl, ha, fun p hp => sayLst Rp k hp rfl s.cut⟩)
  | ext xs =>
    cases e
    rcases h1 with h1 | ⟨_, _, _, _, q⟩
    · obtain ⟨a, vs, rfl, ha, s⟩ := h1.ext_d
      refine .inl (.inl ⟨a, vs, rfl, ?_, fun p hp => sayLst Rp k hp rfl s.cut⟩)
      rcases ha with ⟨od, ha⟩ | ha | ha
      · rcases (Rp.fz _ _ ha).1 with ⟨_, z⟩ | ⟨z, _⟩
        · exact .inl (.inr ⟨od, z⟩)
        · exact z.elim
      · exact .inl (Rp.fz _ _ ha).1.rd
      · exact ha H
    · cases q
  | tup xs =>
    cases e
    obtain ⟨a, vs, rfl, ha, s⟩ := h1.tup Rp
    refine .inl (.inr ⟨a, vs, rfl, ha, fun z => ?_, fun _ p hp => sayTup Rp k hp rfl s.cut⟩)
    have e : cutD xs lo hi = xs := by
      unfold cutD
      rw [s.1] at z
      rw [z.1, z.2]
      simp
    rw [e] at k
    rcases h1 with h1 | ⟨_, _, _, _, q⟩
    · exact say Rp k rfl h1
    · cases q
  | str z =>
    simp only [gSl] at e
    split at e
    · rename_i hz
      cases e
      exact .inr ⟨z, h1.str, sizeOk_le hz, say Rp k rfl (.str _)⟩
    · cases e
  | _ => cases e
theorem rd_sl {m : ME} {lo hi : MO} {Q : VK} (h : tM K cA Wd (eSl m lo hi) σ H Q) : tSl (rSlAll K) (tM K cA Wd m) (tMO K cA Wd lo) (tMO K cA Wd hi) σ H Q := by
  obtain ⟨Lk, φ, F, Pr, w, Rp, h⟩ := h
  unfold eSl at h
  refine ⟨Lk, φ, F, Pr, w, Rp, ?_⟩
  cases e1 : m w with
  | no => simp only [e1, Res.bind] at h
  | ex x w1 => simp only [e1, Res.bind] at h; exact h
  | ok r1 w1 =>
    simp only [e1, Res.bind] at h
    intro v1 H1 φ1 F1 Pr1 l1 p1 q1 Rp1 rv1
    refine ⟨Lk, φ1, F1, Pr1, w1, Rp1, ?_⟩
    cases e2 : lo w1 with
    | no => simp only [e2] at h
    | ex x w2 => simp only [e2] at h; exact fun cls dx H' φ' F' Pr2 l2 p2 q2 Rp2 xr => h cls dx H' φ' F' Pr2 (l1.trans l2) (p1.trans p2) (q1.trans q2) Rp2 xr
    | ok o1 w2 =>
      simp only [e2] at h
      intro H2 φ2 F2 Pr2 l2 p2 q2 Rp2
      refine ⟨Lk, φ2, F2, Pr2, w2, Rp2, ?_⟩
      cases e3 : hi w2 with
      | no => simp only [e3] at h
      | ex x w3 => simp only [e3] at h; exact fun cls dx H' φ' F' Pr3 l3 p3 q3 Rp3 xr => h cls dx H' φ' F' Pr3 ((l1.trans l2).trans l3) ((p1.trans p2).trans p3) ((q1.trans q2).trans q3) Rp3 xr
      | ok o2 w3 =>
        simp only [e3] at h
        intro H3 φ3 F3 Pr3 l3 p3 q3 Rp3
        cases g1 : r1.d w3 with
        | none => simp only [g1] at h
        | some d =>
          simp only [g1] at h
          cases g2 : gSl d o1 o2 with
          | none => simp only [g2] at h
          | some rr =>
            simp only [g2] at h
            exact fit_sl Rp3 (rdv_of Rp3 (rv1.le (l2.trans l3) (p2.trans p3) (q2.trans q3)) g1) g2 fun v H4 F4 Pr4 l4 q4 Rp4 rv4 =>
              h v H4 φ3 F4 Pr4 (((l1.trans l2).trans l3).trans l4) ((p1.trans p2).trans p3) (((q1.trans q2).trans q3).trans q4) Rp4 (rv4.narrow ((q1.trans q2).trans q3))
end

/-! ### calls: one word each -/
def gLen : List D → Option R
  | [.lst xs] => some (.sh (.int xs.length))
  | [.tup xs] => some (.sh (.int xs.length))
  | [.str z] => if sizeOk z.length then some (.sh (.int z.length)) else none
  | [.dct _ kvs] => some (.sh (.int kvs.length))
  | _ => none
def gAbs : List D → Option R
  | [.int i] => some (.sh (.int (if i < 0 then -i else i)))
  | _ => none
def gInt : List D → Option R
  | [.int i] => some (.sh (.int i))
  | [.bl b] => some (.sh (.int (if b then 1 else 0)))
  | _ => none
def gStr : List D → Option R
  | [.int i] => if decide (i.natAbs.log2 < 1920) then some (.sh (.str (toString i))) else none
  | _ => none
def gMax2 : List D → Option R
  | [.int i, .int j] => some (.sh (.int (if j > i then j else i)))
  | _ => none
def gMin2 : List D → Option R
  | [.int i, .int j] => some (.sh (.int (if j < i then j else i)))
  | _ => none
def gList : List D → Option R
  | [.lst xs] => some (.own (.lst xs))
  | [.tup xs] => some (.own (.lst xs))
  | [.dct false kvs] => some (.own (.lst (keysD' kvs)))
  | _ => none
def gTuple : List D → Option R
  | [.lst xs] => some (.sh (.tup xs))
  | [.tup xs] => some (.sh (.tup xs))
  | _ => none
section
variable {K : PySem.W.Frag} {cA : CA}
theorem Rdvs.one {Lk : Addr → Option (Obj × HO)} {φ : List Addr} {F H : Hp} {vs : List V} {d : D} (h : Rdvs K Lk φ F H vs [d]) : ∃ v, vs = [v] ∧ Rdv K Lk φ F H v d := by
  match vs, h with
  | [v], h => exact ⟨v, rfl, h.2 0 v d rfl rfl⟩
  | [], h => exact absurd h.1 (by simp)
  | _ :: _ :: _, h => exact absurd h.1 (by simp)
theorem Rdvs.two {Lk : Addr → Option (Obj × HO)} {φ : List Addr} {F H : Hp} {vs : List V} {d e : D} (h : Rdvs K Lk φ F H vs [d, e]) : ∃ v u, vs = [v, u] ∧ Rdv K Lk φ F H v d ∧ Rdv K Lk φ F H u e := by
  match vs, h with
  | [v, u], h => exact ⟨v, u, rfl, h.2 0 v d rfl rfl, h.2 1 u e rfl rfl⟩
  | [], h => exact absurd h.1 (by simp)
  | [_], h => exact absurd h.1 (by simp)
  | _ :: _ :: _ :: _, h => exact absurd h.1 (by simp)
def rLenAll (K : PySem.W.Frag) : List V → Hp → VK → Prop := fun xs H Q => (∃ x n, xs = [x] ∧ LenV K x H n ∧ Q (.int n) H) ∨ ∃ a n, xs = [.ref a] ∧ ((∃ kvs, Rd H a (.dK kvs) ∧ n = kvs.length) ∨ ∃ kvs, Rd H a (.dT kvs) ∧ n = kvs.length) ∧ Q (.int (n : Nat)) H
theorem call_lenAll {X : Cx} : CallR X (.builtin "len") (rLenAll X.K) := by
  refine CallR.or call_len ?_
  intro pins s σ H xs us Q I r h
  obtain ⟨a, n, rfl, h, q⟩ := h
  obtain ⟨u, rfl, ru⟩ := vals1 r
  cases ru
  rcases h with ⟨kvs, ha, rfl⟩ | ⟨kvs, ha, rfl⟩
  · exact d_len I ha fun t s' I' => ⟨.int kvs.length, H, I', ⟨t, rfl⟩, q⟩
  · obtain ⟨z, hd, ys, rel, dd⟩ := dt_rd I.hok ha
    have hl : kvs.length = ys.length := Paired.length rel
    refine call_len_dictH hd dd (by rw [← hl]; rw [sizeLine_eq] at z; omega) ?_
    rw [← hl]
    exact ⟨.int ((kvs.length : Nat) : Int), H, I.tok _, ⟨_, rfl⟩, q⟩
theorem fit_len : FitN K cA (rLenAll K) gLen := by
  intro Lk φ F Pr w σ H vs ds rr Q Rp rd e k
  match ds, e, rd with
  | [.lst xs], e, rd =>
    cases e
    obtain ⟨v, rfl, h⟩ := rd.one
    obtain ⟨a, ys, rfl, h1, h2⟩ := h.lst Rp
    exact .inl ⟨_, _, rfl, .inl ⟨ys, h1, h2.1.symm⟩, say Rp k rfl (.int _)⟩
  | [.tup xs], e, rd =>
    cases e
    obtain ⟨v, rfl, h⟩ := rd.one
    obtain ⟨a, ys, rfl, h1, h2⟩ := h.tup Rp
    exact .inl ⟨_, _, rfl, .inr ⟨ys, h1, h2.1.symm⟩, say Rp k rfl (.int _)⟩
  | [.str z], e, rd =>
    simp only [gLen] at e
    split at e
    · rename_i hz
      cases e
      obtain ⟨v, rfl, h⟩ := rd.one
      rw [h.str]
      exact .inl ⟨_, z.length, rfl, ⟨sizeOk_le hz, rfl⟩, say Rp k rfl (.int _)⟩
    · cases e
  | [.dct false kvs], e, rd =>
    cases e
    obtain ⟨v, rfl, h⟩ := rd.one
    obtain ⟨a, ys, rfl, h1, h2⟩ := h.dct Rp
    exact .inr ⟨_, _, rfl, .inl ⟨ys, h1, h2.1.symm⟩, say Rp k rfl (.int _)⟩
  | [.dct true kvs], e, rd =>
    cases e
    obtain ⟨v, rfl, h⟩ := rd.one
    obtain ⟨a, ys, rfl, h1, h2⟩ := h.dctT Rp
    exact .inr ⟨_, _, rfl, .inr ⟨ys, h1, h2.1.symm⟩, say Rp k rfl (.int _)⟩
theorem fit_abs : FitN K cA (fun xs H Q => ∃ i, xs = [.int i] ∧ Q (.int (if i < 0 then -i else i)) H) gAbs := by
  intro Lk φ F Pr w σ H vs ds rr Q Rp rd e k
  match ds, e, rd with
  | [.int i], e, rd =>
    cases e
    obtain ⟨v, rfl, h⟩ := rd.one
    exact ⟨i, by rw [h.int], say Rp k rfl (.int _)⟩
theorem fit_int : FitN K cA (fun xs H Q => (∃ i, xs = [.int i] ∧ Q (.int i) H) ∨ ∃ k, xs = [.bl k] ∧ Q (.int (if k then 1 else 0)) H) gInt := by
  intro Lk φ F Pr w σ H vs ds rr Q Rp rd e k
  match ds, e, rd with
  | [.int i], e, rd =>
    cases e
    obtain ⟨v, rfl, h⟩ := rd.one
    exact .inl ⟨i, by rw [h.int], say Rp k rfl (.int _)⟩
  | [.bl i], e, rd =>
    cases e
    obtain ⟨v, rfl, h⟩ := rd.one
    exact .inr ⟨i, by rw [h.bl], say Rp k rfl (.int _)⟩
theorem fit_str : FitN K cA (fun xs H Q => ∃ i, xs = [.int i] ∧ i.natAbs.log2 < 1920 ∧ Q (.str (toString i)) H) gStr := by
  intro Lk φ F Pr w σ H vs ds rr Q Rp rd e k
  match ds, e, rd with
  | [.int i], e, rd =>
    simp only [gStr] at e
    split at e
    · rename_i hz
      cases e
      obtain ⟨v, rfl, h⟩ := rd.one
      exact ⟨i, by rw [h.int], of_decide_eq_true hz, say Rp k rfl (.str _)⟩
    · cases e
theorem fit_max2 : FitN K cA (fun xs H Q => ∃ i j, xs = [.int i, .int j] ∧ Q (.int (if j > i then j else i)) H) gMax2 := by
  intro Lk φ F Pr w σ H vs ds rr Q Rp rd e k
  match ds, e, rd with
  | [.int i, .int j], e, rd =>
    cases e
    obtain ⟨v, u, rfl, h, h'⟩ := rd.two
    exact ⟨i, j, by rw [h.int, h'.int], say Rp k rfl (.int _)⟩
theorem fit_min2 : FitN K cA (fun xs H Q => ∃ i j, xs = [.int i, .int j] ∧ Q (.int (if j < i then j else i)) H) gMin2 := by
  intro Lk φ F Pr w σ H vs ds rr Q Rp rd e k
  match ds, e, rd with
  | [.int i, .int j], e, rd =>
    cases e
    obtain ⟨v, u, rfl, h, h'⟩ := rd.two
    exact ⟨i, j, by rw [h.int, h'.int], say Rp k rfl (.int _)⟩
def rListAll (K : PySem.W.Frag) : List V → Hp → VK → Prop := fun xs H Q => (∃ p ys, xs = [.ref p] ∧ (SqL K H p ys ∨ SqT K H p ys) ∧ ∀ l, H l = none → Q (.ref l) (upd H l (.lst ys))) ∨
  ∃ (a : Addr) (kvs : List (Key × V)), xs = [.ref a] ∧ Rd H a (.dK kvs) ∧ ∀ p, H p = none → Q (.ref p) (upd H p (.lst (kvs.map fun kv => kV kv.1)))
theorem call_listAll {X : Cx} (hc : X.calm = true) : CallR X (.type "list") (rListAll X.K) := call_list_of.or (call_listD hc)
theorem fit_list : FitN K cA (rListAll K) gList := by
  intro Lk φ F Pr w σ H vs ds rr Q Rp rd e k
  match ds, e, rd with
  | [.lst xs], e, rd =>
    cases e
    obtain ⟨v, rfl, h⟩ := rd.one
    obtain ⟨a, ys, rfl, h1, h2⟩ := h.lst Rp
    exact .inl ⟨a, ys, rfl, .inl h1, fun p hp => sayLst Rp k hp rfl h2⟩
  | [.tup xs], e, rd =>
    cases e
    obtain ⟨v, rfl, h⟩ := rd.one
    obtain ⟨a, ys, rfl, h1, h2⟩ := h.tup Rp
    exact .inl ⟨a, ys, rfl, .inr h1, fun p hp => sayLst Rp k hp rfl h2⟩
  | [.dct false kvs], e, rd =>
    cases e
    obtain ⟨v, rfl, h⟩ := rd.one
    obtain ⟨a, ys, rfl, h1, h2⟩ := h.dct Rp
    exact .inr ⟨a, ys, rfl, h1, fun p hp => sayLst Rp k hp rfl h2.keys⟩
theorem fit_tuple : FitN K cA (fun xs H Q => ∃ p ys, xs = [.ref p] ∧ ((SqL K H p ys ∧ ∀ l, H l = none → Q (.ref l) (upd H l (.tup ys))) ∨ (SqT K H p ys ∧ Q (.ref p) H))) gTuple := by
  intro Lk φ F Pr w σ H vs ds rr Q Rp rd e k
  match ds, e, rd with
  | [.lst xs], e, rd =>
    cases e
    obtain ⟨v, rfl, h⟩ := rd.one
    obtain ⟨a, ys, rfl, h1, h2⟩ := h.lst Rp
    exact ⟨a, ys, rfl, .inl ⟨h1, fun p hp => sayTup Rp k hp rfl h2⟩⟩
  | [.tup xs], e, rd =>
    cases e
    obtain ⟨v, rfl, h⟩ := rd.one
    have h0 := h
    obtain ⟨a, ys, rfl, h1, h2⟩ := h.tup Rp
    refine ⟨a, ys, rfl, .inr ⟨h1, ?_⟩⟩
    rcases h0 with h0 | ⟨_, _, _, _, q⟩
    · exact say Rp k rfl h0
    · cases q
end
end Rf
set_option maxHeartbeats 1000000
/-! Rf15: sorted, min, max, sum, dict of lists. -/
namespace Rf
open PySem PySem.Spec L2
open PyProof.Rows hiding St

/-! ### data that compare -/
mutual
theorem py_inj : ∀ d e : D, d.py.canLay0 = true → d.py = e.py → d = e
  | .non, e, _, h => by cases e <;> simp [D.py] at h ⊢
  | .bl b, e, _, h => by cases e <;> simp [D.py] at h ⊢; exact h
  | .int i, e, _, h => by cases e <;> simp [D.py] at h ⊢; exact h
  | .str i, e, _, h => by cases e <;> simp [D.py] at h ⊢; exact h
  | .tup xs, e, c, h => by
    cases e <;> simp [D.py] at h
    rw [pys_inj xs _ (by simpa [D.py, PyData.canLay0] using c) h]
  | .lst xs, e, c, h => by
    cases e <;> simp [D.py] at h
    rw [pys_inj xs _ (by simpa [D.py, PyData.canLay0] using c) h]
  | .dct _ _, e, c, h => by simp [D.py, PyData.canLay0] at c
  | .obj _, e, c, h => by simp [D.py, PyData.canLay0] at c
  | .ext _, e, c, h => by simp [D.py, PyData.canLay0] at c
theorem pys_inj : ∀ ds es : List D, PyData.canLayAll0 (D.pys ds) = true → D.pys ds = D.pys es → ds = es
  | [], es, _, h => by cases es <;> simp [D.pys] at h ⊢
  | d :: ds, es, c, h => by
    cases es with
    | nil => simp [D.pys] at h
    | cons e es =>
      simp only [D.pys, List.cons.injEq] at h
      rw [D.pys, PyData.canLayAll0, Bool.and_eq_true] at c
      rw [py_inj d e c.1 h.1, pys_inj ds es c.2 h.2]
end
def simD (ds : List D) : Bool := ds.all fun d => shp d && ds.all fun e => PySem.W.alike d.py e.py
def isTup1 : D → Bool
  | .tup (_ :: _) => true
  | _ => false
def isFlat : D → Bool
  | .non => false
  | .tup _ => false
  | _ => true
def sortOk (ds : List D) : Bool := (simD ds && (ds.all isTup1 || ds.all isFlat)) && sizeOk ds.length
def leD (a b : D) : Bool := !PySem.W.dataLt b.py a.py
def sortD (ds : List D) : List D := ds.mergeSort leD
theorem simD_iff {ds : List D} (h : simD ds = true) : (∀ d ∈ ds, shp d = true) ∧ ∀ d ∈ ds, ∀ e ∈ ds, PySem.W.alike d.py e.py = true := by
  have h := List.all_eq_true.mp h
  refine ⟨fun d hd => (Bool.and_eq_true_iff.mp (h d hd)).1, fun d hd e he => List.all_eq_true.mp (Bool.and_eq_true_iff.mp (h d hd)).2 e he⟩
theorem sortable_of {ds : List D} (h : (ds.all isTup1 || ds.all isFlat) = true) : PySem.W.Sortable (ds.map D.py) := by
  rcases Bool.or_eq_true_iff.mp h with h | h
  · refine .inl fun d hd => ?_
    obtain ⟨e, he, rfl⟩ := List.mem_map.mp hd
    have q := List.all_eq_true.mp h e he
    match e, q with
    | .tup (x :: r), _ => exact ⟨x.py, D.pys r, by simp [D.py, D.pys]⟩
  · refine .inr fun d hd => ?_
    obtain ⟨e, he, rfl⟩ := List.mem_map.mp hd
    have q := List.all_eq_true.mp h e he
    cases e <;> first | (cases q; done) | simp [D.py]
theorem each_of {α β : Type} {R : α → β → Prop} : ∀ {vs : List α} {bs : List β}, vs.length = bs.length → (∀ (i : Nat) v b, vs[i]? = some v → bs[i]? = some b → R v b) → PySem.W.EachIs R vs bs
  | [], [], _, _ => .nil
  | [], _ :: _, h, _ => by simp at h
  | _ :: _, [], h, _ => by simp at h
  | v :: vs, b :: bs, h, k => .cons (k 0 v b rfl rfl) (each_of (by simpa using h) fun i v b h1 h2 => k (i + 1) v b (by simpa using h1) (by simpa using h2))
theorem vals_of_each {β : Type} {f : β → V} : ∀ {out : List Value} {bs : List β}, PySem.W.EachIs (fun v b => RelV (f b) v) out bs → Vals (bs.map f) out
  | _, _, .nil => .nil
  | _, _, .cons h t => .cons h (vals_of_each t)
theorem zip_get {α β : Type} : ∀ {as : List α} {bs : List β} {i : Nat} {p : α × β}, (as.zip bs)[i]? = some p → as[i]? = some p.1 ∧ bs[i]? = some p.2
  | [], _, i, p, h => by simp at h
  | _ :: _, [], i, p, h => by simp at h
  | a :: as, b :: bs, 0, p, h => by simp at h; subst h; exact ⟨rfl, rfl⟩
  | a :: as, b :: bs, i + 1, p, h => by
    simp only [List.zip_cons_cons, List.getElem?_cons_succ] at h
    simpa using zip_get h
/-- pairs that stand for each other -/
theorem shs_perm {K : PySem.W.Frag} {φ : List Addr} {F : Hp} {vs : List V} {ds : List D} {zs : List (V × D)} (s : Shs K φ F vs ds) (h : zs.Perm (vs.zip ds)) : Shs K φ F (zs.map (·.1)) (zs.map (·.2)) := by
  refine ⟨by simp, fun i v d h1 h2 => ?_⟩
  rw [List.getElem?_map] at h1 h2
  obtain ⟨z, e1, rfl⟩ := Option.map_eq_some_iff.mp h1
  rw [e1] at h2
  cases h2
  have m := h.mem_iff.mp (List.mem_of_getElem? e1)
  obtain ⟨j, hj⟩ := List.mem_iff_getElem?.mp m
  obtain ⟨g1, g2⟩ := zip_get hj
  exact s.2 j _ _ g1 g2
def DpsD (K : PySem.W.Frag) (H : Hp) (xs : List V) (ds : List D) : Prop := xs.length = ds.length ∧ ∀ (i : Nat) v d, xs[i]? = some v → ds[i]? = some d → Dp K H v d.py
theorem dps_of {K : PySem.W.Frag} {cA : CA} {Lk : Addr → Option (Obj × HO)} {φ : List Addr} {F Pr : Hp} {w : W} {σ : L2.St} {H : Hp} {xs : List V} {ds : List D} (Rp : Rep K cA Lk φ F Pr w σ H) (s : Shs K φ F xs ds) (h : ∀ d ∈ ds, shp d = true) : DpsD K H xs ds :=
  ⟨s.1, fun i v d a b => sh_dp Rp (s.2 i v d a b) (SeqAt.canLay_of_shaped (h d (List.mem_of_getElem? b)))⟩
def rSortDt (K : PySem.W.Frag) : List V → Hp → VK → Prop := fun vs H Q => ∃ (a : Addr) (xs : List V) (ds : List D), vs = [.ref a] ∧ SqL K H a xs ∧ DpsD K H xs ds ∧ sortOk ds = true ∧
  ∀ (zs : List (V × D)) (p : Addr), zs.Perm (xs.zip ds) → zs.map (·.2) = sortD ds → H p = none → Q (.ref p) (upd H p (.lst (zs.map (·.1))))
section
variable {X : Cx}
theorem snd_zip {α β : Type} {as : List α} {bs : List β} (h : as.length = bs.length) : (as.zip bs).map (·.2) = bs := List.map_snd_zip (by omega)
theorem sort_map {α : Type} (zs : List (α × D)) : (zs.mergeSort (PySem.W.dataLe false fun b => b.2.py)).map (·.2) = sortD (zs.map (·.2)) :=
  List.map_mergeSort (s := leD) fun a _ b _ => rfl
theorem call_sortDt (hu : X.A.units + 70 < cLine) : CallR X (.builtin "sorted") (rSortDt X.K) := by
  intro pins s σ H vs us Q I r h
  obtain ⟨a, xs, ds, rfl, hs, ⟨hl, hd⟩, ok, q⟩ := h
  obtain ⟨its, rv, hli, hz⟩ := I.list hs
  rw [Vals.ref1 r]
  obtain ⟨ok1, ok3⟩ := Bool.and_eq_true_iff.mp ok
  obtain ⟨ok1, ok2⟩ := Bool.and_eq_true_iff.mp ok1
  obtain ⟨s1, s2⟩ := simD_iff ok1
  have hlen := rv.length
  have hzip : (xs.zip ds).length = ds.length := by rw [List.length_zip, hl, Nat.min_self]
  have em : (xs.zip ds).map (fun b => b.2.py) = ds.map D.py := by
    have q : (xs.zip ds).map (fun b => b.2.py) = ((xs.zip ds).map (·.2)).map D.py := by rw [List.map_map]; rfl
    rw [q, snd_zip hl]
  have e : PySem.W.EachIs (fun (v : Value) (b : V × D) => RelV b.1 v) its (xs.zip ds) := each_of (by rw [hzip]; omega) fun i v b h1 h2 => by
    obtain ⟨g1, g2⟩ := zip_get h2
    obtain ⟨u, e1, e2⟩ := rv.get g1
    rw [h1] at e1; cases e1; exact e2
  have er : PySem.W.EachIs (fun (v : Value) (b : V × D) => ∃ as, Reads s.heap v b.2.py as) its (xs.zip ds) := each_of (by rw [hzip]; omega) fun i v b h1 h2 => by
    obtain ⟨g1, g2⟩ := zip_get h2
    obtain ⟨u, e1, e2⟩ := rv.get g1
    rw [h1] at e1; cases e1
    exact Dp.reads I _ _ _ (hd i _ _ g1 g2) e2
  refine PySem.W.sorted_data (vs := its) (bs := xs.zip ds) (enc := fun b => b.2.py) (R := fun (v : Value) (b : V × D) => RelV b.1 v) hli.isList e er ?_ ?_ (by rw [hzip]; exact sizeOk_le ok3) (fun b hb => ?_) fun out h1 h2 => ?_
  · rw [em]
    intro d hd d' hd'
    obtain ⟨x, hx, rfl⟩ := List.mem_map.mp hd
    obtain ⟨y, hy, rfl⟩ := List.mem_map.mp hd'
    exact s2 x hx y hy
  · rw [em]; exact sortable_of ok2
  · have m : b.2 ∈ ds := (List.of_mem_zip hb).2
    have := SeqAt.depth_of_shaped (s1 _ m)
    omega
  · obtain ⟨ep, he'⟩ := PyProof.Rows.sortedAll_at s.heap its out.toArray
    have hp : ((xs.zip ds).mergeSort (PySem.W.dataLe false fun b => b.2.py)).Perm (xs.zip ds) := List.mergeSort_perm _ _
    have hlen2 : (((xs.zip ds).mergeSort (PySem.W.dataLe false fun b => b.2.py)).map (·.1)).length ≤ sizeLine := by
      rw [List.length_map, hp.length_eq, hzip]; exact sizeOk_le ok3
    refine ⟨.ref _, upd H (s.heap.objs.size + 1) (.lst (((xs.zip ds).mergeSort (PySem.W.dataLe false fun b => b.2.py)).map (·.1))), I.laid (t' := s.toks) (fun _ _ => PyProof.Rows.sortedAll_old) (Nat.le_succ _) ⟨hlen2, out, ep, vals_of_each h2, he'⟩, rfl, q _ _ hp ?_ (I.hok.fresh (Nat.le_succ _))⟩
    rw [sort_map, snd_zip hl]
end

/-! ### sorted(d): its keys -/
def KeysD (kvs : List (Key × V)) (ds : List D) : Prop := kvs.length = ds.length ∧ ∀ (i : Nat) p d, kvs[i]? = some p → ds[i]? = some d → keyD d = some p.1
def rSortKD : List V → Hp → VK → Prop := fun vs H Q => ∃ (a : Addr) (kvs : List (Key × V)) (ds : List D), vs = [.ref a] ∧ Rd H a (.dK kvs) ∧ KeysD kvs ds ∧ sortOk ds = true ∧
  ∀ (zs : List (V × D)) (p : Addr), zs.Perm ((kvs.map fun kv => kV kv.1).zip ds) → zs.map (·.2) = sortD ds → H p = none → Q (.ref p) (upd H p (.lst (zs.map (·.1))))
section
variable {X : Cx}
theorem rel_of_key {k : Key} {v : Value} (h : keyIs k v = true) : RelV (kV k) v := by
  rcases keyIs_shape h with ⟨i, t, rfl, rfl⟩ | ⟨z, t, rfl, rfl⟩
  · exact ⟨t, rfl⟩
  · exact ⟨t, rfl⟩
theorem reads_key {h : Heap} {k : Key} {v : Value} {d : D} (hk : keyIs k v = true) (e : keyD d = some k) : ∃ as, Reads h v d.py as := by
  rcases keyIs_shape hk with ⟨i, t, rfl, rfl⟩ | ⟨z, t, rfl, rfl⟩
  · cases d <;> simp [keyD] at e
    subst e; exact ⟨[], Reads.int _ _⟩
  · cases d <;> simp [keyD] at e
    subst e; exact ⟨[], Reads.str _ _⟩
/-- behind the collecting: the new list is sorted -/
theorem sort_tail {pins : List (Addr × Obj)} {σ : L2.St} {H1 : Hp} {s : Shared} {h' : Heap} {tk : Nat} {vals : List Value} {bs : List (V × D)} {A : Around} {R : Value → Shared → Prop} {E : Value → Shared → Prop} (I1 : Inv X pins σ H1 { s with heap := h', toks := tk }) (hu : A.units + 70 < cLine)
    (e : PySem.W.EachIs (fun (v : Value) (b : V × D) => RelV b.1 v) vals bs) (er : PySem.W.EachIs (fun (v : Value) (b : V × D) => ∃ as, Reads h' v b.2.py as) vals bs) (ok : sortOk (bs.map (·.2)) = true)
    (q : ∀ (zs : List (V × D)) (p : Addr) s', zs.Perm bs → zs.map (·.2) = sortD (bs.map (·.2)) → H1 p = none → Inv X pins σ (upd H1 p (.lst (zs.map (·.1)))) s' → p = h'.objs.size → R .none s') :
    wpAny (model X.prog X.w) A (call (.builtin "list.sort") [.ref h'.objs.size]) R E { s with heap := h'.push { cls := .type "list", data := .seq vals.toArray }, toks := tk } := by
  obtain ⟨ok1, ok3⟩ := Bool.and_eq_true_iff.mp ok
  obtain ⟨ok1, ok2⟩ := Bool.and_eq_true_iff.mp ok1
  obtain ⟨s1, s2⟩ := simD_iff ok1
  have em : bs.map (fun b => b.2.py) = (bs.map (·.2)).map D.py := by rw [List.map_map]; rfl
  have hoL : (h'.push { cls := .type "list", data := .seq vals.toArray }).get? h'.objs.size = some (seqObj "list" vals.toArray 0) := Heap.get?_push_size _ rfl
  have kp : ∀ b o, h'.get? b = some o → (h'.push { cls := .type "list", data := .seq vals.toArray }).get? b = some o := fun b o e => Heap.get?_push_of_some _ e
  have hal : PySem.W.AllAlike (bs.map fun b => b.2.py) := by
    rw [em]
    intro d hd d' hd'
    obtain ⟨x, hx, rfl⟩ := List.mem_map.mp hd
    obtain ⟨y, hy, rfl⟩ := List.mem_map.mp hd'
    exact s2 x hx y hy
  have er2 : PySem.W.EachIs (fun (v : Value) (b : V × D) => ∃ as, Reads (h'.push { cls := .type "list", data := .seq vals.toArray }) v b.2.py as ∧ h'.objs.size ∉ as) vals bs := er.mono fun v b ⟨as, r⟩ => ⟨as, PyProof.Rows.Reads.keeps kp r, fun m => by
    obtain ⟨o, ho⟩ := PyProof.On.reads_mem_get r _ m
    exact Nat.lt_irrefl _ (Heap.lt_size ho)⟩
  refine PySem.W.list_sort_data (vs := vals) (bs := bs) (enc := fun b => b.2.py) (R := fun (v : Value) (b : V × D) => RelV b.1 v) hoL e er2 hal (by rw [em]; exact sortable_of ok2) ?_ (fun b hb => ?_) fun out h1 h2 => ?_
  · have := sizeOk_le ok3; rw [List.length_map] at this; exact this
  · have m : b.2 ∈ bs.map (·.2) := List.mem_map.mpr ⟨b, hb, rfl⟩
    have := SeqAt.depth_of_shaped (s1 _ m)
    omega
  · have hp : (bs.mergeSort (PySem.W.dataLe false fun b => b.2.py)).Perm bs := List.mergeSort_perm _ _
    obtain ⟨e', he'⟩ := PyProof.Rows.sortedHeap_at (vs := vals) (out := out.toArray) hoL
    have hlen2 : ((bs.mergeSort (PySem.W.dataLe false fun b => b.2.py)).map (·.1)).length ≤ sizeLine := by
      rw [List.length_map, hp.length_eq]
      have := sizeOk_le ok3; rw [List.length_map] at this; exact this
    refine q _ h'.objs.size _ hp (sort_map bs) (I1.hok.fresh (Nat.le_refl _)) (I1.laid (t' := tk) (fun b u e => ?_) (Nat.le_refl _) (show ObjOk X.prog X.w _ _ _ (.lst _) from ⟨hlen2, out, e', vals_of_each h2, he'⟩)) rfl
    have hb : b < h'.objs.size := Heap.lt_size e
    rw [PyProof.Rows.sortedHeap_old (Nat.ne_of_lt hb) (by rw [size_push']; exact Nat.lt_succ_of_lt hb)]
    exact Heap.get?_push_of_some _ e
theorem call_sortKD (hcalm : X.calm = true) (hu : X.A.units + 80 < cLine) : CallR X (.builtin "sorted") rSortKD := by
  intro pins s σ H xs us Q I r q
  obtain ⟨a, kvs, ds, rfl, hd, ⟨kl, kk⟩, ok, q⟩ := q
  obtain ⟨u, rfl, rx⟩ := vals1 r
  cases rx
  obtain ⟨z, lo, vs, rel, dd⟩ := dk_rd I.hok hd
  obtain ⟨ep, hat⟩ := dd.dictAt
  have hkeys : vs.map (·.1) = kvs.map (·.1) := rel.keys.symm
  have hl : vs.length = kvs.length := by
    have e := congrArg List.length hkeys
    rw [List.length_map, List.length_map] at e
    exact e
  have h16 : vs.length ≤ sizeLine := by rw [hl]; exact z
  refine Calls.call_function_entry PyProof.Rows.kind_sorted PyProof.Rows.plain_sorted PyProof.Rows.entry_sorted (PyProof.Rows.args_sorted1 _) ?_
  unfold Builtin.«sorted»
  refine wpAny_bind (m := checkCount "sorted" 1 1 _) (wpAny_pure ?_)
  refine wpAny_bind (PySem.W.kdu_collect (A := X.A.in1) (PySem.W.kdl_dict (knd := mixKind X.prog X.w) (kvs := vs) (ep := ep) lo) (I.ok.hd hcalm) hat h16 fun h' tk acc hk hacc => ?_)
  have hal : acc.toList.length = ds.length := by rw [Array.length_toList, hacc.1, hl, kl]
  have at_ : ∀ (i : Nat) v (b : V × D), acc.toList[i]? = some v → ((kvs.map fun kv => kV kv.1).zip ds)[i]? = some b → ∃ k, keyIs k v = true ∧ b.1 = kV k ∧ keyD b.2 = some k := fun i v b h1 h2 => by
    obtain ⟨k, x, e1, e2⟩ := hacc.2 i v (by rw [← Array.getElem?_toList]; exact h1)
    obtain ⟨g1, g2⟩ := zip_get h2
    have e3 : (vs.map (·.1))[i]? = some k := by rw [List.getElem?_map, e1]; rfl
    rw [hkeys, List.getElem?_map] at e3
    obtain ⟨p, e4, rfl⟩ := Option.map_eq_some_iff.mp e3
    rw [List.getElem?_map, e4] at g1
    refine ⟨p.1, e2, (Option.some.inj g1).symm, kk i p _ e4 g2⟩
  have I1 : Inv X pins σ H { s with heap := h', toks := tk } := I.kept hk
  have hzip : ((kvs.map fun kv => kV kv.1).zip ds).length = ds.length := by rw [List.length_zip, List.length_map, kl, Nat.min_self]
  have hkl : (kvs.map fun kv => kV kv.1).length = ds.length := by rw [List.length_map, kl]
  refine wpAny_bind (wpAny_newList ?_ (by rw [hal, ← kl]; exact z))
  refine wpAny_bind (wpAny_holding (wpAny_mono (sort_tail (A := X.A.in1) (bs := (kvs.map fun kv => kV kv.1).zip ds) (R := fun _ s' => EP X pins σ Q (.ref h'.objs.size) s') I1 (by show X.A.units + 1 + 70 < cLine; omega)
    (each_of (by rw [hzip]; exact hal) fun i v b h1 h2 => ?_) (each_of (by rw [hzip]; exact hal) fun i v b h1 h2 => ?_) (by rw [snd_zip hkl]; exact ok) fun zs p s' hp hm hn I2 ep => ?_) (fun _ s' x => ?_) fun _ _ e => e))
  · obtain ⟨k, g1, g2, g3⟩ := at_ i v b h1 h2
    rw [g2]; exact rel_of_key g1
  · obtain ⟨k, g1, g2, g3⟩ := at_ i v b h1 h2
    exact reads_key g1 g3
  · subst ep
    rw [snd_zip hkl] at hm
    exact ⟨.ref h'.objs.size, _, I2, rfl, q zs _ hp hm hn⟩
  · exact wpAny_pure ⟨_, rfl, x⟩
end
def gSorted : List D → Option R
  | [.lst ds] => if sortOk ds then some (.own (.lst (sortD ds))) else none
  | [.dct false kvs] => if sortOk (keysD' kvs) then some (.own (.lst (sortD (keysD' kvs)))) else none
  | _ => none
def rSortAll (K : PySem.W.Frag) : List V → Hp → VK → Prop := fun xs H Q => rSortDt K xs H Q ∨ rSortKD xs H Q
section
variable {K : PySem.W.Frag} {cA : CA}
theorem call_sortAll {X : Cx} (hc : X.calm = true) (hu : X.A.units + 80 < cLine) : CallR X (.builtin "sorted") (rSortAll X.K) := (call_sortDt (by omega)).or (call_sortKD hc hu)
theorem fit_sorted : FitN K cA (rSortAll K) gSorted := by
  intro Lk φ F Pr w σ H vs ds rr Q Rp rd e k
  match ds, e, rd with
  | [.lst ds], e, rd =>
    simp only [gSorted] at e
    split at e
    · rename_i hz
      cases e
      obtain ⟨v, rfl, h⟩ := rd.one
      obtain ⟨a, ys, rfl, h1, h2⟩ := h.lst Rp
      refine .inl ⟨a, ys, ds, rfl, h1, dps_of Rp h2 (simD_iff (Bool.and_eq_true_iff.mp (Bool.and_eq_true_iff.mp hz).1).1).1, hz, fun zs p hp hm hn => ?_⟩
      have s := shs_perm h2 hp
      rw [hm] at s
      exact sayLst Rp k hn rfl s
    · cases e
  | [.dct false kvs], e, rd =>
    simp only [gSorted] at e
    split at e
    · rename_i hz
      cases e
      obtain ⟨v, rfl, h⟩ := rd.one
      obtain ⟨a, ys, rfl, h1, h2⟩ := h.dct Rp
      refine .inr ⟨a, ys, keysD' kvs, rfl, h1, ⟨by rw [h2.1, keysD', List.length_map], fun i p d g1 g2 => ?_⟩, hz, fun zs p hp hm hn => ?_⟩
      · rw [keysD', List.getElem?_map] at g2
        obtain ⟨q, e1, rfl⟩ := Option.map_eq_some_iff.mp g2
        exact (h2.2 i p q g1 e1).1
      · have s := shs_perm h2.keys hp
        rw [hm] at s
        exact sayLst Rp k hn rfl s
    · cases e
end
end Rf
set_option maxHeartbeats 1000000
/-! Rf16: min, max, sum, dict of lists. -/
namespace Rf
open PySem PySem.Spec L2
open PyProof.Rows hiding St

/-! ### min, max of data -/
def minDD (d : D) (ds : List D) : D := ds.foldl (fun a y => if PySem.W.dataLt y.py a.py then y else a) d
def maxDD (d : D) (ds : List D) : D := ds.foldl (fun a y => if PySem.W.dataLt a.py y.py then y else a) d
theorem minDD_py : ∀ (ds : List D) (d : D), (minDD d ds).py = PySem.W.minD d.py (ds.map D.py)
  | [], d => rfl
  | e :: ds, d => by
    show (minDD (if PySem.W.dataLt e.py d.py then e else d) ds).py = PySem.W.minD (if PySem.W.dataLt e.py d.py then e.py else d.py) (ds.map D.py)
    rw [minDD_py ds]
    split <;> rfl
theorem maxDD_py : ∀ (ds : List D) (d : D), (maxDD d ds).py = PySem.W.maxD d.py (ds.map D.py)
  | [], d => rfl
  | e :: ds, d => by
    show (maxDD (if PySem.W.dataLt d.py e.py then e else d) ds).py = PySem.W.maxD (if PySem.W.dataLt d.py e.py then e.py else d.py) (ds.map D.py)
    rw [maxDD_py ds]
    split <;> rfl
def noNon : D → Bool
  | .non => false
  | _ => true
def cmpOk (ds : List D) : Bool := simD ds && ds.all noNon
def rBestD (K : PySem.W.Frag) (best : D → List D → D) : List V → Hp → VK → Prop := fun vs H Q => ∃ (a : Addr) (xs : List V) (d : D) (ds : List D), vs = [.ref a] ∧ (SqL K H a xs ∨ SqT K H a xs) ∧ DpsD K H xs (d :: ds) ∧ cmpOk (d :: ds) = true ∧
  ∀ (i : Nat) v, xs[i]? = some v → (d :: ds)[i]? = some (best d ds) → Q v H
section
variable {X : Cx}
theorem alikeAll_of {ds : List D} (h : cmpOk ds = true) : PySem.W.AlikeAll (ds.map D.py) := by
  obtain ⟨h1, h2⟩ := Bool.and_eq_true_iff.mp h
  obtain ⟨s1, s2⟩ := simD_iff h1
  refine ⟨fun x hx y hy => ?_, fun x hx => ?_⟩
  · obtain ⟨a, ha, rfl⟩ := List.mem_map.mp hx
    obtain ⟨b, hb, rfl⟩ := List.mem_map.mp hy
    exact s2 a ha b hb
  · obtain ⟨a, ha, rfl⟩ := List.mem_map.mp hx
    have := List.all_eq_true.mp h2 a ha
    cases a <;> simp_all [D.py, noNon]
theorem depthAll_le : ∀ {ds : List D}, (∀ d ∈ ds, shp d = true) → PyData.depthAll (ds.map D.py) ≤ 64
  | [], _ => by simp [PyData.depthAll]
  | d :: ds, h => by
    have h1 := SeqAt.depth_of_shaped (h d List.mem_cons_self)
    have h2 := depthAll_le (ds := ds) fun e he => h e (List.mem_cons_of_mem _ he)
    rw [List.map_cons, PyData.depthAll]
    exact Nat.max_le.mpr ⟨h1, h2⟩
theorem dpAll_map {K : PySem.W.Frag} {H : Hp} {xs : List V} {ds : List D} (h : DpsD K H xs ds) : DpAll K H xs (ds.map D.py) := by
  rw [← D.pys_eq]
  exact dpAll_of h.1 h.2
theorem best_at {h' : Heap} {its : List Value} {xs : List V} {ds : List D} {i : Nat} {u : Value} {bs : List Addr} {b : D} {h : Heap} {as : List Addr} (rv : Vals xs its) (hd : xs.length = ds.length) (rs : ReadsAll h its (ds.map D.py) as) (ke : ∀ b o, h.get? b = some o → h'.get? b = some o) (sim : simD ds = true) (e : its[i]? = some u) (r : Reads h' u b.py bs) (hb : b ∈ ds) :
    ∃ v, xs[i]? = some v ∧ RelV v u ∧ ds[i]? = some b := by
  obtain ⟨s1, s2⟩ := simD_iff sim
  have hi : i < its.length := (List.getElem?_eq_some_iff.mp e).1
  have hl := rv.length
  obtain ⟨x, hx⟩ : ∃ x, xs[i]? = some x := ⟨xs[i]'(by omega), List.getElem?_eq_getElem _⟩
  obtain ⟨d, hdd⟩ : ∃ d, ds[i]? = some d := ⟨ds[i]'(by omega), List.getElem?_eq_getElem _⟩
  obtain ⟨u', e1, e2⟩ := rv.get hx
  rw [e] at e1; cases e1
  obtain ⟨cs, r2, _, _, _⟩ := PySem.W.readsAll_at rs i u e
  have eg : (ds.map D.py).getD i .none = d.py := by simp [List.getD_eq_getElem?_getD, List.getElem?_map, hdd]
  rw [eg] at r2
  have m : d ∈ ds := List.mem_of_getElem? hdd
  have q := PySem.W.alike_unique _ _ u _ _ (s2 d m b hb) (PyProof.Rows.Reads.keeps ke r2) r
  have := py_inj d b (SeqAt.canLay_of_shaped (s1 d m)) q
  exact ⟨x, hx, e2, by rw [hdd, this]⟩
theorem best_mem {f : D → D → Bool} : ∀ (ds : List D) (d : D), ds.foldl (fun a y => if f a y then y else a) d ∈ d :: ds
  | [], d => List.mem_singleton.mpr rfl
  | e :: ds, d => by
    rw [List.foldl_cons]
    have := best_mem (f := f) ds (if f d e then e else d)
    rcases List.mem_cons.mp this with h | h
    · rw [h]; split
      · exact List.mem_cons_of_mem _ List.mem_cons_self
      · exact List.mem_cons_self
    · exact List.mem_cons_of_mem _ (List.mem_cons_of_mem _ h)
theorem call_minD (hc : X.calm = true) (hu : X.A.units + 70 < cLine) : CallR X (.builtin "min") (rBestD X.K minDD) := by
  intro pins s σ H vs us Q I r h
  obtain ⟨a, xs, d, ds, rfl, hs, hd, ok, q⟩ := h
  rw [Vals.ref1 r]
  have sim := (Bool.and_eq_true_iff.mp ok).1
  have dep := depthAll_le (simD_iff sim).1
  have fin : ∀ {its : List Value}, Vals xs its → ∀ {as}, ReadsAll s.heap its ((d :: ds).map D.py) as → ∀ (i : Nat) v h' tk bs, its.toArray[i]? = some v → Reads h' v (PySem.W.minD d.py (ds.map D.py)) bs → (∀ b o, s.heap.get? b = some o → h'.get? b = some o) → EP X pins σ Q v { s with heap := h', toks := tk } := fun {its} rv {as} rs i v h' tk bs e r ke => by
    rw [← minDD_py] at r
    obtain ⟨x, g1, g2, g3⟩ := best_at rv hd.1 rs ke sim (by simpa using e) r (best_mem (f := fun a y => PySem.W.dataLt y.py a.py) ds d)
    exact ⟨x, H, I.kept ke, g2, q i x g1 g3⟩
  rcases hs with hs | hs
  · obtain ⟨its, rv, hl, _⟩ := I.list hs
    obtain ⟨as, rs⟩ := Dp.readsAll I _ _ _ (dpAll_map hd) rv
    exact PySem.W.min_list_data (I.ok.hd hc) hl.isList rs (alikeAll_of ok) (by show _ + PyData.depthAll (List.map D.py (d :: ds)) < _; omega) (fin rv rs)
  · obtain ⟨its, rv, hl, _⟩ := I.tuple hs
    obtain ⟨as, rs⟩ := Dp.readsAll I _ _ _ (dpAll_map hd) rv
    exact PySem.W.min_tuple_data (I.ok.hd hc) hl rs (alikeAll_of ok) (by show _ + PyData.depthAll (List.map D.py (d :: ds)) < _; omega) (fin rv rs)
theorem call_maxD (hc : X.calm = true) (hu : X.A.units + 70 < cLine) : CallR X (.builtin "max") (rBestD X.K maxDD) := by
  intro pins s σ H vs us Q I r h
  obtain ⟨a, xs, d, ds, rfl, hs, hd, ok, q⟩ := h
  rw [Vals.ref1 r]
  have sim := (Bool.and_eq_true_iff.mp ok).1
  have dep := depthAll_le (simD_iff sim).1
  have fin : ∀ {its : List Value}, Vals xs its → ∀ {as}, ReadsAll s.heap its ((d :: ds).map D.py) as → ∀ (i : Nat) v h' tk bs, its.toArray[i]? = some v → Reads h' v (PySem.W.maxD d.py (ds.map D.py)) bs → (∀ b o, s.heap.get? b = some o → h'.get? b = some o) → EP X pins σ Q v { s with heap := h', toks := tk } := fun {its} rv {as} rs i v h' tk bs e r ke => by
    rw [← maxDD_py] at r
    obtain ⟨x, g1, g2, g3⟩ := best_at rv hd.1 rs ke sim (by simpa using e) r (best_mem (f := fun a y => PySem.W.dataLt a.py y.py) ds d)
    exact ⟨x, H, I.kept ke, g2, q i x g1 g3⟩
  rcases hs with hs | hs
  · obtain ⟨its, rv, hl, _⟩ := I.list hs
    obtain ⟨as, rs⟩ := Dp.readsAll I _ _ _ (dpAll_map hd) rv
    exact PySem.W.max_list_data (I.ok.hd hc) hl.isList rs (alikeAll_of ok) (by show _ + PyData.depthAll (List.map D.py (d :: ds)) < _; omega) (fin rv rs)
  · obtain ⟨its, rv, hl, _⟩ := I.tuple hs
    obtain ⟨as, rs⟩ := Dp.readsAll I _ _ _ (dpAll_map hd) rv
    exact PySem.W.max_tuple_data (I.ok.hd hc) hl rs (alikeAll_of ok) (by show _ + PyData.depthAll (List.map D.py (d :: ds)) < _; omega) (fin rv rs)
end
def gBest (best : D → List D → D) (two : Int → Int → Int) : List D → Option R
  | [.lst (d :: ds)] => if cmpOk (d :: ds) then some (.sh (best d ds)) else none
  | [.tup (d :: ds)] => if cmpOk (d :: ds) then some (.sh (best d ds)) else none
  | [.int i, .int j] => some (.sh (.int (two i j)))
  | _ => none
def gMin := gBest minDD fun i j => if j < i then j else i
def gMax := gBest maxDD fun i j => if j > i then j else i
def rBest (K : PySem.W.Frag) (best : D → List D → D) (two : Int → Int → Int) : List V → Hp → VK → Prop := fun xs H Q => rBestD K best xs H Q ∨ ∃ i j, xs = [.int i, .int j] ∧ Q (.int (two i j)) H
theorem call_minAll {X : Cx} (hc : X.calm = true) (hu : X.A.units + 80 < cLine) : CallR X (.builtin "min") (rBest X.K minDD fun i j => if j < i then j else i) := (call_minD hc (by omega)).or (call_min2 hc)
theorem call_maxAll {X : Cx} (hc : X.calm = true) (hu : X.A.units + 80 < cLine) : CallR X (.builtin "max") (rBest X.K maxDD fun i j => if j > i then j else i) := (call_maxD hc (by omega)).or (call_max2 hc)
section
variable {K : PySem.W.Frag} {cA : CA}
theorem fit_best {best : D → List D → D} {two : Int → Int → Int} : FitN K cA (rBest K best two) (gBest best two) := by
  intro Lk φ F Pr w σ H vs ds rr Q Rp rd e k
  match ds, e, rd with
  | [.lst (d :: ds)], e, rd =>
    simp only [gBest] at e
    split at e
    · rename_i hz
      cases e
      obtain ⟨v, rfl, h⟩ := rd.one
      obtain ⟨a, ys, rfl, h1, h2⟩ := h.lst Rp
      exact .inl ⟨a, ys, d, ds, rfl, .inl h1, dps_of Rp h2 (simD_iff (Bool.and_eq_true_iff.mp hz).1).1, hz, fun i v g1 g2 => say Rp k rfl (h2.2 i v _ g1 g2)⟩
    · cases e
  | [.tup (d :: ds)], e, rd =>
    simp only [gBest] at e
    split at e
    · rename_i hz
      cases e
      obtain ⟨v, rfl, h⟩ := rd.one
      obtain ⟨a, ys, rfl, h1, h2⟩ := h.tup Rp
      exact .inl ⟨a, ys, d, ds, rfl, .inr h1, dps_of Rp h2 (simD_iff (Bool.and_eq_true_iff.mp hz).1).1, hz, fun i v g1 g2 => say Rp k rfl (h2.2 i v _ g1 g2)⟩
    · cases e
  | [.int i, .int j], e, rd =>
    cases e
    obtain ⟨v, u, rfl, h, h'⟩ := rd.two
    exact .inr ⟨i, j, by rw [h.int, h'.int], say Rp k rfl (.int _)⟩
end

/-! ### sum of a list -/
def intsD : List D → Option (List Int)
  | [] => some []
  | .int i :: r => (intsD r).map (i :: ·)
  | _ => none
theorem intsD_eq : ∀ {ds : List D} {ns : List Int}, intsD ds = some ns → ds = ns.map .int
  | [], ns, h => by cases h; rfl
  | d :: ds, ns, h => by
    cases d <;> simp [intsD] at h
    obtain ⟨ms, h1, rfl⟩ := h
    rw [intsD_eq h1]; rfl
theorem shs_ints {K : PySem.W.Frag} {φ : List Addr} {F : Hp} : ∀ {vs : List V} {ns : List Int}, Shs K φ F vs (ns.map .int) → vs = ns.map .int
  | vs, [], h => h.nil_r
  | vs, n :: ns, h => by
    obtain ⟨v, r, rfl, h1, h2⟩ := h.cons_r
    rw [h1.int_d, shs_ints h2]; rfl
def gSum : List D → Option R
  | [.lst ds] => (intsD ds).map fun ns => .sh (.int ns.sum)
  | _ => none
section
variable {K : PySem.W.Frag} {cA : CA}
theorem fit_sum : FitN K cA (rSum K) gSum := by
  intro Lk φ F Pr w σ H vs ds rr Q Rp rd e k
  match ds, e, rd with
  | [.lst ds], e, rd =>
    obtain ⟨ns, e1, e2⟩ := Option.map_eq_some_iff.mp e
    obtain ⟨v, rfl, h⟩ := rd.one
    obtain ⟨a, ys, rfl, h1, h2⟩ := h.lst Rp
    rw [intsD_eq e1] at h2
    rw [shs_ints h2] at h1
    exact ⟨a, ns, rfl, h1, say Rp k e2.symm (.int _)⟩
end

/-! ### dict of pairs; a copy -/
def pairD : D → Option (D × D)
  | .tup [k, v] => if (keyD k).isSome then some (k, v) else none
  | _ => none
def pairsD : List D → Option (List (D × D))
  | [] => some []
  | d :: r => (pairD d).bind fun p => (pairsD r).map (p :: ·)
def gDict : List D → Option R
  | [.lst ds] => if sizeOk ds.length then (pairsD ds).map fun kvs => .own (.dct false (mergeD [] kvs)) else none
  | [.dct false kvs] => some (.own (.dct false kvs))
  | _ => none
section
variable {K : PySem.W.Frag} {cA : CA}
theorem pairs_of {Lk : Addr → Option (Obj × HO)} {φ : List Addr} {F Pr : Hp} {w : W} {σ : L2.St} {H : Hp} (Rp : Rep K cA Lk φ F Pr w σ H) : ∀ {vs : List V} {ds : List D} {kvs : List (D × D)}, Shs K φ F vs ds → pairsD ds = some kvs → ∃ ps ks, vs = ps.map V.ref ∧ Paired (fun p (kv : Key × V) => SqT K H p [kV kv.1, kv.2]) ps ks ∧ ShK K φ F ks kvs
  | vs, [], kvs, s, e => by
    cases e
    rw [s.nil_r]
    exact ⟨[], [], rfl, .nil, .nil⟩
  | vs, d :: ds, kvs, s, e => by
    obtain ⟨v, r, rfl, h1, h2⟩ := s.cons_r
    simp only [pairsD] at e
    cases e1 : pairD d with
    | none => rw [e1] at e; cases e
    | some p =>
      rw [e1] at e
      obtain ⟨kr, e2, rfl⟩ := Option.map_eq_some_iff.mp e
      obtain ⟨ps, ks, rfl, g1, g2⟩ := pairs_of Rp h2 e2
      match d, e1, h1 with
      | .tup [k, x], e1, h1 =>
        simp only [pairD] at e1
        cases ek : keyD k with
        | none => rw [ek] at e1; cases e1
        | some key =>
          rw [ek] at e1; cases e1
          obtain ⟨a, xs, rfl, ha, hs⟩ := h1.tup_d
          obtain ⟨v1, r1, rfl, s1, t1⟩ := hs.cons_r
          obtain ⟨v2, r2, rfl, s2, t2⟩ := t1.cons_r
          obtain rfl := t2.nil_r
          have hv : v1 = kV key := by
            cases k <;> simp [keyD] at ek
            · subst ek; exact s1.int_d
            · subst ek; exact s1.str_d
          subst hv
          exact ⟨a :: ps, (key, v2) :: ks, rfl, .cons (Rp.sqT ha) g1, .cons ek s2 g2⟩
def rDictAll (K : PySem.W.Frag) : List V → Hp → VK → Prop := fun xs H Q => (∃ (a : Addr) (ps : List Addr) (kvs : List (Key × V)), xs = [.ref a] ∧ SqL K H a (ps.map V.ref) ∧ Paired (fun p kv => SqT K H p [kV kv.1, kv.2]) ps kvs ∧
    ∀ p, H p = none → Q (.ref p) (upd H p (.dK (mergeK [] kvs)))) ∨ ∃ (a : Addr) (kvs : List (Key × V)), xs = [.ref a] ∧ Rd H a (.dK kvs) ∧ ∀ p, H p = none → Q (.ref p) (upd H p (.dK kvs))
theorem call_dictAll {X : Cx} (hc : X.calm = true) : CallR X (.type "dict") (rDictAll X.K) := (call_dictP hc).or call_dictD
theorem fit_dict : FitN K cA (rDictAll K) gDict := by
  intro Lk φ F Pr w σ H vs ds rr Q Rp rd e k
  match ds, e, rd with
  | [.lst ds], e, rd =>
    simp only [gDict] at e
    split at e
    · obtain ⟨kvs, e1, e2⟩ := Option.map_eq_some_iff.mp e
      obtain ⟨v, rfl, h⟩ := rd.one
      obtain ⟨a, ys, rfl, h1, h2⟩ := h.lst Rp
      obtain ⟨ps, ks, rfl, g1, g2⟩ := pairs_of Rp h2 e1
      exact .inl ⟨a, ps, ks, rfl, h1, g1, fun p hp => sayOwn Rp k hp e2.symm (.dK (g2.merge .nil))⟩
    · cases e
  | [.dct false kvs], e, rd =>
    cases e
    obtain ⟨v, rfl, h⟩ := rd.one
    obtain ⟨a, ys, rfl, h1, h2⟩ := h.dct Rp
    exact .inr ⟨a, ys, rfl, h1, fun p hp => sayOwn Rp k hp rfl (.dK h2)⟩
end
end Rf
set_option maxHeartbeats 1000000
/-! Rf17: a dict's views as values. -/
namespace Rf
open PySem PySem.Spec L2
open PyProof.Rows hiding St

/-- e.items(), e.values(): the view -/
def tView (T : String) (td : TE) : TE := fun σ H Q => td σ H fun x H1 => ∃ a kvs, x = .ref a ∧ Rd H1 a (.dK kvs) ∧ ∀ p, H1 p = none → Q (.ref p) (upd H1 p (viewO T p a))
section
variable {X : Cx} {e : Expr} {td : TE} {apos cpos : Pos}
theorem pe_viewI (he : PE X e td) (hbase : attributeBase e "items" X.env (eval e X.env) = eval e X.env := by rfl) (hline : (apos.endLine == cpos.line) = true := by rfl) : PE X (.Call (.Attribute e "items" apos) [] [] cpos) (tView "dict_items" td) := by
  refine ⟨fun pins s σ H R I h => ?_⟩
  refine wpAny_Call_method (T := "dict") (id := "dict.items") hbase rfl hline F.plainAttrs_dict F.slot_dict_items F.type_dict_items (thn (he.run pins s σ H _ I h) fun u s1 ⟨x, H1, I1, rx, d, kvs, ex, hd, q⟩ => ?_)
  subst ex
  obtain rfl : u = Value.ref d := rx
  obtain ⟨z, hs, vs, rel, dd⟩ := dk_rd I1.hok hd
  refine ⟨dd.typeIs, dd.mapOf.noDict, ?_⟩
  have I2 : Inv X pins σ (upd H1 s1.heap.objs.size (viewO "dict_items" s1.heap.objs.size d)) { s1 with heap := s1.heap.push { cls := .type "dict_items", data := .fields #[.ref d] } } := I1.laid (t' := s1.toks) (fun b ob q => Heap.get?_push_of_some _ q) (Nat.le_refl _) (viewO_ok (Heap.get?_push_size _ rfl))
  show wpAny _ _ (callWith cpos (.builtin "dict.items") [.ref d] [] []) _ X.xe s1
  exact method_meetsIn F.slot_dict_items F.entry_dict_items rfl (PySem.evalArgs_none ⟨rfl, dd.typeIs, F.args_dict_items_1 _, _, meets_dict_items (mixKind X.prog X.w) d hs, ⟨vs, dd⟩, ⟨.ref s1.heap.objs.size, _, I2, rfl, q _ (I1.hok.fresh (Nat.le_refl _))⟩⟩)
theorem pe_viewV (he : PE X e td) (hbase : attributeBase e "values" X.env (eval e X.env) = eval e X.env := by rfl) (hline : (apos.endLine == cpos.line) = true := by rfl) : PE X (.Call (.Attribute e "values" apos) [] [] cpos) (tView "dict_values" td) := by
  refine ⟨fun pins s σ H R I h => ?_⟩
  refine wpAny_Call_method (T := "dict") (id := "dict.values") hbase rfl hline F.plainAttrs_dict F.slot_dict_values F.type_dict_values (thn (he.run pins s σ H _ I h) fun u s1 ⟨x, H1, I1, rx, d, kvs, ex, hd, q⟩ => ?_)
  subst ex
  obtain rfl : u = Value.ref d := rx
  obtain ⟨z, hs, vs, rel, dd⟩ := dk_rd I1.hok hd
  refine ⟨dd.typeIs, dd.mapOf.noDict, ?_⟩
  have I2 : Inv X pins σ (upd H1 s1.heap.objs.size (viewO "dict_values" s1.heap.objs.size d)) { s1 with heap := s1.heap.push { cls := .type "dict_values", data := .fields #[.ref d] } } := I1.laid (t' := s1.toks) (fun b ob q => Heap.get?_push_of_some _ q) (Nat.le_refl _) (viewO_ok (Heap.get?_push_size _ rfl))
  show wpAny _ _ (callWith cpos (.builtin "dict.values") [.ref d] [] []) _ X.xe s1
  exact method_meetsIn F.slot_dict_values F.entry_dict_values rfl (PySem.evalArgs_none ⟨rfl, dd.typeIs, F.args_dict_values_1 _, _, meets_dict_values (mixKind X.prog X.w) d hs, ⟨vs, dd⟩, ⟨.ref s1.heap.objs.size, _, I2, rfl, q _ (I1.hok.fresh (Nat.le_refl _))⟩⟩)
theorem viewV_at {X : Cx} {pins : List (Addr × Obj)} {σ : L2.St} {H : Hp} {s : Shared} {p a : Addr} (I : Inv X pins σ H s) (h : H p = some (viewO "dict_values" p a)) : s.heap.IsValuesView p a := by
  obtain ⟨e, _⟩ := (show ObjOk X.prog X.w H s.heap p (viewO "dict_values" p a) from I.hok p _ h)
  exact ⟨_, e, rfl, rfl⟩
theorem viewI_at {X : Cx} {pins : List (Addr × Obj)} {σ : L2.St} {H : Hp} {s : Shared} {p a : Addr} (I : Inv X pins σ H s) (h : H p = some (viewO "dict_items" p a)) : s.heap.IsItemsView p a := by
  obtain ⟨e, _⟩ := (show ObjOk X.prog X.w H s.heap p (viewO "dict_items" p a) from I.hok p _ h)
  exact ⟨_, e, rfl, rfl⟩
theorem vals_at {xs : List V} {us : List Value} (hl : xs.length = us.length) (h : ∀ (i : Nat) u, us[i]? = some u → ∃ x, xs[i]? = some x ∧ RelV x u) : Vals xs us := by
  induction xs generalizing us with
  | nil =>
    cases us with
    | nil => exact .nil
    | cons u us => simp at hl
  | cons x xs ih =>
    cases us with
    | nil => simp at hl
    | cons u us =>
      obtain ⟨y, h1, h2⟩ := h 0 u rfl
      cases h1
      exact .cons h2 (ih (by simpa using hl) fun i u e => by simpa using h (i + 1) u (by simpa using e))

/-! ### values -/
def rListV : List V → Hp → VK → Prop := fun xs H Q => ∃ (p a : Addr) (kvs : List (Key × V)), xs = [.ref p] ∧ H p = some (viewO "dict_values" p a) ∧ Rd H a (.dK kvs) ∧ ∀ q, H q = none → Q (.ref q) (upd H q (.lst (kvs.map (·.2))))
theorem call_listV (hc : X.calm = true) : CallR X (.type "list") rListV := by
  intro pins s σ H xs us Q I r h
  obtain ⟨p, a, kvs, rfl, hp, ha, q⟩ := h
  obtain rfl := Vals.ref1 r
  obtain ⟨z, hs, vs, rel, dd⟩ := dk_rd I.hok ha
  obtain ⟨ep, hat⟩ := dd.dictAt
  have hl : kvs.length = vs.length := KV.length rel
  refine PySem.W.kdl_call (PySem.W.kdl_values (knd := mixKind X.prog X.w) (kvs := vs) (ep := ep)) (I.ok.hd hc) ⟨viewV_at I hp, hat⟩ (by omega) fun h' tk acc' c' hk hS hacc => ?_
  have hv : Vals (kvs.map (·.2)) acc'.toList := vals_at (by have := hacc.1; simp only [List.length_map, Array.length_toList]; omega) fun i u e => by
    obtain ⟨k, e1⟩ := hacc.2 i u (by rw [← Array.getElem?_toList]; exact e)
    obtain ⟨x, g1, g2⟩ := KV.at' rel e1
    exact ⟨x, by rw [List.getElem?_map, g1]; rfl, g2⟩
  exact ⟨.ref _, upd H s.heap.objs.size (.lst (kvs.map (·.2))), I.laid (t' := tk) hk (Nat.le_refl _) ⟨by rw [List.length_map]; exact z, acc'.toList, c', hv, by simpa using hS⟩, rfl, q _ (I.hok.fresh (Nat.le_refl _))⟩
def rSumV : List V → Hp → VK → Prop := fun xs H Q => ∃ (p a : Addr) (kvs : List (Key × V)) (ns : List Int), xs = [.ref p] ∧ H p = some (viewO "dict_values" p a) ∧ Rd H a (.dK kvs) ∧ kvs.map (·.2) = ns.map V.int ∧ Q (.int ns.sum) H
theorem call_sumV (hc : X.calm = true) : CallR X (.builtin "sum") rSumV := by
  intro pins s σ H xs us Q I r h
  obtain ⟨p, a, kvs, ns, rfl, hp, ha, hn, q⟩ := h
  obtain rfl := Vals.ref1 r
  obtain ⟨z, hs, vs, rel, dd⟩ := dk_rd I.hok ha
  obtain ⟨ep, hat⟩ := dd.dictAt
  have hl : kvs.length = vs.length := KV.length rel
  have hnl : ns.length = vs.length := by
    have := congrArg List.length hn
    simp only [List.length_map] at this
    omega
  have K := PySem.W.kdl_values (prog := X.prog) (w := X.w) (r := p) (knd := mixKind X.prog X.w) (d := a) (kvs := vs) (ep := ep)
  refine call_sum_walkAnyS ?_
  obtain ⟨oI, St, hit, W, st⟩ := K.iter X.A.in1 s (I.ok.hd hc) ⟨viewV_at I hp, hat⟩
  refine hit _ _ ⟨s.heap.objs.size, _, _, _, vs.length, _, _, fun i => ns.getD i 0, rfl, W.toS, st, fun b hb => ?_, fun i v hv => ?_, fun s' t' hm => ?_⟩
  · show b < (s.heap.push oI).objs.size
    rw [size_push']
    rcases List.mem_cons.mp hb with e | hb
    · rw [e]; exact Nat.lt_succ_self _
    · rw [List.mem_singleton.mp hb]; exact Nat.lt_succ_of_lt (K.there _ ⟨viewV_at I hp, hat⟩).2
  · obtain ⟨k, e1⟩ := hv
    obtain ⟨x, g1, g2⟩ := KV.at' rel e1
    have e2 : (kvs.map (·.2))[i]? = some x := by rw [List.getElem?_map, g1]; rfl
    rw [hn, List.getElem?_map] at e2
    obtain ⟨j, hj, rfl⟩ := Option.map_eq_some_iff.mp e2
    obtain ⟨t, rfl⟩ := g2
    exact ⟨t, by simp [List.getD_eq_getElem?_getD, hj]⟩
  · have hk : ∀ b o, s.heap.get? b = some o → s'.heap.get? b = some o := fun b o e =>
      hm.heap b o (fun hI => absurd (Heap.lt_size e) (by rw [List.mem_singleton.mp hI]; exact Nat.lt_irrefl _)) (Heap.get?_push_of_some _ e)
    have eS : ∀ (l : List Int) (n : Nat), n ≤ l.length → preSum (fun i => l.getD i 0) n = (l.take n).sum := fun l n => by
      induction n with
      | zero => intro _; simp [preSum]
      | succ n ih =>
        intro hn
        have hk : n < l.length := by omega
        rw [preSum, ih (by omega), List.take_succ_eq_append_getElem hk, List.sum_append]
        simp [List.getD_eq_getElem?_getD, hk]
    rw [Moved.eq_with hm]
    refine ⟨.int ns.sum, H, I.kept hk, ⟨t', ?_⟩, q⟩
    rw [eS ns vs.length (by omega), ← hnl, List.take_length]

/-! ### items -/
/-- at as stand the pairs of kvs -/
def PairsAt (H H2 : Hp) (as : List Addr) (kvs : List (Key × V)) : Prop := as.length = kvs.length ∧ ∀ (j : Nat) b, as[j]? = some b → H b = none ∧ ∃ k v, kvs[j]? = some (k, v) ∧ H2 b = some (.tup [kV k, v])
def rListI : List V → Hp → VK → Prop := fun xs H Q => ∃ (p a : Addr) (kvs : List (Key × V)), xs = [.ref p] ∧ H p = some (viewO "dict_items" p a) ∧ Rd H a (.dK kvs) ∧
  ∀ (H2 : Hp) (as : List Addr) (l : Addr), H l = none → (∀ b o, upd H l (.lst (as.map V.ref)) b = some o → H2 b = some o) → PairsAt (upd H l (.lst (as.map V.ref))) H2 as kvs → Q (.ref l) H2
theorem nodup_at {as : List Addr} (nd : as.Nodup) {i j : Nat} {b : Addr} (h1 : as[i]? = some b) (h2 : as[j]? = some b) : i = j := by
  exact (List.getElem?_inj (List.getElem?_eq_some_iff.mp h1).1 nd).mp (h1.trans h2.symm)
/-- the pairs are taken -/
theorem take_pairs {pins : List (Addr × Obj)} {σ : L2.St} {H0 H1 : Hp} {s : Shared} {h' : Heap} {tk : Nat} {kvs : List (Key × V)} {vs : List (Key × Value)} {as : List Addr} (I0 : Inv X pins σ H0 s) (I1 : Inv X pins σ H1 { s with heap := h', toks := tk }) (rel : KV kvs vs)
    (hl : as.length = vs.length) (g : PySem.W.KdxG (mixKind X.prog X.w) vs s.heap.objs.size h' as) (hn : ∀ b ∈ as, H1 b = none) : ∃ H2, Inv X pins σ H2 { s with heap := h', toks := tk } ∧ (∀ b o, H1 b = some o → H2 b = some o) ∧ PairsAt H1 H2 as kvs := by
  have nd : as.Nodup := List.Pairwise.imp (fun h => Nat.ne_of_lt h) g.rise
  obtain ⟨H2, I2, ext, q⟩ := L2.DX.takeT (h' := h') (tk := tk) (P := fun a vs => ∃ (j : Nat) (k : Key) (v : V), as[j]? = some a ∧ kvs[j]? = some (k, v) ∧ vs = [kV k, v]) I0 as H1 I1 nd fun a ha => by
    obtain ⟨j, hj⟩ := List.mem_iff_getElem?.mp ha
    obtain ⟨key, k, x, e1, e2, e3⟩ := g.pairs j a hj
    obtain ⟨y, g1, g2⟩ := KV.at' rel e1
    refine ⟨Nat.le_of_lt (g.above a ha), hn a ha, [kV k, y], ⟨j, k, y, hj, g1, rfl⟩, fun H2 => ?_⟩
    exact ⟨by rw [sizeLine_eq]; simp, [key, x], .cons (rel_of_key e2) (.cons g2 .nil), _, e3, rfl, _, rfl⟩
  refine ⟨H2, I2, ext, by rw [hl, KV.length rel], fun j b hj => ?_⟩
  obtain ⟨ws, ⟨i, k, v, h1, h2, rfl⟩, h3⟩ := q b (List.mem_of_getElem? hj)
  have := nodup_at nd h1 hj
  subst this
  exact ⟨hn b (List.mem_of_getElem? hj), k, v, h2, h3⟩
theorem call_listI (hc : X.calm = true) : CallR X (.type "list") rListI := by
  intro pins s σ H xs us Q I r h
  obtain ⟨p, a, kvs, rfl, hp, ha, q⟩ := h
  obtain rfl := Vals.ref1 r
  obtain ⟨z, hs, vs, rel, dd⟩ := dk_rd I.hok ha
  obtain ⟨ep, hat⟩ := dd.dictAt
  have hl : kvs.length = vs.length := KV.length rel
  refine PySem.W.kdx_call (knd := mixKind X.prog X.w) (kvs := vs) (ep := ep) (I.ok.hd hc) (viewI_at I hp) hat (by omega) fun h' tk acc c as hk hS hal g hacc => ?_
  have hz : (as.map V.ref).length ≤ sizeLine := by rw [List.length_map, hal]; omega
  have hv : Vals (as.map V.ref) acc.toList := by
    rw [hacc]
    exact vals_at (by simp) fun i u e => by
      rw [List.getElem?_map] at e ⊢
      obtain ⟨b, hb, rfl⟩ := Option.map_eq_some_iff.mp e
      exact ⟨.ref b, by rw [hb]; rfl, rfl⟩
  have I1 : Inv X pins σ (upd H s.heap.objs.size (.lst (as.map V.ref))) { s with heap := h', toks := tk } := I.laid (t' := tk) hk (Nat.le_refl _) ⟨hz, acc.toList, c, hv, by simpa using hS⟩
  obtain ⟨H2, I2, ext, pa⟩ := take_pairs I I1 rel hal g fun b hb => by
    have h1 := g.above b hb
    rw [upd_ne (Nat.ne_of_gt h1)]
    exact I.hok.fresh (Nat.le_of_lt h1)
  exact ⟨.ref s.heap.objs.size, H2, I2, rfl, q H2 as _ (I.hok.fresh (Nat.le_refl _)) ext pa⟩
/-- sorted(d.items()) -/
def rSortI' (K : PySem.W.Frag) : List V → Hp → VK → Prop := fun xs H Q => ∃ (p a : Addr) (kvs : List (Key × V)) (ds : List (D × D)), xs = [.ref p] ∧ H p = some (viewO "dict_items" p a) ∧ Rd H a (.dK kvs) ∧ (kvs.length = ds.length ∧ ∀ (i : Nat) p q, kvs[i]? = some p → ds[i]? = some q → keyD q.1 = some p.1 ∧ Dp K H p.2 q.2.py) ∧
  sortOk (itemsD ds) = true ∧
  ∀ (H1 : Hp) (as : List Addr) (zs : List (V × D)) (l : Addr), (∀ b o, H b = some o → H1 b = some o) → PairsAt H H1 as kvs → H1 l = none → zs.Perm ((as.map V.ref).zip (itemsD ds)) → zs.map (·.2) = sortD (itemsD ds) → Q (.ref l) (upd H1 l (.lst (zs.map (·.1))))
theorem call_sortI' (hc : X.calm = true) (hu : X.A.units + 80 < cLine) : CallR X (.builtin "sorted") (rSortI' X.K) := by
  intro pins s σ H xs us Q I r h
  obtain ⟨p, a, kvs, ds, rfl, hp, ha, ⟨kl, kk⟩, ok, q⟩ := h
  obtain rfl := Vals.ref1 r
  obtain ⟨z, hs, vs, rel, dd⟩ := dk_rd I.hok ha
  obtain ⟨ep, hat⟩ := dd.dictAt
  have hl : kvs.length = vs.length := KV.length rel
  have hil : (itemsD ds).length = ds.length := by simp [itemsD]
  refine Calls.call_function_entry PyProof.Rows.kind_sorted PyProof.Rows.plain_sorted PyProof.Rows.entry_sorted (PyProof.Rows.args_sorted1 _) ?_
  unfold Builtin.«sorted»
  refine wpAny_bind (m := checkCount "sorted" 1 1 _) (wpAny_pure ?_)
  refine wpAny_bind (PySem.W.kdx_collect (A := X.A.in1) (knd := mixKind X.prog X.w) (kvs := vs) (ep := ep) (I.ok.hd hc) (viewI_at I hp) hat (by omega) fun h' tk as hk hal g => ?_)
  have I0 : Inv X pins σ H { s with heap := h', toks := tk } := I.kept hk
  obtain ⟨H1, I1, ext, pa⟩ := take_pairs I I0 rel hal g fun b hb => I.hok.fresh (Nat.le_of_lt (g.above b hb))
  have hzl : (as.map V.ref).length = (itemsD ds).length := by rw [List.length_map, hil]; omega
  have hzip : ((as.map V.ref).zip (itemsD ds)).length = as.length := by rw [List.length_zip, hzl, Nat.min_self, hil]; omega
  refine wpAny_bind (wpAny_newList ?_ (by rw [List.length_map]; omega))
  refine wpAny_bind (wpAny_holding (wpAny_mono (sort_tail (A := X.A.in1) (bs := (as.map V.ref).zip (itemsD ds)) (R := fun _ s' => EP X pins σ Q (.ref h'.objs.size) s') I1 (by show X.A.units + 1 + 70 < cLine; omega)
    (each_of (by rw [hzip, List.length_map]) fun i v b h1 h2 => ?_) (each_of (by rw [hzip, List.length_map]) fun i v b h1 h2 => ?_) (by rw [snd_zip hzl]; exact ok) fun zs p s' hp hm hn I2 ep => ?_) (fun _ s' x => ?_) fun _ _ e => e))
  · obtain ⟨g1, g2⟩ := zip_get h2
    rw [List.getElem?_map] at h1 g1
    obtain ⟨c, e1, rfl⟩ := Option.map_eq_some_iff.mp h1
    rw [e1] at g1
    rw [← Option.some.inj g1]
    rfl
  · obtain ⟨g1, g2⟩ := zip_get h2
    rw [List.getElem?_map] at h1 g1
    obtain ⟨c, e1, rfl⟩ := Option.map_eq_some_iff.mp h1
    obtain ⟨key, k, x, f1, f2, f3⟩ := g.pairs i c e1
    obtain ⟨y, y1, y2⟩ := KV.at' rel f1
    rw [itemsD, List.getElem?_map] at g2
    obtain ⟨dd, e3, e4⟩ := Option.map_eq_some_iff.mp g2
    obtain ⟨k1, k2⟩ := kk i (k, y) dd y1 e3
    obtain ⟨as1, r1⟩ := reads_key (h := h') f2 k1
    obtain ⟨as2, r2⟩ := Dp.reads I _ _ _ k2 y2
    refine ⟨as1 ++ (as2 ++ []), ?_⟩
    rw [← e4]
    show Reads h' (.ref c) (.tuple [dd.1.py, dd.2.py]) _
    exact .tuple f3 rfl rfl (.cons r1 (.cons (PyProof.Rows.Reads.keeps hk r2) .nil))
  · subst ep
    rw [snd_zip hzl] at hm
    exact ⟨.ref h'.objs.size, _, I2, rfl, q H1 as zs _ ext pa hn hp hm⟩
  · exact wpAny_pure ⟨_, rfl, x⟩
end
end Rf
set_option maxHeartbeats 1000000
/-! Rf18: views by data; dicts changed; fields written. -/
namespace Rf
open PySem PySem.Spec L2
open PyProof.Rows hiding St

section
variable {K : PySem.W.Frag} {cA : CA} {Lk : Addr → Option (Obj × HO)} {φ : List Addr} {F Pr H H2 : Hp} {w : W} {σ : L2.St}
/-- new tuples are frozen -/
theorem Rep.grabs (R : Rep K cA Lk φ F Pr w σ H) (ext : ∀ b o, H b = some o → H2 b = some o) (as : List Addr) (ha : ∀ b ∈ as, H b = none ∧ ∃ xs, H2 b = some (.tup xs)) : ∃ F2, Le F F2 ∧ Rep K cA Lk φ F2 Pr w σ H2 ∧ ∀ b ∈ as, F2 b = H2 b := by
  have nF : ∀ b o, F b = some o → b ∉ as := fun b o e m => by
    obtain ⟨u, hu⟩ := rd_some (R.fz b o e).1.rd
    rw [(ha b m).1] at hu; cases hu
  have nH : ∀ b o, H b = some o → b ∉ as := fun b o e m => by rw [(ha b m).1] at e; cases e
  have eF : ∀ b, b ∉ as → (if b ∈ as then H2 b else F b) = F b := fun b m => if_neg m
  have l : Le F (fun b => if b ∈ as then H2 b else F b) := fun b o e => by
    show (if b ∈ as then H2 b else F b) = _
    rw [eF b (nF b o e)]; exact e
  have same : ∀ b o, H b = some o → H2 b = H b := fun b o e => by rw [e]; exact ext b o e
  refine ⟨fun b => if b ∈ as then H2 b else F b, l, ⟨R.len, fun a od e => ext _ _ (R.lkh a od e), fun b o e => ?_, fun b o e => ext _ _ (R.pr b o e), R.plen, fun n b o e1 e2 => ?_, fun n b e => ?_, R.pnd, fun i s e => ?_, R.inj, fun t ht => ?_⟩, fun b m => if_pos m⟩
  · have e' : (if b ∈ as then H2 b else F b) = some o := e
    by_cases m : b ∈ as
    · rw [if_pos m] at e'
      have hn := (ha b m).1
      refine ⟨.inl ⟨R.lkNew hn, e'⟩, ?_⟩
      cases q : Pr b with
      | none => rfl
      | some u => have := R.pr _ _ q; rw [hn] at this; cases this
    · rw [if_neg m] at e'
      obtain ⟨h1, h2⟩ := R.fz b o e'
      refine ⟨?_, h2⟩
      rcases h1 with ⟨z1, z2⟩ | ⟨z0, od, z1, z2⟩
      · exact .inl ⟨z1, ext _ _ z2⟩
      · exact .inr ⟨z0, od, z1, ext _ _ z2⟩
  · obtain ⟨u, hu⟩ := R.obSome e1
    exact (R.ob n b o e1 e2).step l (Pf.refl _) (fun z => z) (same b u hu)
  · obtain ⟨u, hu⟩ := R.obSome e
    refine ⟨?_, (R.of n b e).2⟩
    show (if b ∈ as then H2 b else F b) = none
    rw [eF b (nH b u hu)]; exact (R.of n b e).1
  · obtain ⟨v, h1, h2⟩ := R.sl i s e
    refine ⟨v, h1, ?_⟩
    cases s with
    | sh d => exact h2.le l (Pf.refl _)
    | own c =>
      obtain ⟨a, u, rfl, h3, h4, h5, h6, h7⟩ := h2
      refine ⟨a, u, rfl, ext _ _ h3, h4.le l (Pf.refl _), ?_, h6, h7⟩
      show (if a ∈ as then H2 a else F a) = none
      rw [eF a (nH a u h3)]; exact h5
  · obtain ⟨⟨ps, h1, h2, h3⟩, h4, h5⟩ := R.tab t ht
    refine ⟨⟨ps, ext _ _ h1, h2, fun p cv g1 g2 => ?_⟩, ?_, h5⟩
    · obtain ⟨c, e1, e2⟩ := h3 p cv g1 g2
      exact ⟨c, e1, ext _ _ e2⟩
    · show (if t.P ∈ as then H2 t.P else F t.P) = none
      rw [eF _ (nH _ _ h1)]; exact h4
theorem pairs_shs {as : List Addr} {ks : List (Key × V)} {ds : List (D × D)} {F2 : Hp} (pa : PairsAt H H2 as ks) (s : ShK K φ F ks ds) (l : Le F F2) (hf : ∀ b ∈ as, F2 b = H2 b) : Shs K φ F2 (as.map V.ref) (itemsD ds) := by
  refine ⟨by rw [List.length_map, itemsD, List.length_map, pa.1, s.1], fun i v d h1 h2 => ?_⟩
  rw [List.getElem?_map] at h1
  rw [itemsD, List.getElem?_map] at h2
  obtain ⟨b, hb, rfl⟩ := Option.map_eq_some_iff.mp h1
  obtain ⟨q, hq, rfl⟩ := Option.map_eq_some_iff.mp h2
  obtain ⟨hn, k, x, e1, e2⟩ := pa.2 i b hb
  obtain ⟨g1, g2⟩ := s.2 i _ _ e1 hq
  refine Sh.mk_tup (vs := [kV k, x]) (.inl ((hf b (List.mem_of_getElem? hb)).trans e2)) (.cons (kV_sh g1) (.cons (g2.le l (Pf.refl _)) .nil))
end

/-! ### views -/
def rOnView (T : String) (r : List V → Hp → VK → Prop) : V → Hp → VK → Prop := fun x H Q => ∃ a kvs, x = .ref a ∧ Rd H a (.dK kvs) ∧ ∀ p, H p = none → r [.ref p] (upd H p (viewO T p a)) Q
def gListI : D → Option R
  | .dct false kvs => if sizeOk kvs.length then some (.own (.lst (itemsD kvs))) else none
  | _ => none
def gListV : D → Option R
  | .dct false kvs => some (.own (.lst (valsD kvs)))
  | _ => none
def gSumV : D → Option R
  | .dct false kvs => (intsD (valsD kvs)).map fun ns => .sh (.int ns.sum)
  | _ => none
def gSortI : D → Option R
  | .dct false kvs => if sortOk (itemsD kvs) then some (.own (.lst (sortD (itemsD kvs)))) else none
  | _ => none
section
variable {K : PySem.W.Frag} {cA : CA}
theorem fit_listV : Fit1 K cA (rOnView "dict_values" rListV) gListV := by
  intro Lk φ F Pr w σ H v1 d1 rr Q Rp h e k
  match d1, e, h with
  | .dct false kvs, e, h =>
    cases e
    obtain ⟨a, ks, rfl, h1, h2⟩ := h.dct Rp
    refine ⟨a, ks, rfl, h1, fun p hp => ?_⟩
    have R1 := Rp.newAny (o := viewO "dict_values" p a) hp
    exact ⟨p, a, ks, rfl, upd_same, rd_upd h1 (rd_ne h1 hp), fun q hq => sayLst R1 k hq rfl h2.vals⟩
theorem fit_sumV : Fit1 K cA (rOnView "dict_values" rSumV) gSumV := by
  intro Lk φ F Pr w σ H v1 d1 rr Q Rp h e k
  match d1, e, h with
  | .dct false kvs, e, h =>
    obtain ⟨ns, e1, e2⟩ := Option.map_eq_some_iff.mp e
    obtain ⟨a, ks, rfl, h1, h2⟩ := h.dct Rp
    refine ⟨a, ks, rfl, h1, fun p hp => ?_⟩
    have R1 := Rp.newAny (o := viewO "dict_values" p a) hp
    have hv := h2.vals
    have ev : kvs.map (·.2) = ns.map .int := intsD_eq e1
    rw [ev] at hv
    exact ⟨p, a, ks, ns, rfl, upd_same, rd_upd h1 (rd_ne h1 hp), shs_ints hv, say R1 k e2.symm (.int _)⟩
theorem fit_listI : Fit1 K cA (rOnView "dict_items" rListI) gListI := by
  intro Lk φ F Pr w σ H v1 d1 rr Q Rp h e k
  match d1, e, h with
  | .dct false kvs, e, h =>
    simp only [gListI] at e
    split at e
    · cases e
      obtain ⟨a, ks, rfl, h1, h2⟩ := h.dct Rp
      refine ⟨a, ks, rfl, h1, fun p hp => ?_⟩
      have R1 := Rp.newAny (o := viewO "dict_items" p a) hp
      refine ⟨p, a, ks, rfl, upd_same, rd_upd h1 (rd_ne h1 hp), fun H2 as l hl ext pa => ?_⟩
      have R2 := R1.pend (o := .lst (as.map V.ref)) hl
      obtain ⟨F2, l2, R3, hf⟩ := R2.grabs ext as fun b hb => by
        obtain ⟨j, hj⟩ := List.mem_iff_getElem?.mp hb
        obtain ⟨g1, k, v, _, g2⟩ := pa.2 j b hj
        exact ⟨g1, _, g2⟩
      exact k _ _ F2 _ l2 (Le.new (R1.fresh hl).2.1) R3 ⟨l, _, rfl, (R1.fresh hl).2.1, upd_same, .lst (pairs_shs pa h2 l2 hf)⟩
    · cases e
theorem fit_sortI : Fit1 K cA (rOnView "dict_items" (rSortI' K)) gSortI := by
  intro Lk φ F Pr w σ H v1 d1 rr Q Rp h e k
  match d1, e, h with
  | .dct false kvs, e, h =>
    simp only [gSortI] at e
    split at e
    · rename_i hz
      cases e
      obtain ⟨a, ks, rfl, h1, h2⟩ := h.dct Rp
      refine ⟨a, ks, rfl, h1, fun p hp => ?_⟩
      have R1 := Rp.newAny (o := viewO "dict_items" p a) hp
      have sim := simD_iff (Bool.and_eq_true_iff.mp (Bool.and_eq_true_iff.mp hz).1).1
      refine ⟨p, a, ks, kvs, rfl, upd_same, rd_upd h1 (rd_ne h1 hp), ⟨h2.1, fun i p q g1 g2 => ⟨(h2.2 i p q g1 g2).1, ?_⟩⟩, hz, fun H1 as zs l ext pa hl hp hm => ?_⟩
      · have m : D.tup [q.1, q.2] ∈ itemsD kvs := List.mem_map.mpr ⟨q, List.mem_of_getElem? g2, rfl⟩
        have c := SeqAt.canLay_of_shaped (sim.1 _ m)
        have c2 : q.2.py.canLay0 = true := by
          simp [D.py, D.pys, PyData.canLay0, PyData.canLayAll0] at c
          exact c.2
        exact sh_dp R1 (h2.2 i p q g1 g2).2 c2
      · obtain ⟨F2, l2, R3, hf⟩ := R1.grabs ext as fun b hb => by
          obtain ⟨j, hj⟩ := List.mem_iff_getElem?.mp hb
          obtain ⟨g1, k, v, _, g2⟩ := pa.2 j b hj
          exact ⟨g1, _, g2⟩
        have s := shs_perm (pairs_shs pa h2 l2 hf) hp
        rw [hm] at s
        exact sayLst R3 (fun v H' F' Pr2 l3 q3 R4 rv => k v H' F' Pr2 (l2.trans l3) q3 R4 rv) hl rfl s
    · cases e
end

/-! ### d[k] = v, d.pop(k), d.get(k, v), del d[k] -/
/-- the dict that a result names, with a new one in its place -/
def setD (w : W) (r : R) (t : Bool) (kvs : List (D × D)) : Option W := match r with
  | .sh (.obj n) => (match w.st[n]? with
    | some (.dct t' _) => if t' = t ∧ n ∉ w.lk then some { w with st := w.st.set n (.dct t kvs) } else none
    | _ => none)
  | .bor i => (match w.env[i]? with
    | some (some (.own (.dct t' _))) => if t' = t then some { w with env := w.env.set i (some (.own (.dct t kvs))) } else none
    | some (some (.sh (.obj n))) => (match w.st[n]? with
      | some (.dct t' _) => if t' = t ∧ n ∉ w.lk then some { w with st := w.st.set n (.dct t kvs) } else none
      | _ => none)
    | _ => none)
  | _ => none
section
variable {K : PySem.W.Frag} {cA : CA} {Lk : Addr → Option (Obj × HO)} {φ : List Addr} {F Pr Pr2 H : Hp} {w w' : W} {σ : L2.St} {v : V} {r : R}
/-- a dict that may be changed: where it stands; what is put there -/
theorem setD_at {kvs ds : List (D × D)} (R : Rep K cA Lk φ F Pr2 w σ H) (rv : RV K φ F Pr Pr2 σ v r) (ed : r.d w = some (.dct false kvs)) (e : setD w r false ds = some w') :
    ∃ a ks, v = .ref a ∧ H a = some (.dK ks) ∧ ShK K φ F ks kvs ∧ ∀ ks', ShK K φ F ks' ds → Rep K cA Lk φ F Pr2 w' σ (upd H a (.dK ks')) := by
  have objc : ∀ {n : Nat} {a : Addr}, φ[n]? = some a → deref w (.obj n) = .dct false kvs → (match w.st[n]? with
      | some (.dct t' _) => if t' = false ∧ n ∉ w.lk then some { w with st := w.st.set n (.dct false ds) } else none
      | _ => none) = some w' → ∃ ks, H a = some (.dK ks) ∧ ShK K φ F ks kvs ∧ ∀ ks', ShK K φ F ks' ds → Rep K cA Lk φ F Pr2 w' σ (upd H a (.dK ks')) := fun {n a} ea ed e => by
    simp only [deref] at ed
    cases e2 : w.st[n]? with
    | none => rw [e2] at e; cases e
    | some ob =>
      rw [e2] at e ed
      cases ob with
      | ins C fs => cases e
      | lst xs => cases e
      | dct t kv =>
        simp only at e
        by_cases hz : t = false ∧ n ∉ w.lk
        case neg => rw [if_neg hz] at e; cases e
        rw [if_pos hz] at e
        cases e
        injection ed with _ ed2
        subst ed2
        obtain ⟨rfl, hn⟩ := hz
        obtain ⟨ho, g1, g2, g3⟩ := R.ob n a _ ea e2
        have hl : Lk a = none := by
          cases q : Lk a with
          | none => rfl
          | some od => exact absurd (g3 (by rw [q]; exact fun z => nomatch z)) hn
        cases g1 with
        | dK s =>
          rcases g2 with ⟨_, z⟩ | ⟨_, od, z, _⟩
          · refine ⟨_, z, s, fun ks' s' => ?_⟩
            have := R.mutOb (o' := .dK ks') (ob' := .dct false ds) ea hl ⟨.dK ks', .dK s', .inl ⟨hl, upd_same⟩, fun z => absurd hl z⟩
            exact this
          · rw [hl] at z; cases z
  cases r with
  | own c => cases e
  | sh d =>
    cases d with
    | obj n =>
      obtain ⟨a, rfl, ea⟩ := Sh.obj_d rv
      obtain ⟨ks, h1, h2, h3⟩ := objc ea (Option.some.inj ed) e
      exact ⟨a, ks, rfl, h1, h2, h3⟩
    | _ => cases e
  | bor i =>
    have hv : σ[i]? = some (some v) := rv
    simp only [setD] at e
    simp only [Rf.R.d] at ed
    cases q : w.env[i]? with
    | none => rw [q] at e; cases e
    | some s =>
      rw [q] at e ed
      cases s with
      | none => cases e
      | some s =>
        obtain ⟨v', g1, g2⟩ := R.sl i s q
        rw [hv] at g1; cases g1
        cases s with
        | sh d =>
          cases d with
          | obj n =>
            obtain ⟨a, rfl, ea⟩ := Sh.obj_d g2
            obtain ⟨ks, h1, h2, h3⟩ := objc ea (Option.some.inj ed) e
            exact ⟨a, ks, rfl, h1, h2, h3⟩
          | _ => cases e
        | own c =>
          cases c with
          | dct t kv =>
            simp only at e ed
            cases ed
            simp only [if_true] at e
            cases e
            obtain ⟨a, o, rfl, h3, h4, h5, h6, h7⟩ := g2
            cases h4 with
            | dK s =>
              refine ⟨a, _, rfl, h3, s, fun ks' s' => ?_⟩
              exact R.mutSlot (c' := .dct false ds) q hv (.dK s')
          | _ => cases e
end
end Rf
set_option maxHeartbeats 1000000
/-! Rf19: what changes: subscripts, pops, fields, augmented. -/
namespace Rf
open PySem PySem.Spec L2
open PyProof.Rows hiding St

/-! ### a container in its place -/
/-- the container that a result names, with c in its place -/
def setOb (w : W) (n : Nat) (c : D) : Option W := match w.st[n]?, c with
  | some (.dct t' _), .dct t kvs => if t' = t ∧ n ∉ w.lk then some { w with st := w.st.set n (.dct t kvs) } else none
  | some (.lst _), .lst xs => some { w with st := w.st.set n (.lst xs) }
  | _, _ => none
def sameK : D → D → Bool
  | .lst _, .lst _ => true
  | .dct t _, .dct u _ => t == u
  | _, _ => false
def setC (w : W) (r : R) (c : D) : Option W := match r with
  | .sh (.obj n) => setOb w n c
  | .bor i => (match w.env[i]? with
    | some (some (.own c0)) => if sameK c0 c then some { w with env := w.env.set i (some (.own c)) } else none
    | some (some (.sh (.obj n))) => setOb w n c
    | _ => none)
  | _ => none
section
variable {K : PySem.W.Frag} {cA : CA} {Lk : Addr → Option (Obj × HO)} {φ : List Addr} {F Pr Pr2 H : Hp} {w w' : W} {σ : L2.St} {v : V} {r : R}
theorem setOb_at {n : Nat} {a : Addr} {c0 c : D} (R : Rep K cA Lk φ F Pr2 w σ H) (ea : φ[n]? = some a) (ed : deref w (.obj n) = c0) (e : setOb w n c = some w') :
    ∃ o, H a = some o ∧ CR K φ F o c0 ∧ ∀ o', CR K φ F o' c → Rep K cA Lk φ F Pr2 w' σ (upd H a o') := by
  simp only [deref] at ed
  unfold setOb at e
  cases e2 : w.st[n]? with
  | none => rw [e2] at e; cases e
  | some ob =>
    rw [e2] at e ed
    cases ob with
    | ins C fs => cases e
    | lst xs =>
      cases c with
      | lst ys =>
        cases e
        subst ed
        obtain ⟨ho, g1, g2, g3⟩ := R.ob n a _ ea e2
        refine ⟨ho, g3, g1, fun o' h' => ?_⟩
        cases h' with
        | lst s' => exact R.mutOb (o' := .lst _) (ob' := .lst ys) ea g2 ⟨.lst _, .lst s', g2, upd_same⟩
      | _ => cases e
    | dct t kv =>
      cases c with
      | dct u ds =>
        simp only at e
        by_cases hz : t = u ∧ n ∉ w.lk
        case neg => rw [if_neg hz] at e; cases e
        rw [if_pos hz] at e
        cases e
        subst ed
        obtain ⟨rfl, hn⟩ := hz
        obtain ⟨ho, g1, g2, g3⟩ := R.ob n a _ ea e2
        have hl : Lk a = none := by
          cases q : Lk a with
          | none => rfl
          | some od => exact absurd (g3 (by rw [q]; exact fun z => nomatch z)) hn
        rcases g2 with ⟨_, z⟩ | ⟨_, od, z, _⟩
        · exact ⟨ho, z, g1, fun o' h' => R.mutOb (o' := o') (ob' := .dct t ds) ea hl ⟨o', h', .inl ⟨hl, upd_same⟩, fun z => absurd hl z⟩⟩
        · rw [hl] at z; cases z
      | _ => cases e
theorem setC_at {c0 c : D} (R : Rep K cA Lk φ F Pr2 w σ H) (rv : RV K φ F Pr Pr2 σ v r) (ed : Rf.R.d w r = some c0) (e : setC w r c = some w') :
    ∃ a o, v = .ref a ∧ H a = some o ∧ CR K φ F o c0 ∧ ∀ o', CR K φ F o' c → Rep K cA Lk φ F Pr2 w' σ (upd H a o') := by
  cases r with
  | own c => cases e
  | sh d =>
    cases d with
    | obj n =>
      obtain ⟨a, rfl, ea⟩ := Sh.obj_d rv
      obtain ⟨o, h1, h2, h3⟩ := setOb_at R ea (Option.some.inj ed) e
      exact ⟨a, o, rfl, h1, h2, h3⟩
    | _ => cases e
  | bor i =>
    have hv : σ[i]? = some (some v) := rv
    simp only [setC] at e
    simp only [Rf.R.d] at ed
    cases q : w.env[i]? with
    | none => rw [q] at e; cases e
    | some s =>
      rw [q] at e ed
      cases s with
      | none => cases e
      | some s =>
        obtain ⟨v', g1, g2⟩ := R.sl i s q
        rw [hv] at g1; cases g1
        cases s with
        | sh d =>
          cases d with
          | obj n =>
            obtain ⟨a, rfl, ea⟩ := Sh.obj_d g2
            obtain ⟨o, h1, h2, h3⟩ := setOb_at R ea (Option.some.inj ed) e
            exact ⟨a, o, rfl, h1, h2, h3⟩
          | _ => cases e
        | own c1 =>
          simp only at e ed
          cases ed
          by_cases hs : sameK c0 c = true
          case neg => rw [if_neg hs] at e; cases e
          rw [if_pos hs] at e
          cases e
          obtain ⟨a, o, rfl, h3, h4, h5, h6, h7⟩ := g2
          exact ⟨a, o, rfl, h3, h4, fun o' h' => R.mutSlot (c' := c) q hv h'⟩
end

/-! ### o[i] = v -/
def sizeLt (n : Nat) : Bool := Nat.blt n 16777216
theorem sizeLt_lt {n : Nat} (h : sizeLt n = true) : n < sizeLine := by
  have : n ≤ 16777215 := by simpa [sizeLt, Nat.blt] using h
  rw [sizeLine_eq]; omega
def putAt (c k v : D) : Option D := match c, k with
  | .lst xs, .int i => (ixN xs.length i).map fun j => .lst (xs.set j v)
  | .dct false kvs, k => if (keyD k).isSome && sizeLt kvs.length then some (.dct false (putD kvs k v)) else none
  | _, _ => none
/-- tv; to; ti; o[i] = v -/
def sPut (mo mi mv : ME) : MS := fun w => (mv w).bind fun rv w1 => (mo w1).bind fun ro w2 => (mi w2).bind fun ri w3 => match rv, ro.d w3, ri.d w3 with
  | .sh d, some c, some k => (match (putAt c k d).bind (setC w3 ro) with
    | some w4 => .ok .nx w4
    | none => .no)
  | _, _, _ => .no
def rSetAll : TSet := fun o i v H Q => rSetL o i v H Q ∨ rSetD o i v H Q
theorem set_all {X : Cx} (hu : X.A.units + 1 < cLine) : PSet X rSetAll := fun pins s σ H o i v ov iv u Q I ro ri rv h => h.elim (set_list pins s σ H o i v ov iv u Q I ro ri rv) (set_dict hu pins s σ H o i v ov iv u Q I ro ri rv)
section
variable {K : PySem.W.Frag} {cA : CA} {Wd : WX} {H : Hp} {σ : L2.St} {E : Ends}
theorem put_at {Lk : Addr → Option (Obj × HO)} {φ : List Addr} {F Pr Pr2 : Hp} {w w' : W} {vo vi v : V} {ro : R} {c k d c' : D} {Q : Hp → Prop} (Rp : Rep K cA Lk φ F Pr2 w σ H) (ho : RV K φ F Pr Pr2 σ vo ro) (hi : Rdv K Lk φ F H vi k) (hv : Sh K φ F v d)
    (ec : Rf.R.d w ro = some c) (ep : putAt c k d = some c') (es : setC w ro c' = some w') (hk : ∀ H', Rep K cA Lk φ F Pr2 w' σ H' → Q H') : rSetAll vo vi v H Q := by
  obtain ⟨a, o, rfl, h1, h2, h3⟩ := setC_at Rp ho ec es
  cases c with
  | lst xs =>
    cases k <;> simp only [putAt] at ep <;> try (cases ep; done)
    obtain ⟨j, e1, rfl⟩ := Option.map_eq_some_iff.mp ep
    cases h2 with
    | lst s =>
      exact .inl ⟨a, _, _, j, rfl, hi.int, h1, by rw [s.1]; exact e1, hk _ (h3 _ (.lst (s.set j hv)))⟩
  | dct t kvs =>
    cases t with
    | true => simp [putAt] at ep
    | false =>
      simp only [putAt] at ep
      split at ep
      · rename_i hz
        cases ep
        obtain ⟨hz1, hz2⟩ := Bool.and_eq_true_iff.mp hz
        obtain ⟨key, ek⟩ := Option.isSome_iff_exists.mp hz1
        cases h2 with
        | dK s => exact .inr ⟨a, _, rfl, .inl ⟨_, key, h1, hi.keyV ek, by rw [s.1]; exact sizeLt_lt hz2, rfl⟩, hk _ (h3 _ (.dK (s.put ek hv)))⟩
      · cases ep
  | _ => simp [putAt] at ep
theorem rd_sput {mo mi mv : ME} (h : tMS K cA Wd (sPut mo mi mv) E σ H) : tAsg (tM K cA Wd mv) (L2.gSub (tM K cA Wd mo) (tM K cA Wd mi) rSetAll) E σ H := by
  obtain ⟨Lk, φ, F, Pr, w, R0, h⟩ := h
  refine rd_do (f := _) (fun v H1 φ1 F1 Pr1 rv w1 l1 p1 lp1 R1 rvv h => ?_) R0 h
  have h := MSP.step l1 p1 (Le.refl _) h
  refine tM_of R1 ?_
  cases e2 : mo w1 with
  | no => rw [e2] at h; exact h
  | ex x w2 => rw [e2] at h; exact fun cls dx H' φ' F' Pr2 l p lp R xr => h cls dx σ H' φ' F' l p (R.weak (lp1.trans lp)) xr
  | ok ro w2 =>
    rw [e2] at h
    intro vo H2 φ2 F2 Pr2 l2 p2 lp2 R2 rvo
    have h := MSP.step l2 p2 (Le.refl _) h
    refine tM_of R2 ?_
    simp only [Res.bind] at h
    cases e3 : mi w2 with
    | no => rw [e3] at h; exact h
    | ex x w3 => rw [e3] at h; exact fun cls dx H' φ' F' Pr3 l p lp R xr => h cls dx σ H' φ' F' l p (R.weak ((lp1.trans lp2).trans lp)) xr
    | ok ri w3 =>
      rw [e3] at h
      intro vi H3 φ3 F3 Pr3 l3 p3 lp3 R3 rvi
      have h := MSP.step l3 p3 (Le.refl _) h
      simp only at h
      cases rv with
      | own d => exact h.elim
      | bor d => exact h.elim
      | sh d =>
        cases g1 : Rf.R.d w3 ro with
        | none => rw [g1] at h; exact h.elim
        | some c =>
          cases g2 : Rf.R.d w3 ri with
          | none => rw [g1, g2] at h; exact h.elim
          | some k =>
            rw [g1, g2] at h
            simp only at h
            cases g3 : putAt c k d with
            | none => rw [g3] at h; exact h.elim
            | some c' =>
              rw [g3] at h
              simp only [Option.bind_some] at h
              cases g4 : setC w3 ro c' with
              | none => rw [g4] at h; exact h.elim
              | some w4 =>
                rw [g4] at h
                exact put_at R3 (rvo.le l3 p3 lp3) (rdv_of R3 rvi g2) (Sh.le (l2.trans l3) (p2.trans p3) rvv) g1 g3 g4 fun H' R4 => h σ H' φ3 F3 (Le.refl _) (Pf.refl _) (R4.weak ((lp1.trans lp2).trans lp3))

/-! ### d.get, d.pop, {} -/
def isDct : Option D → Bool
  | some (.dct false _) => true
  | _ => false
def eDNew : ME := fun w => .ok (.own (.dct false [])) w
def eDGet2 (md mk mx : ME) : ME := fun w => (md w).bind fun rd w1 => if isDct (rd.d w1) then (mk w1).bind fun rk w2 => (mx w2).bind fun rx w3 => match rd.d w3, rk.d w3 with
  | some (.dct false kvs), some k => if (keyD k).isSome then (match lookD kvs k with
    | some v => .ok (.sh v) w3
    | none => .ok rx w3) else .no
  | _, _ => .no else .no
def eDPop1 (md mk : ME) : ME := fun w => (md w).bind fun rd w1 => if isDct (rd.d w1) then (mk w1).bind fun rk w2 => match rd.d w2, rk.d w2 with
  | some (.dct false kvs), some k => if (keyD k).isSome then (match lookD kvs k, setC w2 rd (.dct false (dropD kvs k)) with
    | some v, some w3 => .ok (.sh v) w3
    | _, _ => .no) else .no
  | _, _ => .no else .no
theorem isDct_of {o : Option D} (h : isDct o = true) : ∃ kvs, o = some (.dct false kvs) := by
  match o, h with
  | some (.dct false kvs), _ => exact ⟨kvs, rfl⟩
theorem rd_dnew {Q : VK} (h : tM K cA Wd eDNew σ H Q) : tDNewK σ H Q := by
  obtain ⟨Lk, φ, F, Pr, w, R, h⟩ := h
  intro p hp
  obtain ⟨fp, pp, np⟩ := R.fresh hp
  exact h _ _ φ F (upd Pr p (.dK [])) (Le.refl _) (Pf.refl _) (Le.new pp) (R.pend hp) ⟨p, _, rfl, pp, upd_same, .dK .nil⟩
theorem rd_dget2 {md mk mx : ME} {Q : VK} (h : tM K cA Wd (eDGet2 md mk mx) σ H Q) : tDGet2 (tM K cA Wd md) (tM K cA Wd mk) (tM K cA Wd mx) σ H Q := by
  obtain ⟨Lk, φ, F, Pr, w, Rp, h⟩ := h
  unfold eDGet2 at h
  refine ⟨Lk, φ, F, Pr, w, Rp, ?_⟩
  cases e1 : md w with
  | no => simp only [e1, Res.bind] at h
  | ex x w1 => simp only [e1, Res.bind] at h; exact h
  | ok rd w1 =>
    simp only [e1, Res.bind] at h
    intro v1 H1 φ1 F1 Pr1 l1 p1 q1 Rp1 rv1
    by_cases hz : isDct (Rf.R.d w1 rd) = true
    case neg => rw [if_neg hz] at h; exact h.elim
    rw [if_pos hz] at h
    obtain ⟨kv0, ek0⟩ := isDct_of hz
    obtain ⟨a, ks0, rfl, ha0, s0⟩ := (rdv_of Rp1 rv1 ek0).dct Rp1
    refine ⟨a, rfl, .inl ⟨ks0, ha0⟩, ⟨Lk, φ1, F1, Pr1, w1, Rp1, ?_⟩⟩
    cases e2 : mk w1 with
    | no => simp only [e2] at h
    | ex x w2 => simp only [e2] at h; exact fun cls dx H' φ' F' Pr2 l2 p2 q2 Rp2 xr => h cls dx H' φ' F' Pr2 (l1.trans l2) (p1.trans p2) (q1.trans q2) Rp2 xr
    | ok rk w2 =>
      simp only [e2] at h
      intro v2 H2 φ2 F2 Pr2 l2 p2 q2 Rp2 rv2
      refine ⟨Lk, φ2, F2, Pr2, w2, Rp2, ?_⟩
      cases e3 : mx w2 with
      | no => simp only [e3] at h
      | ex x w3 => simp only [e3] at h; exact fun cls dx H' φ' F' Pr3 l3 p3 q3 Rp3 xr => h cls dx H' φ' F' Pr3 ((l1.trans l2).trans l3) ((p1.trans p2).trans p3) ((q1.trans q2).trans q3) Rp3 xr
      | ok rx w3 =>
        simp only [e3] at h
        intro v3 H3 φ3 F3 Pr3 l3 p3 q3 Rp3 rv3
        have l := (l1.trans l2).trans l3
        have p := (p1.trans p2).trans p3
        have q := (q1.trans q2).trans q3
        cases g1 : Rf.R.d w3 rd with
        | none => rw [g1] at h; exact h.elim
        | some c =>
          rw [g1] at h
          match c, g1, h with
          | .dct false kvs, g1, h =>
            cases g2 : Rf.R.d w3 rk with
            | none => rw [g2] at h; exact h.elim
            | some k =>
              rw [g2] at h
              simp only at h
              cases ek : keyD k with
              | none => rw [ek] at h; exact h.elim
              | some key =>
                rw [ek] at h
                simp only [Option.isSome_some, if_true] at h
                obtain ⟨a', ks, ea, ha, s⟩ := (rdv_of Rp3 (rv1.le (l2.trans l3) (p2.trans p3) (q2.trans q3)) g1).dct Rp3
                cases ea
                have hk := (rdv_of Rp3 (rv2.le l3 p3 q3) g2).keyV ek
                cases g3 : lookD kvs k with
                | some d =>
                  rw [g3] at h
                  obtain ⟨v, f1, f2⟩ := (s.look ek).1 d g3
                  exact ⟨some v, .inl ⟨ks, key, ha, hk, f1.symm⟩, h v H3 φ3 F3 Pr3 l p q Rp3 f2⟩
                | none =>
                  rw [g3] at h
                  have f1 := (s.look ek).2 g3
                  exact ⟨none, .inl ⟨ks, key, ha, hk, f1.symm⟩, h v3 H3 φ3 F3 Pr3 l p q Rp3 (rv3.narrow (q1.trans q2))⟩
theorem rd_dpop1 {md mk : ME} {Q : VK} (h : tM K cA Wd (eDPop1 md mk) σ H Q) : tDPop1 (tM K cA Wd md) (tM K cA Wd mk) σ H Q := by
  obtain ⟨Lk, φ, F, Pr, w, Rp, h⟩ := h
  unfold eDPop1 at h
  refine ⟨Lk, φ, F, Pr, w, Rp, ?_⟩
  cases e1 : md w with
  | no => simp only [e1, Res.bind] at h
  | ex x w1 => simp only [e1, Res.bind] at h; exact h
  | ok rd w1 =>
    simp only [e1, Res.bind] at h
    intro v1 H1 φ1 F1 Pr1 l1 p1 q1 Rp1 rv1
    by_cases hz : isDct (Rf.R.d w1 rd) = true
    case neg => rw [if_neg hz] at h; exact h.elim
    rw [if_pos hz] at h
    obtain ⟨kv0, ek0⟩ := isDct_of hz
    obtain ⟨a, ks0, rfl, ha0, s0⟩ := (rdv_of Rp1 rv1 ek0).dct Rp1
    refine ⟨a, rfl, .inl ⟨ks0, ha0⟩, ⟨Lk, φ1, F1, Pr1, w1, Rp1, ?_⟩⟩
    cases e2 : mk w1 with
    | no => simp only [e2] at h
    | ex x w2 => simp only [e2] at h; exact fun cls dx H' φ' F' Pr2 l2 p2 q2 Rp2 xr => h cls dx H' φ' F' Pr2 (l1.trans l2) (p1.trans p2) (q1.trans q2) Rp2 xr
    | ok rk w2 =>
      simp only [e2] at h
      intro v2 H2 φ2 F2 Pr2 l2 p2 q2 Rp2 rv2
      cases g1 : Rf.R.d w2 rd with
      | none => rw [g1] at h; exact h.elim
      | some c =>
        rw [g1] at h
        match c, g1, h with
        | .dct false kvs, g1, h =>
          cases g2 : Rf.R.d w2 rk with
          | none => rw [g2] at h; exact h.elim
          | some k =>
            rw [g2] at h
            simp only at h
            cases ek : keyD k with
            | none => rw [ek] at h; exact h.elim
            | some key =>
              rw [ek] at h
              simp only [Option.isSome_some, if_true] at h
              have hk := (rdv_of Rp2 rv2 g2).keyV ek
              cases g3 : lookD kvs k with
              | none => rw [g3] at h; exact h.elim
              | some d =>
                rw [g3] at h
                cases g4 : setC w2 rd (.dct false (dropD kvs k)) with
                | none => rw [g4] at h; exact h.elim
                | some w3 =>
                  rw [g4] at h
                  obtain ⟨a', o, ea, h1, h2, h3⟩ := setC_at Rp2 (rv1.le l2 p2 q2) g1 g4
                  cases ea
                  cases h2 with
                  | dK s =>
                    obtain ⟨v, f1, f2⟩ := (s.look ek).1 d g3
                    exact ⟨_, key, v, h1, hk, f1, h v _ φ2 F2 Pr2 (l1.trans l2) (p1.trans p2) (q1.trans q2) (h3 _ (.dK (s.drop ek))) f2⟩
end

/-! ### e.f = v -/
def putFD (f : Str) (v : D) : List (Str × D) → List (Str × D)
  | [] => [(f, v)]
  | (g, x) :: r => if g = f then (g, v) :: r else (g, x) :: putFD f v r
theorem FsR.put {K : PySem.W.Frag} {φ : List Addr} {F : Hp} {f : Str} {v : V} {d : D} (h : Sh K φ F v d) : ∀ {vfs : List (Str × V)} {fs : List (Str × D)}, FsR K φ F vfs fs → FsR K φ F (putF f v vfs) (putFD f d fs)
  | [], [], _ => ⟨rfl, .cons h .nil⟩
  | [], _ :: _, hh => absurd hh.1 (by simp)
  | _ :: _, [], hh => absurd hh.1 (by simp)
  | (a, x) :: vr, (b, y) :: r, hh => by
    obtain ⟨h1, h2⟩ := hh
    simp only [List.map_cons, List.cons.injEq] at h1 h2
    obtain ⟨rfl, h1⟩ := h1
    obtain ⟨s1, s2⟩ := h2.uncons
    by_cases hf : a = f
    · simp only [putF, putFD, if_pos hf]
      exact ⟨by simp [h1], .cons h s2⟩
    · simp only [putF, putFD, if_neg hf]
      obtain ⟨g1, g2⟩ := FsR.put h (vfs := vr) (fs := r) ⟨h1, s2⟩
      exact ⟨by simp [g1], .cons s1 g2⟩
def boxD : D → Option Ob
  | .lst xs => some (.lst xs)
  | .dct t kvs => some (.dct t kvs)
  | _ => none
def sFldM (okf : Str → Str → Bool) (mo mv : ME) (f : Str) : MS := fun w => (mv w).bind fun rv w1 => (mo w1).bind fun ro w2 => match ro with
  | .sh (.obj n) => (match w2.st[n]? with
    | some (.ins C fs) => if okf C f && Nat.blt fs.length 1000 then (match rv with
      | .sh d => .ok .nx { w2 with st := w2.st.set n (.ins C (putFD f d fs)) }
      | .own c => (match boxD c with
        | some ob => .ok .nx { w2 with st := (w2.st ++ [ob]).set n (.ins C (putFD f (.obj w2.st.length) fs)) }
        | none => .no)
      | .bor _ => .no) else .no
    | _ => .no)
  | _ => .no
theorem fsr_len {K : PySem.W.Frag} {φ : List Addr} {F : Hp} {vfs : List (Str × V)} {fs : List (Str × D)} (h : FsR K φ F vfs fs) : vfs.length = fs.length := by
  have := congrArg List.length h.1
  simpa using this
section
variable {K : PySem.W.Frag} {cA : CA} {Wd : WX} {H : Hp} {σ : L2.St} {E : Ends}
/-- pending, taken into the store -/
theorem Rep.boxIn {Lk : Addr → Option (Obj × HO)} {φ : List Addr} {F Pr Pr2 : Hp} {w : W} {v : V} {c : D} {ob : Ob} (R : Rep K cA Lk φ F Pr2 w σ H) (l : Le Pr Pr2) (rv : RV K φ F Pr Pr2 σ v (.own c)) (e : boxD c = some ob) :
    ∃ p Pr3, v = .ref p ∧ Le Pr Pr3 ∧ (φ ++ [p])[w.st.length]? = some p ∧ Rep K cA Lk (φ ++ [p]) F Pr3 { w with st := w.st ++ [ob] } σ H := by
  obtain ⟨p, o, rfl, h1, h2, h3⟩ := rv
  have e0 : upd (fun b => if b = p then none else Pr2 b) p o = Pr2 := by
    funext b
    by_cases hb : b = p
    · rw [hb, upd_same, h2]
    · rw [upd_ne hb]; simp [hb]
  have R1 : Rep K cA Lk φ F (upd (fun b => if b = p then none else Pr2 b) p o) w σ H := by rw [e0]; exact R
  have hH : H p = some o := R.pr p o h2
  have hl : Lk p = none := R.lkAt hH h3.nofrz
  have pf : Pf φ (φ ++ [p]) := Pf.snoc φ p
  refine ⟨p, fun b => if b = p then none else Pr2 b, rfl, fun b u q => ?_, by rw [← R.plen]; simp, R1.boxed (by simp) ?_⟩
  · have hb : b ≠ p := fun z => by rw [z, h1] at q; cases q
    simp [hb, l _ _ q]
  · cases h3 with
    | lst s => cases e; exact ⟨_, .lst (s.le (Le.refl _) pf), hl, hH⟩
    | dK s => cases e; exact ⟨_, .dK (s.le (Le.refl _) pf), .inl ⟨hl, hH⟩, fun z => absurd hl z⟩
    | dT s => cases e; exact ⟨_, .dT (s.le (Le.refl _) pf), .inl ⟨hl, hH⟩, fun z => absurd hl z⟩
theorem rd_sfld {okf : Str → Str → Bool} {mo mv : ME} {f : Str} (hk : ∀ C, okf C f = true → Cls K (cA C) ∧ NoAttr K (cA C) f) (h : tMS K cA Wd (sFldM okf mo mv f) E σ H) : sFld K (tM K cA Wd mo) (tM K cA Wd mv) f E σ H := by
  obtain ⟨Lk, φ, F, Pr, w, R0, h⟩ := h
  refine rd_do (f := _) (fun v H1 φ1 F1 Pr1 rv w1 l1 p1 lp1 R1 rvv h => ?_) R0 h
  have h := MSP.step l1 p1 (Le.refl _) h
  refine tM_of R1 ?_
  cases e2 : mo w1 with
  | no => rw [e2] at h; exact h
  | ex x w2 => rw [e2] at h; exact fun cls dx H' φ' F' Pr2 l p lp R xr => h cls dx σ H' φ' F' l p (R.weak (lp1.trans lp)) xr
  | ok ro w2 =>
    rw [e2] at h
    intro vo H2 φ2 F2 Pr2 l2 p2 lp2 R2 rvo
    have h := MSP.step l2 p2 (Le.refl _) h
    simp only [Res.bind] at h
    match ro, rvo, h with
    | .sh (.obj n), rvo, h =>
      obtain ⟨a, rfl, ea⟩ := Sh.obj_d rvo
      simp only at h
      cases e3 : w2.st[n]? with
      | none => rw [e3] at h; exact h.elim
      | some ob =>
        rw [e3] at h
        match ob, e3, h with
        | .ins C fs, e3, h =>
          simp only at h
          by_cases hz : (okf C f && Nat.blt fs.length 1000) = true
          case neg => rw [if_neg hz] at h; exact h.elim
          rw [if_pos hz] at h
          obtain ⟨hz1, hz2⟩ := Bool.and_eq_true_iff.mp hz
          obtain ⟨dx, vfs, g1, g2⟩ := R2.ob n a _ ea e3
          have hlen : vfs.length < 1000 := by
            have := Nat.le_of_ble_eq_true hz2
            rw [fsr_len g2]; omega
          have hlk : Lk a = none := R2.lkAt g1 fun od u z => nomatch z
          refine ⟨a, cA C, dx, vfs, rfl, g1, (hk C hz1).1, (hk C hz1).2, hlen, ?_⟩
          cases rv with
          | bor d => exact h.elim
          | sh d =>
            have R3 := R2.mutOb (o' := .ins (cA C) dx (putF f v vfs)) (ob' := .ins C (putFD f d fs)) ea hlk ⟨dx, _, upd_same, g2.put (Sh.le l2 p2 rvv)⟩
            exact h σ _ φ2 F2 (Le.refl _) (Pf.refl _) (R3.weak (lp1.trans lp2))
          | own c =>
            simp only at h
            cases e4 : boxD c with
            | none => rw [e4] at h; exact h.elim
            | some ob =>
              rw [e4] at h
              obtain ⟨p, Pr3, rfl, lp3, ep, R3⟩ := R2.boxIn (lp1.trans lp2) (rvv.le l2 p2 lp2) e4
              have pf : Pf φ2 (φ2 ++ [p]) := Pf.snoc φ2 p
              have R4 := R3.mutOb (o' := .ins (cA C) dx (putF f (.ref p) vfs)) (ob' := .ins C (putFD f (.obj w2.st.length) fs)) (pf _ _ ea) hlk ⟨dx, _, upd_same, (g2.le (Le.refl _) pf).put (.obj ep)⟩
              exact h σ _ (φ2 ++ [p]) F2 (Le.refl _) pf (R4.weak lp3)
end
end Rf
set_option maxHeartbeats 1000000
/-! Rf20: in, chains, and/or/not, augmented names, targets. -/
namespace Rf
open PySem PySem.Spec L2
open PyProof.Rows hiding St

/-! ### in -/
def rInAll (K : PySem.W.Frag) : R2 := fun x y H Q => ((∃ i j, x = .str i ∧ y = .str j ∧ Q (.bl (!(Builtin.Str.occurrences j i 0 j.length 1).isEmpty)) H) ∨ rInD K x y H Q) ∨ (rInTD K false x y H Q ∨ rInDct x y H Q)
def rNotInAll (K : PySem.W.Frag) : R2 := fun x y H Q => ((∃ i j, x = .str i ∧ y = .str j ∧ Q (.bl (!(!(Builtin.Str.occurrences j i 0 j.length 1).isEmpty))) H) ∨ rNotInD K x y H Q) ∨ (rInTD K true x y H Q ∨ rNotInDct x y H Q)
theorem op_inAll {X : Cx} (hu : X.A.units + 65 < cLine) : OpR X (compareOp .In) (rInAll X.K) := (op_in_str.or (op_inD hu)).or ((op_inTD hu).or (op_inDct (by omega)))
theorem op_notInAll {X : Cx} (hu : X.A.units + 65 < cLine) : OpR X (compareOp .NotIn) (rNotInAll X.K) := (op_notIn_str.or (op_notInD hu)).or ((op_notInTD hu).or (op_notInDct (by omega)))
def gInB : D → D → Option Bool
  | k, .dct false kvs => if (keyD k).isSome then some (lookD kvs k).isSome else none
  | _, .dct true _ => none
  | a, b => gIn a b
section
variable {K : PySem.W.Frag} {cA : CA}
theorem any_pys (ds : List D) (d : D) : ((D.pys ds).any fun z => PyData.eqv z d.py) = anyEqv ds d := by
  rw [D.pys_eq, List.any_map]; rfl
theorem in_cases {Lk : Addr → Option (Obj × HO)} {φ : List Addr} {F Pr : Hp} {w : W} {σ : L2.St} {H : Hp} {v1 v2 : V} {d1 d2 : D} {b : Bool} (Rp : Rep K cA Lk φ F Pr w σ H) (h1 : Rdv K Lk φ F H v1 d1) (h2 : Rdv K Lk φ F H v2 d2) (e : gInB d1 d2 = some b) :
    (∃ x y, v1 = .str x ∧ v2 = .str y ∧ b = strIn x y) ∨ (∃ ds, Dp K H v1 d1.py ∧ Dp K H v2 (.list (D.pys ds)) ∧ shp d1 = true ∧ SeqAt.shaped (.list (D.pys ds)) = true ∧ b = anyEqv ds d1) ∨
    (∃ ds, Dp K H v1 d1.py ∧ Dp K H v2 (.tuple (D.pys ds)) ∧ shp d1 = true ∧ SeqAt.shaped (.tuple (D.pys ds)) = true ∧ b = anyEqv ds d1) ∨ ∃ a o, v2 = .ref a ∧ DGet H a v1 o ∧ b = o.isSome := by
  cases d2 with
  | str y =>
    cases d1 <;> simp only [gInB, gIn] at e <;> try (cases e; done)
    cases e
    exact .inl ⟨_, _, h1.str, h2.str, rfl⟩
  | lst ds =>
    have e : gIn d1 (.lst ds) = some b := e
    have e : (if (shp d1 && shp (.lst ds)) = true then some (anyEqv ds d1) else none) = some b := by cases d1 <;> exact e
    split at e
    · rename_i hz
      cases e
      obtain ⟨hz1, hz2⟩ := Bool.and_eq_true_iff.mp hz
      exact .inr (.inl ⟨ds, rdv_shp Rp h1 hz1, by have := rdv_shp Rp h2 hz2; rwa [D.py] at this, hz1, by have : shp (.lst ds) = true := hz2; unfold shp at this; rwa [D.py] at this, rfl⟩)
    · cases e
  | tup ds =>
    have e : gIn d1 (.tup ds) = some b := e
    have e : (if (shp d1 && shp (.tup ds)) = true then some (anyEqv ds d1) else none) = some b := by cases d1 <;> exact e
    split at e
    · rename_i hz
      cases e
      obtain ⟨hz1, hz2⟩ := Bool.and_eq_true_iff.mp hz
      exact .inr (.inr (.inl ⟨ds, rdv_shp Rp h1 hz1, by have := rdv_shp Rp h2 hz2; rwa [D.py] at this, hz1, by have : shp (.tup ds) = true := hz2; unfold shp at this; rwa [D.py] at this, rfl⟩))
    · cases e
  | dct t kvs =>
    cases t with
    | true => cases d1 <;> cases e
    | false =>
      have e : (if (keyD d1).isSome = true then some (lookD kvs d1).isSome else none) = some b := by cases d1 <;> exact e
      cases ek : keyD d1 with
      | none => rw [ek] at e; cases e
      | some key =>
        rw [ek] at e
        simp only [Option.isSome_some, if_true, Option.some.injEq] at e
        obtain ⟨a, ks, rfl, ha, s⟩ := h2.dct Rp
        refine .inr (.inr (.inr ⟨a, valV ks key, rfl, .inl ⟨ks, key, ha, h1.keyV ek, rfl⟩, ?_⟩))
        rw [← e]
        cases q : lookD kvs d1 with
        | none => rw [(s.look ek).2 q]; rfl
        | some d => obtain ⟨v, f1, _⟩ := (s.look ek).1 d q; rw [f1]; rfl
  | _ => cases d1 <;> simp [gInB, gIn] at e
def gIn1 : D → D → Option R := fun a b => (gInB a b).map fun b => .sh (.bl b)
def gNotIn1 : D → D → Option R := fun a b => (gInB a b).map fun b => .sh (.bl (!b))
theorem fit_in : Fit2 K cA (rInAll K) gIn1 := by
  intro Lk φ F Pr w σ H v1 v2 d1 d2 rr Q Rp h1 h2 e k
  obtain ⟨b, e1, e2⟩ := Option.map_eq_some_iff.mp e
  have q : Q (.bl b) H := say Rp k e2.symm (.bl _)
  rcases in_cases Rp h1 h2 e1 with ⟨x, y, rfl, rfl, rfl⟩ | ⟨ds, a1, a2, a3, a4, rfl⟩ | ⟨ds, a1, a2, a3, a4, rfl⟩ | ⟨a, o, rfl, g, rfl⟩
  · exact .inl (.inl ⟨x, y, rfl, rfl, q⟩)
  · exact .inl (.inr ⟨_, _, a1, a2, a3, a4, by rw [any_pys]; exact q⟩)
  · exact .inr (.inl ⟨_, _, a1, a2, a3, a4, by rw [any_pys]; simpa using q⟩)
  · exact .inr (.inr ⟨a, o, rfl, g, q⟩)
theorem fit_notin : Fit2 K cA (rNotInAll K) gNotIn1 := by
  intro Lk φ F Pr w σ H v1 v2 d1 d2 rr Q Rp h1 h2 e k
  obtain ⟨b, e1, e2⟩ := Option.map_eq_some_iff.mp e
  have q : Q (.bl (!b)) H := say Rp k e2.symm (.bl _)
  rcases in_cases Rp h1 h2 e1 with ⟨x, y, rfl, rfl, rfl⟩ | ⟨ds, a1, a2, a3, a4, rfl⟩ | ⟨ds, a1, a2, a3, a4, rfl⟩ | ⟨a, o, rfl, g, rfl⟩
  · exact .inl (.inl ⟨x, y, rfl, rfl, q⟩)
  · exact .inl (.inr ⟨_, _, a1, a2, a3, a4, by rw [any_pys]; exact q⟩)
  · exact .inr (.inl ⟨_, _, a1, a2, a3, a4, by rw [any_pys]; simpa using q⟩)
  · exact .inr (.inr ⟨a, o, rfl, g, q⟩)

/-! ### unary minus -/
def gNeg : D → Option R
  | .int i => some (.sh (.int (-i)))
  | _ => none
theorem fit_neg : Fit1 K cA (rU fun i => .int (-i)) gNeg := by
  intro Lk φ F Pr w σ H v1 d1 rr Q Rp h1 e k
  match d1, e, h1 with
  | .int i, e, h1 =>
    cases e
    exact ⟨i, h1.int, say Rp k rfl (.int _)⟩
end

/-! ### and, or, not as values; chains -/
section
variable {K : PySem.W.Frag} {cA : CA} {Wd : WX} {σ : L2.St} {H : Hp} {Q : VK}
theorem rd_andV {a b : ME} (h : tM K cA Wd (eAndV a b) σ H Q) : tAndV (tM K cA Wd a) (tM K cA Wd b) σ H Q := by
  obtain ⟨Lk, φ, F, Pr, w, R, h⟩ := h
  have h : MP K cA Wd Lk φ F Pr σ Q (eAndV a b w) := h
  unfold eAndV at h
  refine tM_of R ?_
  cases e1 : a w with
  | no => rw [e1] at h; exact h
  | ex x w1 => rw [e1] at h; exact h
  | ok r w1 =>
    rw [e1] at h
    intro v H1 φ1 F1 Pr1 l1 p1 q1 R1 rv
    have h := MP.step l1 p1 q1 h
    simp only [Res.bind] at h
    match r, rv, h with
    | .sh (.bl c), rv, h =>
      refine ⟨c, Sh.bl_d rv, ?_⟩
      cases c with
      | true => exact tM_of R1 h
      | false => exact h _ H1 φ1 F1 Pr1 (Le.refl _) (Pf.refl _) (Le.refl _) R1 (.bl _)
theorem rd_orV {a b : ME} (h : tM K cA Wd (eOrV a b) σ H Q) : tOrV (tM K cA Wd a) (tM K cA Wd b) σ H Q := by
  obtain ⟨Lk, φ, F, Pr, w, R, h⟩ := h
  have h : MP K cA Wd Lk φ F Pr σ Q (eOrV a b w) := h
  unfold eOrV at h
  refine tM_of R ?_
  cases e1 : a w with
  | no => rw [e1] at h; exact h
  | ex x w1 => rw [e1] at h; exact h
  | ok r w1 =>
    rw [e1] at h
    intro v H1 φ1 F1 Pr1 l1 p1 q1 R1 rv
    have h := MP.step l1 p1 q1 h
    simp only [Res.bind] at h
    match r, rv, h with
    | .sh (.bl c), rv, h =>
      refine ⟨c, Sh.bl_d rv, ?_⟩
      cases c with
      | false => exact tM_of R1 h
      | true => exact h _ H1 φ1 F1 Pr1 (Le.refl _) (Pf.refl _) (Le.refl _) R1 (.bl _)
theorem rd_notV {a : ME} (h : tM K cA Wd (eNotV a) σ H Q) : tNotV (tM K cA Wd a) σ H Q := by
  obtain ⟨Lk, φ, F, Pr, w, R, h⟩ := h
  have h : MP K cA Wd Lk φ F Pr σ Q (eNotV a w) := h
  unfold eNotV at h
  refine tM_of R ?_
  cases e1 : a w with
  | no => rw [e1] at h; exact h
  | ex x w1 => rw [e1] at h; exact h
  | ok r w1 =>
    rw [e1] at h
    intro v H1 φ1 F1 Pr1 l1 p1 q1 R1 rv
    have h := MP.step l1 p1 q1 h
    simp only [Res.bind] at h
    match r, rv, h with
    | .sh (.bl c), rv, h =>
      exact ⟨c, Sh.bl_d rv, h _ H1 φ1 F1 Pr1 (Le.refl _) (Pf.refl _) (Le.refl _) R1 (.bl _)⟩
theorem rd_chain {r r' : R2} {g g' : D → D → Option R} {ma mb mc : ME} (f1 : Fit2 K cA r g) (f2 : Fit2 K cA r' g') (h : tM K cA Wd (eChain g g' ma mb mc) σ H Q) : tChain r r' (tM K cA Wd ma) (tM K cA Wd mb) (tM K cA Wd mc) σ H Q := by
  obtain ⟨Lk, φ, F, Pr, w, R, h⟩ := h
  have h : MP K cA Wd Lk φ F Pr σ Q (eChain g g' ma mb mc w) := h
  unfold eChain at h
  refine tM_of R ?_
  cases e1 : ma w with
  | no => rw [e1] at h; exact h
  | ex x w1 => rw [e1] at h; exact h
  | ok r1 w1 =>
    rw [e1] at h
    intro v1 H1 φ1 F1 Pr1 l1 p1 q1 R1 rv1
    have h := MP.step l1 p1 q1 h
    simp only [Res.bind] at h
    refine tM_of R1 ?_
    cases e2 : mb w1 with
    | no => rw [e2] at h; exact h
    | ex x w2 => rw [e2] at h; exact fun cls dx H' φ' F' Pr2 l2 p2 q2 R2 xr => h cls dx H' φ' F' Pr2 l2 p2 q2 R2 xr
    | ok r2 w2 =>
      rw [e2] at h
      intro v2 H2 φ2 F2 Pr2 l2 p2 q2 R2 rv2
      have h := MP.step l2 p2 q2 h
      simp only at h
      cases g1 : Rf.R.d w2 r1 with
      | none => rw [g1] at h; exact h.elim
      | some d1 =>
        cases g2 : Rf.R.d w2 r2 with
        | none => rw [g1, g2] at h; exact h.elim
        | some d2 =>
          rw [g1, g2] at h
          simp only at h
          cases g3 : g d1 d2 with
          | none => rw [g3] at h; exact h.elim
          | some rr =>
            rw [g3] at h
            match rr, g3, h with
            | .sh (.bl k), g3, h =>
              refine f1 Lk φ2 F2 Pr2 w2 σ H2 v1 v2 d1 d2 _ _ R2 (rdv_of R2 (rv1.le l2 p2 q2) g1) (rdv_of R2 rv2 g2) g3 fun v H3 F3 Pr3 l3 q3 R3 rv3 => ⟨k, Sh.bl_d rv3, ?_⟩
              have h := MP.step l3 (Pf.refl _) q3 h
              cases k with
              | false => exact h _ H3 φ2 F3 Pr3 (Le.refl _) (Pf.refl _) (Le.refl _) R3 (.bl _)
              | true =>
                simp only [if_true] at h ⊢
                refine tM_of R3 ?_
                cases e3 : mc w2 with
                | no => rw [e3] at h; exact h
                | ex x w3 => rw [e3] at h; exact fun cls dx H' φ' F' Pr2 l2 p2 q2 R2 xr => h cls dx H' φ' F' Pr2 l2 p2 q2 R2 xr
                | ok r3 w3 =>
                  rw [e3] at h
                  intro v3 H4 φ4 F4 Pr4 l4 p4 q4 R4 rv4
                  have h := MP.step l4 p4 q4 h
                  simp only [Res.bind] at h
                  cases g4 : Rf.R.d w3 r2 with
                  | none => rw [g4] at h; exact h.elim
                  | some d2' =>
                    cases g5 : Rf.R.d w3 r3 with
                    | none => rw [g4, g5] at h; exact h.elim
                    | some d3 =>
                      rw [g4, g5] at h
                      simp only at h
                      cases g6 : g' d2' d3 with
                      | none => rw [g6] at h; exact h.elim
                      | some r4 =>
                        rw [g6] at h
                        exact f2 Lk φ4 F4 Pr4 w3 σ H4 v2 v3 d2' d3 r4 Q R4 (rdv_of R4 (rv2.le (l3.trans l4) p4 (q3.trans q4)) g4) (rdv_of R4 rv4 g5) g6 fun v H5 F5 Pr5 l5 q5 R5 rv5 => h v H5 φ4 F5 Pr5 l5 (Pf.refl _) q5 R5 rv5
end

/-! ### x op= e; targets -/
/-- the slot's value, then the other's; the slot takes the answer -/
def sAug (i : Nat) (g : D → D → Option R) (m : ME) : MS := fun w => match w.env[i]? with
  | some (some (.sh d0)) => (m w).bind fun r w1 => match r.d w1 with
    | some d1 => (match g (deref w1 d0) d1 with
      | some (.sh d) => .ok .nx { w1 with env := w1.env.set i (some (.sh d)) }
      | _ => .no)
    | none => .no
  | _ => .no
/-- target = value -/
def sAsgT (m : ME) (tg : TgM) : MS := fun w => (m w).bind fun r w1 => match r with
  | .sh d => (match tg d w1 with
    | some w2 => .ok .nx w2
    | none => .no)
  | _ => .no
section
variable {K : PySem.W.Frag} {cA : CA} {Wd : WX} {σ : L2.St} {H : Hp} {E : Ends}
theorem rd_aug {i : Nat} {r : R2} {g : D → D → Option R} {m : ME} (ft : Fit2 K cA r g) (h : tMS K cA Wd (sAug i g m) E σ H) : tAug i (tM K cA Wd m) r E σ H := by
  obtain ⟨Lk, φ, F, Pr, w, R, h⟩ := h
  have h : MSP K cA Wd Lk φ F Pr E (sAug i g m w) := h
  unfold sAug at h
  cases e0 : w.env[i]? with
  | none => rw [e0] at h; exact h.elim
  | some s =>
    rw [e0] at h
    match s, e0, h with
    | none, e0, h => exact h.elim
    | some (.own c), e0, h => exact h.elim
    | some (.sh d0), e0, h =>
      obtain ⟨x, h1, h2⟩ := R.sl i _ e0
      refine ⟨x, h1, ?_⟩
      refine rd_do (m := m) (f := _) (fun v H1 φ1 F1 Pr1 rv w1 l1 p1 lp1 R1 rvv h => ?_) R h
      have h := MSP.step l1 p1 (Le.refl _) h
      cases g1 : Rf.R.d w1 rv with
      | none => rw [g1] at h; exact h.elim
      | some d1 =>
        rw [g1] at h
        simp only at h
        cases g2 : g (deref w1 d0) d1 with
        | none => rw [g2] at h; exact h.elim
        | some rr =>
          rw [g2] at h
          match rr, g2, h with
          | .sh d, g2, h =>
            exact ft Lk φ1 F1 Pr1 w1 σ H1 x v (deref w1 d0) d1 _ _ R1 (rdv_deref R1 (Sh.le l1 p1 h2)) (rdv_of R1 rvv g1) g2 fun z H2 F2 Pr2 l2 q2 R2 rz =>
              h _ H2 φ1 F2 l2 (Pf.refl _) ((R2.setSh rz).weak (lp1.trans q2))
          | .own c, g2, h => exact h.elim
          | .bor c, g2, h => exact h.elim
theorem rd_asgT {m : ME} {tg : TgM} {g : TG} {us : List Nat} (gf : GFit K cA us g tg) (h : tMS K cA Wd (sAsgT m tg) E σ H) : tAsg (tM K cA Wd m) g E σ H := by
  obtain ⟨Lk, φ, F, Pr, w, R, h⟩ := h
  refine rd_do (m := m) (f := _) (fun v H1 φ1 F1 Pr1 rv w1 l1 p1 lp1 R1 rvv h => ?_) R h
  have h := MSP.step l1 p1 (Le.refl _) h
  match rv, rvv, h with
  | .own d, rvv, h => exact h.elim
  | .bor d, rvv, h => exact h.elim
  | .sh d, rvv, h =>
    simp only at h
    cases e2 : tg d w1 with
    | none => rw [e2] at h; exact h.elim
    | some w2 =>
      rw [e2] at h
      exact gf Lk φ1 F1 Pr1 w1 w2 σ H1 v d _ R1 rvv e2 fun σ' _ R2 => h σ' H1 φ1 F1 (Le.refl _) (Pf.refl _) (R2.weak lp1)
end
end Rf
set_option maxHeartbeats 1000000
/-! Rf28: == and != of dicts of plain values, too. -/
namespace Rf
open PySem L2
open PyProof.Rows hiding St

def flatD : D → Bool
  | .non => true
  | .bl _ => true
  | .int _ => true
  | .str _ => true
  | _ => false
/-- told where the answer is sure: unlike in length, or all the same -/
def eqDct (ks ls : List (D × D)) : Option Bool :=
  if ks.length = ls.length then (if (ks.all fun p => (keyD p.1).isSome && (decide (lookD ls p.1 = some p.2) && flatD p.2)) = true then some true else none) else some false
def gEq : D → D → Option R
  | .dct false ks, .dct false ls => (eqDct ks ls).map fun b => .sh (.bl b)
  | d, e => gEq0 d e
def gNe : D → D → Option R
  | .dct false ks, .dct false ls => (eqDct ks ls).map fun b => .sh (.bl (!b))
  | d, e => gNe0 d e
def rEqDB (f : Bool → Bool) : R2 := fun x y H Q => ∃ a b ks ls, x = .ref a ∧ y = .ref b ∧ Rd H a (.dK ks) ∧ Rd H b (.dK ls) ∧ ((ks.length ≠ ls.length ∧ Q (.bl (f false)) H) ∨ (ks.length = ls.length ∧ (∀ p ∈ ks, valV ls p.1 = some p.2 ∧ flatB p.2 = true) ∧ Q (.bl (f true)) H))
section
variable {X : Cx} {pins : List (Addr × Obj)} {σ : L2.St} {H : Hp} {s : Shared} {a : Addr}
theorem inv_rdK (I : Inv X pins σ H s) {ks : List (Key × V)} (h : Rd H a (.dK ks)) : ObjOk X.prog X.w H s.heap a (.dK ks) := by
  rcases h with h | ⟨od, h⟩
  · exact I.hok a _ h
  · exact (I.hok a _ h).2
theorem op_eqDB (hu : X.A.units < cLine) : OpR X (compareOp .Eq) (rEqDB id) := by
  intro pins s σ H x y v u Q I rx ry h
  obtain ⟨a, b, ks, ls, rfl, rfl, ea, eb, h⟩ := h
  obtain rfl : v = Value.ref a := rx
  obtain rfl : u = Value.ref b := ry
  obtain ⟨_, ya, va, ra, da⟩ := inv_rdK I ea
  obtain ⟨_, yb, vb, rb, db⟩ := inv_rdK I eb
  rcases h with ⟨hl, q⟩ | ⟨hl, hp, q⟩
  · have hl' : va.length ≠ vb.length := by rw [← ra.length, ← rb.length]; exact hl
    exact PySem.W.keq_eq (knd := mixKind X.prog X.w) (r := true) ya yb da db hu (fun z => absurd z hl') (fin_bl I q (by simp [hl']))
  · have hl' : va.length = vb.length := by rw [← ra.length, ← rb.length]; exact hl
    exact PySem.W.keq_eq (knd := mixKind X.prog X.w) (r := true) ya yb da db hu (fun _ => hits_all rb ra hp) (fin_bl I q (by simp [hl']))
theorem op_neDB (hu : X.A.units < cLine) : OpR X (compareOp .NotEq) (rEqDB not) := by
  intro pins s σ H x y v u Q I rx ry h
  obtain ⟨a, b, ks, ls, rfl, rfl, ea, eb, h⟩ := h
  obtain rfl : v = Value.ref a := rx
  obtain rfl : u = Value.ref b := ry
  obtain ⟨_, ya, va, ra, da⟩ := inv_rdK I ea
  obtain ⟨_, yb, vb, rb, db⟩ := inv_rdK I eb
  rcases h with ⟨hl, q⟩ | ⟨hl, hp, q⟩
  · have hl' : va.length ≠ vb.length := by rw [← ra.length, ← rb.length]; exact hl
    exact PySem.W.keq_ne (knd := mixKind X.prog X.w) (r := true) ya yb da db hu (fun z => absurd z hl') (fin_bl I q (by simp [hl']))
  · have hl' : va.length = vb.length := by rw [← ra.length, ← rb.length]; exact hl
    exact PySem.W.keq_ne (knd := mixKind X.prog X.w) (r := true) ya yb da db hu (fun _ => hits_all rb ra hp) (fin_bl I q (by simp [hl']))
end
section
variable {K : PySem.W.Frag} {cA : CA}
theorem sh_flat {φ : List Addr} {F : Hp} {v v' : V} {d : D} (h : Sh K φ F v d) (h' : Sh K φ F v' d) (f : flatD d = true) : v' = v ∧ flatB v = true := by
  cases d with
  | non => rw [h.non_d, h'.non_d]; exact ⟨rfl, rfl⟩
  | bl b => rw [h.bl_d, h'.bl_d]; exact ⟨rfl, rfl⟩
  | int i => rw [h.int_d, h'.int_d]; exact ⟨rfl, rfl⟩
  | str x => rw [h.str_d, h'.str_d]; exact ⟨rfl, rfl⟩
  | _ => cases f
theorem fit_dct {f : Bool → Bool} {Lk : Addr → Option (Obj × HO)} {φ : List Addr} {F Pr : Hp} {w : W} {σ : L2.St} {H : Hp} {v1 v2 : V} {ks ls : List (D × D)} {b : Bool} {Q : VK} (Rp : Rep K cA Lk φ F Pr w σ H) (h1 : Rdv K Lk φ F H v1 (.dct false ks)) (h2 : Rdv K Lk φ F H v2 (.dct false ls)) (e : eqDct ks ls = some b)
    (q : Q (.bl (f b)) H) : rEqDB f v1 v2 H Q := by
  obtain ⟨a1, k1, rfl, r1, s1⟩ := h1.dct Rp
  obtain ⟨a2, k2, rfl, r2, s2⟩ := h2.dct Rp
  refine ⟨a1, a2, k1, k2, rfl, rfl, r1, r2, ?_⟩
  unfold eqDct at e
  split at e
  · rename_i hl
    split at e
    · rename_i ha
      cases e
      refine .inr ⟨by rw [s1.1, s2.1, hl], fun p hp => ?_, q⟩
      obtain ⟨i, hi, ei⟩ := List.mem_iff_getElem.mp hp
      have hi' : i < ks.length := by rw [← s1.1]; exact hi
      have g := s1.2 i p ks[i] (by rw [List.getElem?_eq_getElem hi, ei]) (List.getElem?_eq_getElem hi')
      have ha' := List.all_eq_true.mp ha ks[i] (List.getElem_mem hi')
      simp only [Bool.and_eq_true, decide_eq_true_eq] at ha'
      obtain ⟨v, e1, e2⟩ := (ShK.look g.1 s2).1 _ ha'.2.1
      obtain ⟨e3, e4⟩ := sh_flat g.2 e2 ha'.2.2
      rw [e3] at e1
      exact ⟨e1, e4⟩
    · cases e
  · rename_i hl
    cases e
    exact .inl ⟨by rw [s1.1, s2.1]; exact hl, q⟩
theorem fit_eq : Fit2 K cA (fun x y H Q => rEqD K x y H Q ∨ rEqDB id x y H Q) gEq := by
  intro Lk φ F Pr w σ H v1 v2 d1 d2 rr Q Rp h1 h2 e k
  by_cases hd : ∃ ks ls, d1 = .dct false ks ∧ d2 = .dct false ls
  · obtain ⟨ks, ls, rfl, rfl⟩ := hd
    obtain ⟨b, e1, e2⟩ := Option.map_eq_some_iff.mp (show (eqDct ks ls).map (fun b => R.sh (.bl b)) = some rr from e)
    exact .inr (fit_dct Rp h1 h2 e1 (say Rp k e2.symm (.bl _)))
  · have e0 : gEq d1 d2 = gEq0 d1 d2 := by
      unfold gEq
      split
      · exact (hd ⟨_, _, rfl, rfl⟩).elim
      · rfl
    exact .inl (fit_eq0 Lk φ F Pr w σ H v1 v2 d1 d2 rr Q Rp h1 h2 (e0 ▸ e) k)
theorem fit_ne : Fit2 K cA (fun x y H Q => rNeD K x y H Q ∨ rEqDB not x y H Q) gNe := by
  intro Lk φ F Pr w σ H v1 v2 d1 d2 rr Q Rp h1 h2 e k
  by_cases hd : ∃ ks ls, d1 = .dct false ks ∧ d2 = .dct false ls
  · obtain ⟨ks, ls, rfl, rfl⟩ := hd
    obtain ⟨b, e1, e2⟩ := Option.map_eq_some_iff.mp (show (eqDct ks ls).map (fun b => R.sh (.bl (!b))) = some rr from e)
    exact .inr (fit_dct Rp h1 h2 e1 (say Rp k e2.symm (.bl _)))
  · have e0 : gNe d1 d2 = gNe0 d1 d2 := by
      unfold gNe
      split
      · exact (hd ⟨_, _, rfl, rfl⟩).elim
      · rfl
    exact .inl (fit_ne0 Lk φ F Pr w σ H v1 v2 d1 d2 rr Q Rp h1 h2 (e0 ▸ e) k)
end
end Rf
set_option maxHeartbeats 1000000
/-! Rf21: the rules, one a construct. -/
namespace Rf
open PySem PySem.Spec L2
open PyProof.Rows hiding St

section
variable {X : Cx} {cA : CA} {Wd : WX} {k : Nat} {a b c e o : Expr} {es rest : List Expr} {pos p2 apos cpos : Pos} {ma mb mc m : ME} {ms : MA} {mt mu : MT}

/-! ### names, constants -/
theorem r_var (i : Nat) {x : Str} (hN : X.N[i]? = some x := by rfl) (hv : Vis X.env.scope x := by first | exact Or.inl rfl | exact Or.inr (Or.inl rfl) | exact Or.inr (Or.inr rfl)) (hd : (x == ("__debug__" : Str)) = false := by decide) (hcd : (x == ("__classdict__" : Str)) = false := by decide) : PE X (.Name x pos) (tM X.K cA Wd (eVar i)) :=
  pe_imp (pe_var hN hv hd hcd) fun _ _ _ h => rd_var h
theorem r_bor (i : Nat) {x : Str} (hN : X.N[i]? = some x := by rfl) (hv : Vis X.env.scope x := by first | exact Or.inl rfl | exact Or.inr (Or.inl rfl) | exact Or.inr (Or.inr rfl)) (hd : (x == ("__debug__" : Str)) = false := by decide) (hcd : (x == ("__classdict__" : Str)) = false := by decide) : PE X (.Name x pos) (tM X.K cA Wd (eBor i)) :=
  pe_imp (pe_var hN hv hd hcd) fun _ _ _ h => rd_bor h
theorem r_esc (h : PE X e (tM X.K cA Wd m)) : PE X e (tM X.K cA Wd (eEsc m)) := pe_imp h fun _ _ _ h => rd_esc h
theorem r_int {i : Int} {j : Nat} : PE X (.Constant (.int i) j pos) (tM X.K cA Wd (eC (.int i))) := pe_imp pe_int fun _ _ _ h => rd_c (fun _ _ => .int i) h
theorem r_str {x : Str} {j : Nat} : PE X (.Constant (.str x) j pos) (tM X.K cA Wd (eC (.str x))) := pe_imp pe_str fun _ _ _ h => rd_c (fun _ _ => .str x) h
theorem r_bl {x : Bool} {j : Nat} : PE X (.Constant (.bool x) j pos) (tM X.K cA Wd (eC (.bl x))) := pe_imp pe_bl fun _ _ _ h => rd_c (fun _ _ => .bl x) h
theorem r_non {j : Nat} : PE X (.Constant .none j pos) (tM X.K cA Wd (eC .non)) := pe_imp pe_non fun _ _ _ h => rd_c (fun _ _ => .non) h
theorem r_anil : PA X [] (tMA X.K cA Wd aNil) := pa_imp pa_nil fun _ _ _ h => rd_nil h
theorem r_acons (ha : PE X e (tM X.K cA Wd m)) (hr : PA X es (tMA X.K cA Wd ms)) (hs : starEach (e :: es) X.env = (false, eval e X.env) :: starEach es X.env := by rfl) : PA X (e :: es) (tMA X.K cA Wd (aCons m ms)) := pa_imp (pa_cons ha hr hs) fun _ _ _ h => rd_cons h
theorem r_tup {j : Nat} (h : PA X es (tMA X.K cA Wd ms)) : PE X (.Tuple es j pos) (tM X.K cA Wd (eTup ms)) := pe_imp (pe_tup h) fun _ _ _ h => rd_tup h
theorem r_lst (h : PA X es (tMA X.K cA Wd ms)) : PE X (.List es pos) (tM X.K cA Wd (eLst ms)) := pe_imp (pe_lst h) fun _ _ _ h => rd_lst h
theorem r_dnew : PE X (.Dict [] [] pos) (tM X.K cA Wd eDNew) := pe_imp pe_dnewK fun _ _ _ h => rd_dnew h

/-! ### operators -/
theorem r_bin {op : Operator} {r : R2} {g : D → D → Option R} (ho : OpR X (binaryOp op) r) (ft : Fit2 X.K cA r g) (ha : PE X a (tM X.K cA Wd ma)) (hb : PE X b (tM X.K cA Wd mb)) : PE X (.BinOp a op b pos) (tM X.K cA Wd (eBin g ma mb)) :=
  pe_imp (pe_op ho ha hb) fun _ _ _ h => rd_bin ft h
theorem r_add (ha : PE X a (tM X.K cA Wd ma)) (hb : PE X b (tM X.K cA Wd mb)) : PE X (.BinOp a .Add b pos) (tM X.K cA Wd (eBin gAdd ma mb)) := r_bin op_addAll fit_add ha hb
theorem r_sub (ha : PE X a (tM X.K cA Wd ma)) (hb : PE X b (tM X.K cA Wd mb)) : PE X (.BinOp a .Sub b pos) (tM X.K cA Wd (eBin gSub ma mb)) := r_bin op_sub fit_sub ha hb
theorem r_mul (ha : PE X a (tM X.K cA Wd ma)) (hb : PE X b (tM X.K cA Wd mb)) : PE X (.BinOp a .Mult b pos) (tM X.K cA Wd (eBin gMul ma mb)) := r_bin op_mulAll fit_mul ha hb
theorem r_div (ha : PE X a (tM X.K cA Wd ma)) (hb : PE X b (tM X.K cA Wd mb)) : PE X (.BinOp a .FloorDiv b pos) (tM X.K cA Wd (eBin gDiv ma mb)) := r_bin op_fdivN fit_div ha hb
theorem r_mod (ha : PE X a (tM X.K cA Wd ma)) (hb : PE X b (tM X.K cA Wd mb)) : PE X (.BinOp a .Mod b pos) (tM X.K cA Wd (eBin gMod ma mb)) := r_bin op_modN fit_mod ha hb
theorem r_pow (ha : PE X a (tM X.K cA Wd ma)) (hb : PE X b (tM X.K cA Wd mb)) : PE X (.BinOp a .Pow b pos) (tM X.K cA Wd (eBin gPow ma mb)) := r_bin op_pow fit_pow ha hb
theorem r_neg (ha : PE X a (tM X.K cA Wd ma)) : PE X (.UnaryOp .USub a pos) (tM X.K cA Wd (eUn gNeg ma)) := pe_imp (pe_un un_neg ha) fun _ _ _ h => rd_un fit_neg h

/-! ### comparisons, as values and as tests -/
theorem r_cmp {op : CmpOp} {r : R2} {g : D → D → Option R} (ho : OpR X (compareOp op) r) (ft : Fit2 X.K cA r g) (ha : PE X a (tM X.K cA Wd ma)) (hb : PE X b (tM X.K cA Wd mb)) (hm : behindInMarks op b = false) : PE X (.Compare a [op] [b] pos) (tM X.K cA Wd (eBin g ma mb)) :=
  pe_imp (pe_cmpR ho ha hb hm) fun _ _ _ h => rd_bin ft h
theorem t_cmp {op : CmpOp} {r : R2} {g : D → D → Option R} (ho : OpR X (compareOp op) r) (ft : Fit2 X.K cA r g) (ha : PE X a (tM X.K cA Wd ma)) (hb : PE X b (tM X.K cA Wd mb)) (hm : behindInMarks op b = false) : PT X (.Compare a [op] [b] pos) (tMT X.K cA Wd (eTest (eBin g ma mb))) :=
  pt_imp (pt_cmpR ho ha hb hm) fun _ _ _ h => rd_bin ft (rd_test h)
theorem r_chain {op op' : CmpOp} {r r' : R2} {g g' : D → D → Option R} (ho : OpR X (compareOp op) r) (ho' : OpR X (compareOp op') r') (f1 : Fit2 X.K cA r g) (f2 : Fit2 X.K cA r' g') (ha : PE X a (tM X.K cA Wd ma)) (hb : PE X b (tM X.K cA Wd mb)) (hc : PE X c (tM X.K cA Wd mc))
    (hm : lastMarks [op, op'] [b, c] = false := by with_unfolding_all rfl) : PE X (.Compare a [op, op'] [b, c] pos) (tM X.K cA Wd (eChain g g' ma mb mc)) := pe_imp (pe_chain ho ho' ha hb hc hm) fun _ _ _ h => rd_chain f1 f2 h
theorem t_chain {op op' : CmpOp} {r r' : R2} {g g' : D → D → Option R} (ho : OpR X (compareOp op) r) (ho' : OpR X (compareOp op') r') (f1 : Fit2 X.K cA r g) (f2 : Fit2 X.K cA r' g') (ha : PE X a (tM X.K cA Wd ma)) (hb : PE X b (tM X.K cA Wd mb)) (hc : PE X c (tM X.K cA Wd mc))
    (hm : lastMarks [op, op'] [b, c] = false := by with_unfolding_all rfl) : PT X (.Compare a [op, op'] [b, c] pos) (tMT X.K cA Wd (eTest (eChain g g' ma mb mc))) := pt_imp (pt_chain ho ho' ha hb hc hm) fun _ _ _ h => rd_chain f1 f2 (rd_test h)
/-- an operator of comparison and what it does to data -/
structure CmpR (X : Cx) (cA : CA) (op : CmpOp) (g : D → D → Option R) where
  r : R2
  o : OpR X (compareOp op) r
  f : Fit2 X.K cA r g
def c_lt : CmpR X cA .Lt gLt := ⟨_, op_ltA, fit_cmp⟩
def c_le : CmpR X cA .LtE gLe := ⟨_, op_leA, fit_cmp⟩
def c_gt : CmpR X cA .Gt gGt := ⟨_, op_gtA, fit_cmp⟩
def c_ge : CmpR X cA .GtE gGe := ⟨_, op_geA, fit_cmp⟩
def c_eq (hr : Room k X.A) : CmpR X cA .Eq gEq := ⟨_, (op_eqD (by have := hr.un; omega)).or (op_eqDB (by have := hr.un; omega)), fit_eq⟩
def c_ne (hr : Room k X.A) : CmpR X cA .NotEq gNe := ⟨_, (op_neD (by have := hr.un; omega)).or (op_neDB (by have := hr.un; omega)), fit_ne⟩
def c_is : CmpR X cA .Is gIs := ⟨_, op_isN, fit_is⟩
def c_isnot : CmpR X cA .IsNot gIsNot := ⟨_, op_notN, fit_isnot⟩
def c_in (hr : Room k X.A) : CmpR X cA .In gIn1 := ⟨_, op_inAll (by have := hr.un; omega), fit_in⟩
def c_notin (hr : Room k X.A) : CmpR X cA .NotIn gNotIn1 := ⟨_, op_notInAll (by have := hr.un; omega), fit_notin⟩
theorem r_cp {op : CmpOp} {g : D → D → Option R} (q : CmpR X cA op g) (ha : PE X a (tM X.K cA Wd ma)) (hb : PE X b (tM X.K cA Wd mb)) (hm : behindInMarks op b = false := by first | exact nomark _ | rfl | with_unfolding_all rfl) : PE X (.Compare a [op] [b] pos) (tM X.K cA Wd (eBin g ma mb)) := r_cmp q.o q.f ha hb hm
theorem t_cp {op : CmpOp} {g : D → D → Option R} (q : CmpR X cA op g) (ha : PE X a (tM X.K cA Wd ma)) (hb : PE X b (tM X.K cA Wd mb)) (hm : behindInMarks op b = false := by first | exact nomark _ | rfl | with_unfolding_all rfl) : PT X (.Compare a [op] [b] pos) (tMT X.K cA Wd (eTest (eBin g ma mb))) := t_cmp q.o q.f ha hb hm
theorem r_cp2 {op op' : CmpOp} {g g' : D → D → Option R} (q : CmpR X cA op g) (q' : CmpR X cA op' g') (ha : PE X a (tM X.K cA Wd ma)) (hb : PE X b (tM X.K cA Wd mb)) (hc : PE X c (tM X.K cA Wd mc)) (hm : lastMarks [op, op'] [b, c] = false := by with_unfolding_all rfl) :
    PE X (.Compare a [op, op'] [b, c] pos) (tM X.K cA Wd (eChain g g' ma mb mc)) := r_chain q.o q'.o q.f q'.f ha hb hc hm
theorem t_cp2 {op op' : CmpOp} {g g' : D → D → Option R} (q : CmpR X cA op g) (q' : CmpR X cA op' g') (ha : PE X a (tM X.K cA Wd ma)) (hb : PE X b (tM X.K cA Wd mb)) (hc : PE X c (tM X.K cA Wd mc)) (hm : lastMarks [op, op'] [b, c] = false := by with_unfolding_all rfl) :
    PT X (.Compare a [op, op'] [b, c] pos) (tMT X.K cA Wd (eTest (eChain g g' ma mb mc))) := t_chain q.o q'.o q.f q'.f ha hb hc hm

/-! ### and, or, not, if -/
theorem r_one {op : BoolOp} (h : PE X a (tM X.K cA Wd ma)) : PE X (.BoolOp op [a] pos) (tM X.K cA Wd ma) := pe_one h
theorem r_and (ha : PE X a (tM X.K cA Wd ma)) (hb : PE X (.BoolOp .And (b :: rest) pos) (tM X.K cA Wd mb)) : PE X (.BoolOp .And (a :: b :: rest) pos) (tM X.K cA Wd (eAndV ma mb)) := pe_imp (pe_and ha hb) fun _ _ _ h => rd_andV h
theorem r_or (ha : PE X a (tM X.K cA Wd ma)) (hb : PE X (.BoolOp .Or (b :: rest) pos) (tM X.K cA Wd mb)) : PE X (.BoolOp .Or (a :: b :: rest) pos) (tM X.K cA Wd (eOrV ma mb)) := pe_imp (pe_or ha hb) fun _ _ _ h => rd_orV h
theorem r_not (ha : PE X a (tM X.K cA Wd ma)) : PE X (.UnaryOp .Not a pos) (tM X.K cA Wd (eNotV ma)) := pe_imp (pe_not ha) fun _ _ _ h => rd_notV h
theorem w_and1 (ha : PT X a (tMT X.K cA Wd mt)) : PW X (.BoolOp .And [a] pos) (tMT X.K cA Wd mt) := pw_and1 ha
theorem w_or1 (ha : PT X a (tMT X.K cA Wd mt)) : PW X (.BoolOp .Or [a] pos) (tMT X.K cA Wd mt) := pw_or1 ha
theorem w_and (ha : PT X a (tMT X.K cA Wd mt)) (hb : PW X (.BoolOp .And (b :: rest) pos) (tMT X.K cA Wd mu)) : PW X (.BoolOp .And (a :: b :: rest) pos) (tMT X.K cA Wd (bAnd mt mu)) := pw_imp (pw_and ha hb) fun _ _ _ h => rd_and h
theorem w_or (ha : PT X a (tMT X.K cA Wd mt)) (hb : PW X (.BoolOp .Or (b :: rest) pos) (tMT X.K cA Wd mu)) : PW X (.BoolOp .Or (a :: b :: rest) pos) (tMT X.K cA Wd (bOr mt mu)) := pw_imp (pw_or ha hb) fun _ _ _ h => rd_or h
theorem t_w (h : PW X a (tMT X.K cA Wd mt)) : PT X a (tMT X.K cA Wd mt) := h.pt
theorem t_not (ha : PT X a (tMT X.K cA Wd mt)) : PT X (.UnaryOp .Not a pos) (tMT X.K cA Wd (bNot mt)) := pt_imp (pt_not ha) fun _ _ _ h => rd_not h
/-- any other expression by its truth -/
theorem t_tru (ha : PE X a (tM X.K cA Wd ma)) (he : ∀ whole, isTrue a X.env whole = (do let v ← whole; standAt a.pos; holding [v] (truthy v)) := by intro _; rfl) : PT X a (tMT X.K cA Wd (eTru ma)) := pt_imp (pt_truth ha he) fun _ _ _ h => rd_tru h
theorem r_if (hc : PT X c (tMT X.K cA Wd mt)) (ha : PE X a (tM X.K cA Wd ma)) (hb : PE X b (tM X.K cA Wd mb)) : PE X (.IfExp c a b pos) (tM X.K cA Wd (eIf mt ma mb)) := pe_imp (pe_ifExp hc ha hb) fun _ _ _ h => rd_if h

/-! ### fields, subscripts, slices -/
theorem r_fld {okf : Str → Str → Bool} {f : Str} (hk : ∀ C, okf C f = true → Cls X.K (cA C) ∧ NoAttr X.K (cA C) f) (ha : PE X e (tM X.K cA Wd m)) (hb : attributeBase e f X.env (eval e X.env) = eval e X.env := by rfl) : PE X (.Attribute e f pos) (tM X.K cA Wd (eFld okf m f)) :=
  pe_imp (pe_fld ha hb) fun _ _ _ h => rd_fld hk h
theorem r_ix (hr : Room k X.A) (ha : PE X a (tM X.K cA Wd ma)) (hb : PE X b (tM X.K cA Wd mb)) (hs : PlainIx b := by intro _ _; rfl) : PE X (.Subscript a b pos) (tM X.K cA Wd (eBin gIx ma mb)) :=
  pe_imp (pe_ix (ix_all (by have := hr.un; omega)) ha hb hs) fun _ _ _ h => rd_bin fit_ix h
variable {lo hi : Option Expr} {ml mh : MO}
theorem o_none : PO X none (tMO X.K cA Wd oNone) := ⟨fun pins s σ H Q I h => po_none.run pins s σ H Q I (rd_oNone h)⟩
theorem o_some (h : PE X e (tM X.K cA Wd m)) : PO X (some e) (tMO X.K cA Wd (oSome m)) := ⟨fun pins s σ H Q I h' => (po_some h).run pins s σ H Q I (rd_oSome h')⟩
theorem r_sl (ha : PE X e (tM X.K cA Wd m)) (hl : PO X lo (tMO X.K cA Wd ml)) (hh : PO X hi (tMO X.K cA Wd mh)) : PE X (.Subscript e (.Slice lo hi none p2) pos) (tM X.K cA Wd (eSl m ml mh)) :=
  pe_imp (pe_slice sl_all ha hl hh) fun _ _ _ h => rd_sl h

/-! ### built-ins -/
theorem r_callB {id : String} {x : Str} {r : List V → Hp → VK → Prop} {g : List D → Option R} {p : Pos} (hc : CallR X (.builtin id) r) (ft : FitN X.K cA r g) (hm : X.mg x = none) (hv : bootBuiltins x = some (.builtin id)) (ha : PA X (e :: es) (tMA X.K cA Wd ms)) (hg : Gl X x := by rfl) (hn : x ≠ "__name__" := by decide) (hdb : (x == ("__debug__" : Str)) = false := by decide)
    (he : starEach (e :: es) X.env = (false, eval e X.env) :: starEach es X.env := by rfl) (hpl : (backTo pos (starEach es X.env)).any (·.1) = false := by rfl) : PE X (.Call (.Name x p) (e :: es) [] pos) (tM X.K cA Wd (eCall g ms)) :=
  pe_imp (pe_callB hc hg hm hv ha hn hdb he hpl) fun _ _ _ h => rd_call ft h
theorem r_callT {T : String} {x : Str} {r : List V → Hp → VK → Prop} {g : List D → Option R} {p : Pos} (hc : CallR X (.type T) r) (ft : FitN X.K cA r g) (hm : X.mg x = none) (hv : bootBuiltins x = some (.type T)) (ha : PA X (e :: es) (tMA X.K cA Wd ms)) (hg : Gl X x := by rfl) (hn : x ≠ "__name__" := by decide) (hdb : (x == ("__debug__" : Str)) = false := by decide)
    (he : starEach (e :: es) X.env = (false, eval e X.env) :: starEach es X.env := by rfl) (hpl : (backTo pos (starEach es X.env)).any (·.1) = false := by rfl) : PE X (.Call (.Name x p) (e :: es) [] pos) (tM X.K cA Wd (eCall g ms)) :=
  pe_imp (pe_callTy hc hg hm hv ha hn hdb he hpl) fun _ _ _ h => rd_call ft h
theorem bv_len : bootBuiltins "len" = some (.builtin "len") := by decide +kernel
theorem bv_abs : bootBuiltins "abs" = some (.builtin "abs") := by decide +kernel
theorem bv_min : bootBuiltins "min" = some (.builtin "min") := by decide +kernel
theorem bv_max : bootBuiltins "max" = some (.builtin "max") := by decide +kernel
theorem bv_sum : bootBuiltins "sum" = some (.builtin "sum") := by decide +kernel
theorem bv_all : bootBuiltins "all" = some (.builtin "all") := by decide +kernel
theorem bv_sorted : bootBuiltins "sorted" = some (.builtin "sorted") := by decide +kernel
theorem bv_int : bootBuiltins "int" = some (.type "int") := by decide +kernel
theorem bv_str : bootBuiltins "str" = some (.type "str") := by decide +kernel
theorem bv_list : bootBuiltins "list" = some (.type "list") := by decide +kernel
theorem bv_tuple : bootBuiltins "tuple" = some (.type "tuple") := by decide +kernel
theorem bv_dict : bootBuiltins "dict" = some (.type "dict") := by decide +kernel
variable {p : Pos}
theorem r_len (hm : X.mg "len" = none) (ha : PA X (e :: es) (tMA X.K cA Wd ms)) (hg : Gl X "len" := by rfl) (he : starEach (e :: es) X.env = (false, eval e X.env) :: starEach es X.env := by rfl) (hpl : (backTo pos (starEach es X.env)).any (·.1) = false := by rfl) : PE X (.Call (.Name "len" p) (e :: es) [] pos) (tM X.K cA Wd (eCall gLen ms)) := r_callB call_lenAll fit_len hm bv_len ha hg (by decide) (by decide) he hpl
theorem r_abs (hm : X.mg "abs" = none) (ha : PA X (e :: es) (tMA X.K cA Wd ms)) (hg : Gl X "abs" := by rfl) (he : starEach (e :: es) X.env = (false, eval e X.env) :: starEach es X.env := by rfl) (hpl : (backTo pos (starEach es X.env)).any (·.1) = false := by rfl) : PE X (.Call (.Name "abs" p) (e :: es) [] pos) (tM X.K cA Wd (eCall gAbs ms)) := r_callB call_abs fit_abs hm bv_abs ha hg (by decide) (by decide) he hpl
theorem r_min (hr : Room k X.A) (hm : X.mg "min" = none) (ha : PA X (e :: es) (tMA X.K cA Wd ms)) (hc : X.calm = true := by rfl) (hg : Gl X "min" := by rfl) (he : starEach (e :: es) X.env = (false, eval e X.env) :: starEach es X.env := by rfl) (hpl : (backTo pos (starEach es X.env)).any (·.1) = false := by rfl) : PE X (.Call (.Name "min" p) (e :: es) [] pos) (tM X.K cA Wd (eCall gMin ms)) := r_callB (call_minAll hc (by have := hr.un; omega)) fit_best hm bv_min ha hg (by decide) (by decide) he hpl
theorem r_max (hr : Room k X.A) (hm : X.mg "max" = none) (ha : PA X (e :: es) (tMA X.K cA Wd ms)) (hc : X.calm = true := by rfl) (hg : Gl X "max" := by rfl) (he : starEach (e :: es) X.env = (false, eval e X.env) :: starEach es X.env := by rfl) (hpl : (backTo pos (starEach es X.env)).any (·.1) = false := by rfl) : PE X (.Call (.Name "max" p) (e :: es) [] pos) (tM X.K cA Wd (eCall gMax ms)) := r_callB (call_maxAll hc (by have := hr.un; omega)) fit_best hm bv_max ha hg (by decide) (by decide) he hpl
theorem r_sum (hm : X.mg "sum" = none) (ha : PA X (e :: es) (tMA X.K cA Wd ms)) (hc : X.calm = true := by rfl) (hg : Gl X "sum" := by rfl) (he : starEach (e :: es) X.env = (false, eval e X.env) :: starEach es X.env := by rfl) (hpl : (backTo pos (starEach es X.env)).any (·.1) = false := by rfl) : PE X (.Call (.Name "sum" p) (e :: es) [] pos) (tM X.K cA Wd (eCall gSum ms)) := r_callB (cr_sum hc) fit_sum hm bv_sum ha hg (by decide) (by decide) he hpl
theorem r_sorted (hr : Room k X.A) (hm : X.mg "sorted" = none) (ha : PA X (e :: es) (tMA X.K cA Wd ms)) (hc : X.calm = true := by rfl) (hg : Gl X "sorted" := by rfl) (he : starEach (e :: es) X.env = (false, eval e X.env) :: starEach es X.env := by rfl) (hpl : (backTo pos (starEach es X.env)).any (·.1) = false := by rfl) : PE X (.Call (.Name "sorted" p) (e :: es) [] pos) (tM X.K cA Wd (eCall gSorted ms)) := r_callB (call_sortAll hc (by have := hr.un; omega)) fit_sorted hm bv_sorted ha hg (by decide) (by decide) he hpl
theorem r_intc (hm : X.mg "int" = none) (ha : PA X (e :: es) (tMA X.K cA Wd ms)) (hg : Gl X "int" := by rfl) (he : starEach (e :: es) X.env = (false, eval e X.env) :: starEach es X.env := by rfl) (hpl : (backTo pos (starEach es X.env)).any (·.1) = false := by rfl) : PE X (.Call (.Name "int" p) (e :: es) [] pos) (tM X.K cA Wd (eCall gInt ms)) := r_callT call_int1 fit_int hm bv_int ha hg (by decide) (by decide) he hpl
theorem r_strc (hm : X.mg "str" = none) (ha : PA X (e :: es) (tMA X.K cA Wd ms)) (hg : Gl X "str" := by rfl) (he : starEach (e :: es) X.env = (false, eval e X.env) :: starEach es X.env := by rfl) (hpl : (backTo pos (starEach es X.env)).any (·.1) = false := by rfl) : PE X (.Call (.Name "str" p) (e :: es) [] pos) (tM X.K cA Wd (eCall gStr ms)) := r_callT call_str_int fit_str hm bv_str ha hg (by decide) (by decide) he hpl
theorem r_list (hm : X.mg "list" = none) (ha : PA X (e :: es) (tMA X.K cA Wd ms)) (hc : X.calm = true := by rfl) (hg : Gl X "list" := by rfl) (he : starEach (e :: es) X.env = (false, eval e X.env) :: starEach es X.env := by rfl) (hpl : (backTo pos (starEach es X.env)).any (·.1) = false := by rfl) : PE X (.Call (.Name "list" p) (e :: es) [] pos) (tM X.K cA Wd (eCall gList ms)) := r_callT (call_listAll hc) fit_list hm bv_list ha hg (by decide) (by decide) he hpl
theorem r_tuple (hm : X.mg "tuple" = none) (ha : PA X (e :: es) (tMA X.K cA Wd ms)) (hg : Gl X "tuple" := by rfl) (he : starEach (e :: es) X.env = (false, eval e X.env) :: starEach es X.env := by rfl) (hpl : (backTo pos (starEach es X.env)).any (·.1) = false := by rfl) : PE X (.Call (.Name "tuple" p) (e :: es) [] pos) (tM X.K cA Wd (eCall gTuple ms)) := r_callT call_tuple_of fit_tuple hm bv_tuple ha hg (by decide) (by decide) he hpl
theorem r_dict (hm : X.mg "dict" = none) (ha : PA X (e :: es) (tMA X.K cA Wd ms)) (hc : X.calm = true := by rfl) (hg : Gl X "dict" := by rfl) (he : starEach (e :: es) X.env = (false, eval e X.env) :: starEach es X.env := by rfl) (hpl : (backTo pos (starEach es X.env)).any (·.1) = false := by rfl) : PE X (.Call (.Name "dict" p) (e :: es) [] pos) (tM X.K cA Wd (eCall gDict ms)) := r_callT (call_dictAll hc) fit_dict hm bv_dict ha hg (by decide) (by decide) he hpl

/-! ### views -/
theorem r_listI (hm : X.mg "list" = none) (ho : PE X o (tM X.K cA Wd m)) (hc : X.calm = true := by rfl) (hg : Gl X "list" := by rfl) (hb : attributeBase o "items" X.env (eval o X.env) = eval o X.env := by rfl) (hl : (apos.endLine == cpos.line) = true := by rfl) (hs : starEach [Expr.Call (.Attribute o "items" apos) [] [] cpos] X.env = (false, eval (Expr.Call (.Attribute o "items" apos) [] [] cpos) X.env) :: starEach [] X.env := by rfl) :
    PE X (.Call (.Name "list" p) [.Call (.Attribute o "items" apos) [] [] cpos] [] pos) (tM X.K cA Wd (eUn gListI m)) :=
  pe_imp (pe_callTy (call_listI hc) hg hm bv_list (pa_cons (pe_viewI ho hb hl) pa_nil hs) (by decide) (by decide) hs (by rfl)) fun _ _ _ h => rd_un fit_listI h
theorem r_listV (hm : X.mg "list" = none) (ho : PE X o (tM X.K cA Wd m)) (hc : X.calm = true := by rfl) (hg : Gl X "list" := by rfl) (hb : attributeBase o "values" X.env (eval o X.env) = eval o X.env := by rfl) (hl : (apos.endLine == cpos.line) = true := by rfl) (hs : starEach [Expr.Call (.Attribute o "values" apos) [] [] cpos] X.env = (false, eval (Expr.Call (.Attribute o "values" apos) [] [] cpos) X.env) :: starEach [] X.env := by rfl) :
    PE X (.Call (.Name "list" p) [.Call (.Attribute o "values" apos) [] [] cpos] [] pos) (tM X.K cA Wd (eUn gListV m)) :=
  pe_imp (pe_callTy (call_listV hc) hg hm bv_list (pa_cons (pe_viewV ho hb hl) pa_nil hs) (by decide) (by decide) hs (by rfl)) fun _ _ _ h => rd_un fit_listV h
theorem r_sumV (hm : X.mg "sum" = none) (ho : PE X o (tM X.K cA Wd m)) (hc : X.calm = true := by rfl) (hg : Gl X "sum" := by rfl) (hb : attributeBase o "values" X.env (eval o X.env) = eval o X.env := by rfl) (hl : (apos.endLine == cpos.line) = true := by rfl) (hs : starEach [Expr.Call (.Attribute o "values" apos) [] [] cpos] X.env = (false, eval (Expr.Call (.Attribute o "values" apos) [] [] cpos) X.env) :: starEach [] X.env := by rfl) :
    PE X (.Call (.Name "sum" p) [.Call (.Attribute o "values" apos) [] [] cpos] [] pos) (tM X.K cA Wd (eUn gSumV m)) :=
  pe_imp (pe_callB (call_sumV hc) hg hm bv_sum (pa_cons (pe_viewV ho hb hl) pa_nil hs) (by decide) (by decide) hs (by rfl)) fun _ _ _ h => rd_un fit_sumV h
theorem r_sortI (hr : Room k X.A) (hm : X.mg "sorted" = none) (ho : PE X o (tM X.K cA Wd m)) (hc : X.calm = true := by rfl) (hg : Gl X "sorted" := by rfl) (hb : attributeBase o "items" X.env (eval o X.env) = eval o X.env := by rfl) (hl : (apos.endLine == cpos.line) = true := by rfl) (hs : starEach [Expr.Call (.Attribute o "items" apos) [] [] cpos] X.env = (false, eval (Expr.Call (.Attribute o "items" apos) [] [] cpos) X.env) :: starEach [] X.env := by rfl) :
    PE X (.Call (.Name "sorted" p) [.Call (.Attribute o "items" apos) [] [] cpos] [] pos) (tM X.K cA Wd (eUn gSortI m)) :=
  pe_imp (pe_callB (call_sortI' hc (by have := hr.un; omega)) hg hm bv_sorted (pa_cons (pe_viewI ho hb hl) pa_nil hs) (by decide) (by decide) hs (by rfl)) fun _ _ _ h => rd_un fit_sortI h
theorem r_get2 (hr : Room k X.A) {f : Expr} {mf : ME} (ho : PE X o (tM X.K cA Wd m)) (he : PE X e (tM X.K cA Wd ma)) (hf : PE X f (tM X.K cA Wd mf)) (h1 : attributeBase o "get" X.env (eval o X.env) = eval o X.env := by rfl) (h3 : (apos.endLine == cpos.line) = true := by rfl)
    (h2 : ((backTo cpos (starEach [e, f] X.env)).all (fun x => !x.1) && (backToKw cpos (keywordEach [] X.env)).all (fun x => x.1.isSome) && decide (([e, f] : List Expr).length + ([] : List Keyword).length + (if ([] : List Keyword).isEmpty then 0 else 1) < 30)) = true := by rfl) (h4 : backTo cpos (starEach [e, f] X.env) = [(false, eval e X.env), (false, eval f X.env)] := by rfl) :
    PE X (.Call (.Attribute o "get" apos) [e, f] [] cpos) (tM X.K cA Wd (eDGet2 m ma mf)) := pe_imp (pe_dget2 (by have := hr.un; omega) ho he hf ⟨h1, h2, h3, h4⟩) fun _ _ _ h => rd_dget2 h
theorem r_pop1 (ho : PE X o (tM X.K cA Wd m)) (he : PE X e (tM X.K cA Wd ma)) (h1 : attributeBase o "pop" X.env (eval o X.env) = eval o X.env := by rfl) (h3 : (apos.endLine == cpos.line) = true := by rfl)
    (h2 : ((backTo cpos (starEach [e] X.env)).all (fun x => !x.1) && (backToKw cpos (keywordEach [] X.env)).all (fun x => x.1.isSome) && decide (([e] : List Expr).length + ([] : List Keyword).length + (if ([] : List Keyword).isEmpty then 0 else 1) < 30)) = true := by rfl) (h4 : backTo cpos (starEach [e] X.env) = [(false, eval e X.env)] := by rfl) :
    PE X (.Call (.Attribute o "pop" apos) [e] [] cpos) (tM X.K cA Wd (eDPop1 m ma)) := pe_imp (pe_dpop1 ho he ⟨h1, h2, h3, h4⟩) fun _ _ _ h => rd_dpop1 h
end
end Rf
set_option maxHeartbeats 1000000
/-! Rf22: the rules of statements, walks, comprehensions, calls. -/
namespace Rf
open PySem PySem.Spec L2
open PyProof.Rows hiding St

theorem ps_or2 {X : Cx} {st : Stmt} {t t' : TS} (h : PS X st t) (h' : PS X st t') : PS X st (fun D σ H => t D σ H ∨ t' D σ H) := ⟨fun pins s σ H D I q => q.elim (h.run pins s σ H D I) (h'.run pins s σ H D I)⟩
section
variable {X : Cx} {cA : CA} {Wd : WX} {k : Nat} {a b c e o iter tg : Expr} {es rest : List Expr} {pos pos' p p2 apos cpos : Pos} {ma mb mc m : ME} {ms : MA} {mt mu : MT} {sa sb : List Stmt} {na nb : MS} {st : Stmt}

/-! ### statements -/
theorem s_pass : PS X (.Pass pos) (tMS X.K cA Wd sSkip) := ps_imp ps_pass fun _ _ _ h => rd_skip h
theorem s_break : PS X (.Break pos) (tMS X.K cA Wd sBk) := ps_imp ps_break fun _ _ _ h => rd_bk h
theorem s_continue : PS X (.Continue pos) (tMS X.K cA Wd sCt) := ps_imp ps_continue fun _ _ _ h => rd_ct h
theorem s_expr (he : PE X e (tM X.K cA Wd m)) (hs : swapsWith e none pos.line X.env = pure false := by rfl) : PS X (.Expr e pos) (tMS X.K cA Wd (sDrop m)) := ps_imp (ps_expr he hs) fun _ _ _ h => rd_drop h
theorem s_ret (he : PE X e (tM X.K cA Wd m)) : PS X (.Return (some e) pos) (tMS X.K cA Wd (sRet m)) := ps_imp (ps_ret he) fun _ _ _ h => rd_ret h
theorem s_retN : PS X (.Return none pos) (tMS X.K cA Wd sRetN) := ps_imp ps_retN fun _ _ _ h => rd_retN h
theorem s_if (hc : PT X c (tMT X.K cA Wd mt)) (ha : PSs X sa (tMS X.K cA Wd na)) (hb : PSs X sb (tMS X.K cA Wd nb)) : PS X (.If c sa sb pos) (tMS X.K cA Wd (sIf mt na nb)) := ps_imp (ps_if hc ha hb) fun _ _ _ h => rd_ifS h
theorem ss_nil : PSs X [] (tMS X.K cA Wd sSkip) := pss_imp pss_nil fun _ _ _ h => rd_skip h
theorem ss_one (h : PS X st (tMS X.K cA Wd na)) : PSs X [st] (tMS X.K cA Wd na) := pss_one h
theorem ss_cons (h : PS X st (tMS X.K cA Wd na)) (h2 : PSs X sa (tMS X.K cA Wd nb)) : PSs X (st :: sa) (tMS X.K cA Wd (sSeq na nb)) := pss_imp (pss_cons h h2) fun _ _ _ h => rd_seq h
/-- x = e -/
theorem s_set (i : Nat) {x : Str} (hN : X.N.Nodup) (he : PE X e (tM X.K cA Wd m)) (hi : X.N[i]? = some x := by rfl) (hx : Loc X.env.scope x := by first | exact Or.inl rfl | exact Or.inr rfl) (hs : swapsWith e (some (.Name x pos')) pos.line X.env = pure false := by rfl) (hf : X.fn x = true ∨ X.env.scope.names.lookup x = some .local := by first | exact .inl rfl | exact .inr rfl) :
    PS X (.Assign [.Name x pos'] e pos) (tMS X.K cA Wd (sSet i m)) := ps_imp (ps_set hN hi hx he hs hf) fun _ _ _ h => rd_set h
theorem s_asg {g : TG} {us : List Nat} {tg' : TgM} (gf : GFit X.K cA us g tg') (he : PE X e (tM X.K cA Wd m)) (hg : PG X tg g) (hs : swapsWithSole [tg] e pos.line X.env = pure false := by rfl) (hw : swappedStores [tg] e X.env = pure none := by rfl) (h1 : (assignEach [tg] X.env).map (·.2) = [assign tg X.env] := by rfl) :
    PS X (.Assign [tg] e pos) (tMS X.K cA Wd (sAsgT m tg')) := ps_imp (ps_asg he hg hs hw h1) fun _ _ _ h => rd_asgT gf h
/-- o[i] = e -/
theorem s_put (hr : Room k X.A) (he : PE X e (tM X.K cA Wd m)) (ho : PE X o (tM X.K cA Wd ma)) (hi : PE X a (tM X.K cA Wd mb)) (ha : ∀ v, assign (.Subscript o a pos') X.env v = (do
      let ov ← holding [v] (eval o X.env)
      let iv ← holding [v, ov] (eval a X.env)
      standAt pos'
      holding [v, ov, iv] (setItem ov iv v)
      release [v, ov, iv] []) := by intro _; rfl) (hs : swapsWithSole [.Subscript o a pos'] e pos.line X.env = pure false := by rfl) (hw : swappedStores [.Subscript o a pos'] e X.env = pure none := by rfl) (h1 : (assignEach [.Subscript o a pos'] X.env).map (·.2) = [assign (.Subscript o a pos') X.env] := by rfl) :
    PS X (.Assign [.Subscript o a pos'] e pos) (tMS X.K cA Wd (sPut ma mb m)) := ps_imp (ps_asg he (pg_sub ho hi (set_all (by have := hr.un; omega)) ha) hs hw h1) fun _ _ _ h => rd_sput h
/-- o.f = e -/
theorem s_fld {okf : Str → Str → Bool} {f : Str} (hk : ∀ C, okf C f = true → Cls X.K (cA C) ∧ NoAttr X.K (cA C) f) (ho : PE X o (tM X.K cA Wd ma)) (he : PE X e (tM X.K cA Wd m)) (hs : swapsWith e (some (.Attribute o f pos')) pos.line X.env = pure false := by rfl) :
    PS X (.Assign [.Attribute o f pos'] e pos) (tMS X.K cA Wd (sFldM okf ma m f)) := ps_imp (ps_fld ho he hs) fun _ _ _ h => rd_sfld hk h
/-- x op= e -/
theorem s_aug (i : Nat) {x : Str} {op : Operator} {r : R2} {g : D → D → Option R} (hop : OpR X (inplaceOp op) r) (ft : Fit2 X.K cA r g) (hN : X.N.Nodup) (he : PE X e (tM X.K cA Wd m)) (hi : X.N[i]? = some x := by rfl) (hx : Loc X.env.scope x := by first | exact Or.inl rfl | exact Or.inr rfl) (hf : X.fn x = true ∨ X.env.scope.names.lookup x = some .local := by first | exact .inl rfl | exact .inr rfl) :
    PS X (.AugAssign (.Name x pos') op e pos) (tMS X.K cA Wd (sAug i g m)) := ps_imp (ps_aug hN hi hx he hop hf) fun _ _ _ h => rd_aug ft h
theorem s_while (n : Nat) (hp : PassesOwn (model X.prog X.w) X.A X.env X.xe) (hc : PT X c (tMT X.K cA Wd mt)) (hb : PSs X sa (tMS X.K cA Wd na)) : PS X (.While c sa [] pos) (tMS X.K cA Wd (sWhile mt na n)) := ps_imp (ps_while hp hc hb) fun _ _ _ h => rd_while h

/-! ### targets -/
variable {us vs : List Nat} {g : TG} {tg' : TgM} {mi : MI}
/-! ### walks -/
theorem i_seq (h : PE X e (tM X.K cA Wd m)) : PI X tg e (tMI X.K cA Wd (iSeq m)) := pi_imp (pi_or (pi_list h) (pi_or (pi_tup h) (pi_str h))) fun _ _ _ h => rd_seqI h
theorem i_rng1 (hm : X.mg "range" = none) (h : PA X [a] (tMA X.K cA Wd ms)) (hg : Gl X "range" := by rfl) (hs : starEach [a] X.env = [(false, eval a X.env)] := by rfl) : PI X tg (.Call (.Name "range" p) [a] [] pos) (tMI X.K cA Wd (iArg fRng1 ms)) := pi_imp (pi_range1 hg hm h hs) fun _ _ _ h => rd_rng1 h
theorem i_rng2 (hm : X.mg "range" = none) (h : PA X [a, b] (tMA X.K cA Wd ms)) (hg : Gl X "range" := by rfl) (hs : starEach [a, b] X.env = [(false, eval a X.env), (false, eval b X.env)] := by rfl) (hs2 : starEach [b] X.env = [(false, eval b X.env)] := by rfl) : PI X tg (.Call (.Name "range" p) [a, b] [] pos) (tMI X.K cA Wd (iArg fRng2 ms)) := pi_imp (pi_range2 hg hm h hs hs2) fun _ _ _ h => rd_rng2 h
theorem i_rng3 (hm : X.mg "range" = none) (h : PA X [a, b, c] (tMA X.K cA Wd ms)) (hg : Gl X "range" := by rfl) (hs : starEach [a, b, c] X.env = (false, eval a X.env) :: starEach [b, c] X.env := by rfl) (hpl : (backTo pos (starEach [b, c] X.env)).any (·.1) = false := by rfl) : PI X tg (.Call (.Name "range" p) [a, b, c] [] pos) (tMI X.K cA Wd (iArg fRngDown ms)) := pi_imp (pi_range3 hg hm h hs hpl) fun _ _ _ h => rd_rng3 h
theorem s_for (hp : PassesOwn (model X.prog X.w) X.A X.env X.xe) (gf : GFit X.K cA us g tg') (hi : PI X tg iter (tMI X.K cA Wd mi)) (hg : PG X tg g) (hb : PSs X sa (tMS X.K cA Wd na)) (hc : X.calm = true := by rfl) (hs : ∀ x, foldedSetIterable iter X.env x = pure x := by intro _; rfl) : PS X (.For tg iter sa [] pos) (tMS X.K cA Wd (sFor mi tg' na)) := ps_imp (ps_for hp hc hi hg hb hs) fun _ _ _ h => rd_for gf h
/-- over a dict, locked meanwhile -/
theorem s_forK (hp : PassesOwn (model X.prog X.w) X.A X.env X.xe) (ls : LkSrc X.K cA ma m) (gf : GFit X.K cA us g tg') (he : PE X iter (tM X.K cA Wd m)) (hg : PG X tg g) (hb : PSs X sa (tMS X.K cA Wd na)) (hc : X.calm = true := by rfl) (hs : ∀ x, foldedSetIterable iter X.env x = pure x := by intro _; rfl) :
    PS X (.For tg iter sa [] pos) (tMS X.K cA Wd (sLock ma (sFor (iDct keysD' m) tg' na))) :=
  have h := ps_for hp hc (pi_keys he) hg hb hs
  ps_imp (ps_or2 (ps_lock h) h) fun _ _ _ h => lockS_at ls (fun R em lr h => for_at gf (wi_keys R em lr) h) h
theorem s_forI {elts : List Expr} {kk : Nat} {tpos : Pos} (hp : PassesOwn (model X.prog X.w) X.A X.env X.xe) (ls : LkSrc X.K cA ma m) (gf : GFit X.K cA us g tg') (he : PE X o (tM X.K cA Wd m)) (hg : PG X (.Tuple elts kk tpos) g) (hb : PSs X sa (tMS X.K cA Wd na)) (hc : X.calm = true := by rfl) (h1 : attributeBase o "items" X.env (eval o X.env) = eval o X.env := by rfl) (h2 : (apos.endLine == cpos.line) = true := by rfl) (hs : ∀ x, foldedSetIterable (.Call (.Attribute o "items" apos) [] [] cpos) X.env x = pure x := by intro _; rfl) :
    PS X (.For (.Tuple elts kk tpos) (.Call (.Attribute o "items" apos) [] [] cpos) sa [] pos) (tMS X.K cA Wd (sLock ma (sFor (iDct itemsD m) tg' na))) :=
  have h := ps_for hp hc (pi_items he h1 h2) hg hb hs
  ps_imp (ps_or2 (ps_lock h) h) fun _ _ _ h => lockS_at ls (fun R em lr h => for_at gf (wi_items R em lr) h) h

/-! ### list comprehensions -/
variable {elt : Expr} {ifs : List Expr} {scope : Scope} {own : List (Str × Nat)}
abbrev NoX : WX := fun _ _ _ _ => False
theorem ts_nil : PTs X [] (tMT X.K cA Wd mYes) := ⟨fun pins s σ H Q I h => pts_nil.run pins s σ H Q I (rd_yes h)⟩
theorem ts_one (h : PT X c (tMT X.K cA Wd mt)) : PTs X [c] (tMT X.K cA Wd mt) := pts_one h
/-- the inner judgements of a block -/
abbrev InBlk (X : Cx) (scope : Scope) (J : Cx → Prop) : Prop := ∀ (s : Shared) (H : Hp) (C : Addr) (cl : List (Str × Addr)) (fp : List Addr), J (X.blk s H scope (compEnvC scope cl C X.env) fp)
theorem r_lc (hN : X.N.Nodup) (ok : blkC X.N X.env.scope scope own = true) (gf : GFit X.K cA us g tg') (hu : ∀ i ∈ us, i ∈ own.map (·.2)) (hi : PI X tg iter (tMI X.K cA Wd mi)) (hg : InBlk X scope fun Y => PG Y tg g) (ht : InBlk X scope fun Y => PTs Y ifs (tMT X.K cA NoX mt)) (he : InBlk X scope fun Y => PE Y elt (tM X.K cA NoX m))
    (hc : X.calm = true := by rfl) (hs : ∀ x, foldedSetIterable iter X.env x = pure x := by intro _; rfl) : PE X (.ListComp elt [⟨tg, iter, ifs, 0⟩] scope pos) (tM X.K cA Wd (eLc mi (own.map (·.2)) tg' mt m)) :=
  pe_imp (pe_lc hc hN hi (blkOk_by ok) hg ht he hs) fun _ _ _ h => rd_lc gf hu h
theorem r_lcK (hN : X.N.Nodup) (ok : blkC X.N X.env.scope scope own = true) (ls : LkSrc X.K cA ma mb) (gf : GFit X.K cA us g tg') (hu : ∀ i ∈ us, i ∈ own.map (·.2)) (hd : PE X iter (tM X.K cA Wd mb)) (hg : InBlk X scope fun Y => PG Y tg g) (ht : InBlk X scope fun Y => PTs Y ifs (tMT X.K cA NoX mt)) (he : InBlk X scope fun Y => PE Y elt (tM X.K cA NoX m))
    (hc : X.calm = true := by rfl) (hs : ∀ x, foldedSetIterable iter X.env x = pure x := by intro _; rfl) : PE X (.ListComp elt [⟨tg, iter, ifs, 0⟩] scope pos) (tM X.K cA Wd (eLock ma (eLc (iDct keysD' mb) (own.map (·.2)) tg' mt m))) :=
  have h := pe_lc hc hN (pi_keys hd) (blkOk_by ok) hg ht he hs
  pe_imp (pe_or2 (pe_lock h) h) fun _ _ _ h => lockE_at ls (fun R em lr h => lc_at gf hu (wi_keys R em lr) h) h
theorem r_lcI {elts : List Expr} {kk : Nat} {tpos : Pos} (hN : X.N.Nodup) (ok : blkC X.N X.env.scope scope own = true) (ls : LkSrc X.K cA ma mb) (gf : GFit X.K cA us g tg') (hu : ∀ i ∈ us, i ∈ own.map (·.2)) (hd : PE X o (tM X.K cA Wd mb)) (hg : InBlk X scope fun Y => PG Y (.Tuple elts kk tpos) g) (ht : InBlk X scope fun Y => PTs Y ifs (tMT X.K cA NoX mt)) (he : InBlk X scope fun Y => PE Y elt (tM X.K cA NoX m))
    (hc : X.calm = true := by rfl) (h1 : attributeBase o "items" X.env (eval o X.env) = eval o X.env := by rfl) (h2 : (apos.endLine == cpos.line) = true := by rfl) (hs : ∀ x, foldedSetIterable (.Call (.Attribute o "items" apos) [] [] cpos) X.env x = pure x := by intro _; rfl) :
    PE X (.ListComp elt [⟨.Tuple elts kk tpos, .Call (.Attribute o "items" apos) [] [] cpos, ifs, 0⟩] scope pos) (tM X.K cA Wd (eLock ma (eLc (iDct itemsD mb) (own.map (·.2)) tg' mt m))) :=
  have h := pe_lc hc hN (pi_items hd h1 h2) (blkOk_by ok) hg ht he hs
  pe_imp (pe_or2 (pe_lock h) h) fun _ _ _ h => lockE_at ls (fun R em lr h => lc_at gf hu (wi_items R em lr) h) h
/-- x = [..] on one line -/
theorem s_setLc (i : Nat) {x : Str} (hN : X.N.Nodup) (ok : blkC X.N X.env.scope scope own = true) (gf : GFit X.K cA us g tg') (hu : ∀ i ∈ us, i ∈ own.map (·.2)) (hi : PI X tg iter (tMI X.K cA Wd mi)) (hg : InBlk X scope fun Y => PG Y tg g) (ht : InBlk X scope fun Y => PTs Y ifs (tMT X.K cA NoX mt)) (he : InBlk X scope fun Y => PE Y elt (tM X.K cA NoX m))
    (hsw : swapsWith (.ListComp elt [⟨tg, iter, ifs, 0⟩] scope p2) (some (.Name x pos')) pos.line X.env = pure true := by rfl) (hy : X.N[i]? = some x := by rfl) (hyl : X.env.scope.names.lookup x = some .local := by rfl) (hc : X.calm = true := by rfl) (hs : ∀ x, foldedSetIterable iter X.env x = pure x := by intro _; rfl) :
    PS X (.Assign [.Name x pos'] (.ListComp elt [⟨tg, iter, ifs, 0⟩] scope p2) pos) (tMS X.K cA Wd (sSet i (eLc mi (own.map (·.2)) tg' mt m))) := by
  exact ps_imp (ps_setLc hc hN hy hyl hsw hi (blkOk_by ok) hg ht he hs) fun D σ H h => rd_lc gf hu (rd_set h)

/-! ### generator expressions -/
abbrev InGx (X : Cx) (scope : Scope) (k : Nat) (J : Cx → Prop) : Prop := ∀ (A : Around) (s : Shared) (H : Hp) (C : Addr) (code : Value) (ex : List Addr) (pn : List (Addr × Obj)), Room k A → J (RfG.gxCx X A s H (RfG.gxEnv X scope C code) ex pn)
variable {gpos : Pos} {cc P : Addr}
theorem r_sumG (hr : Room (k + 1) X.A) (hm : X.mg "sum" = none) (G : RfG.GxOk X scope own cc P) (GT : GxTab cA P gpos) (gf : GFit X.K cA us g tg') (hu : ∀ i ∈ us, i ∈ own.map (·.2)) (hi : PI X tg iter (tMI X.K cA Wd mi)) (pg : InGx X scope k fun Y => PG Y tg g) (pt : InGx X scope k fun Y => PTs Y ifs (tMT X.K cA NoX mt)) (pe : InGx X scope k fun Y => PE Y elt (tM X.K cA NoX m))
    (hg : Gl X "sum" := by rfl) (hs : ∀ v, genFold iter X.env v = pure v := by intro _; rfl) (he : starEach [.GeneratorExp elt [⟨tg, iter, ifs, 0⟩] scope gpos] X.env = (false, eval (.GeneratorExp elt [⟨tg, iter, ifs, 0⟩] scope gpos) X.env) :: starEach [] X.env := by rfl) :
    PE X (.Call (.Name "sum" p) [.GeneratorExp elt [⟨tg, iter, ifs, 0⟩] scope gpos] [] pos) (tM X.K cA Wd (eSumG mi (own.map (·.2)) tg' mt m)) :=
  pe_imp (RfG.pe_sumG hr hg hm bv_sum G hi pg pt pe hs he) fun _ _ _ h => rd_sumG gf hu GT h
theorem r_anyG (hr : Room (k + 1) X.A) (hm : X.mg "any" = none) (G : RfG.GxOk X scope own cc P) (GT : GxTab cA P gpos) (gf : GFit X.K cA us g tg') (hu : ∀ i ∈ us, i ∈ own.map (·.2)) (hi : PI X tg iter (tMI X.K cA Wd mi)) (pg : InGx X scope k fun Y => PG Y tg g) (pt : InGx X scope k fun Y => PTs Y ifs (tMT X.K cA NoX mt)) (pe : InGx X scope k fun Y => PE Y elt (tM X.K cA NoX m))
    (hg : Gl X "any" := by rfl) (hs : ∀ v, genFold iter X.env v = pure v := by intro _; rfl) (he : starEach [.GeneratorExp elt [⟨tg, iter, ifs, 0⟩] scope gpos] X.env = (false, eval (.GeneratorExp elt [⟨tg, iter, ifs, 0⟩] scope gpos) X.env) :: starEach [] X.env := by rfl) :
    PE X (.Call (.Name "any" p) [.GeneratorExp elt [⟨tg, iter, ifs, 0⟩] scope gpos] [] pos) (tM X.K cA Wd (eQu true mi (own.map (·.2)) tg' mt m)) :=
  pe_imp (RfG.pe_anyG hr hg hm G hi pg pt pe hs he) fun _ _ _ h => rd_any gf hu GT h
theorem r_allG (hr : Room (k + 1) X.A) (hm : X.mg "all" = none) (G : RfG.GxOk X scope own cc P) (GT : GxTab cA P gpos) (gf : GFit X.K cA us g tg') (hu : ∀ i ∈ us, i ∈ own.map (·.2)) (hi : PI X tg iter (tMI X.K cA Wd mi)) (pg : InGx X scope k fun Y => PG Y tg g) (pt : InGx X scope k fun Y => PTs Y ifs (tMT X.K cA NoX mt)) (pe : InGx X scope k fun Y => PE Y elt (tM X.K cA NoX m))
    (hg : Gl X "all" := by rfl) (hs : ∀ v, genFold iter X.env v = pure v := by intro _; rfl) (he : starEach [.GeneratorExp elt [⟨tg, iter, ifs, 0⟩] scope gpos] X.env = (false, eval (.GeneratorExp elt [⟨tg, iter, ifs, 0⟩] scope gpos) X.env) :: starEach [] X.env := by rfl) :
    PE X (.Call (.Name "all" p) [.GeneratorExp elt [⟨tg, iter, ifs, 0⟩] scope gpos] [] pos) (tM X.K cA Wd (eQu false mi (own.map (·.2)) tg' mt m)) :=
  pe_imp (RfG.pe_allG hr hg hm bv_all G hi pg pt pe hs he) fun _ _ _ h => rd_all gf hu GT h
/-- the same over d.values(), d.items(), locked meanwhile -/
theorem r_sumGV (hr : Room (k + 1) X.A) (hm : X.mg "sum" = none) (ls : LkSrc X.K cA ma mb) (G : RfG.GxOk X scope own cc P) (GT : GxTab cA P gpos) (gf : GFit X.K cA us g tg') (hu : ∀ i ∈ us, i ∈ own.map (·.2)) (hd : PE X o (tM X.K cA Wd mb)) (pg : InGx X scope k fun Y => PG Y tg g) (pt : InGx X scope k fun Y => PTs Y ifs (tMT X.K cA NoX mt)) (pe : InGx X scope k fun Y => PE Y elt (tM X.K cA NoX m))
    (hg : Gl X "sum" := by rfl) (h1 : attributeBase o "values" X.env (eval o X.env) = eval o X.env := by rfl) (h2 : (apos.endLine == cpos.line) = true := by rfl) (hs : ∀ v, genFold (.Call (.Attribute o "values" apos) [] [] cpos) X.env v = pure v := by intro _; rfl)
    (he : starEach [.GeneratorExp elt [⟨tg, .Call (.Attribute o "values" apos) [] [] cpos, ifs, 0⟩] scope gpos] X.env = (false, eval (.GeneratorExp elt [⟨tg, .Call (.Attribute o "values" apos) [] [] cpos, ifs, 0⟩] scope gpos) X.env) :: starEach [] X.env := by rfl) :
    PE X (.Call (.Name "sum" p) [.GeneratorExp elt [⟨tg, .Call (.Attribute o "values" apos) [] [] cpos, ifs, 0⟩] scope gpos] [] pos) (tM X.K cA Wd (eLock ma (eSumG (iDct valsD mb) (own.map (·.2)) tg' mt m))) :=
  have h := RfG.pe_sumG hr hg hm bv_sum G (pi_values hd h1 h2) pg pt pe hs he
  pe_imp (pe_or2 (pe_lock h) h) fun _ _ _ h => lockE_at ls (fun R em lr h => sumG_at gf hu GT (wi_vals R em lr) h) h

/-! ### own defs, methods, classes -/
variable {n : Nat} {f C f' : Addr} {fd : FuncData} {ps : List Str} {fm : FM} {x Cn mn : Str}
theorem r_fn {CX : CXT} (hx : ∀ σ : L2.St, PassesAt CX X σ (WE Wd σ)) (F : FnOk X.prog X.w X.K X.mg X.base CX k f fd ps (SP X.K cA n fm)) (hr : Room k X.A) (hm : X.mg x = some (.ref f)) (hk : PySem.W.keepIn X.K (.ref f) = true) (hb : Binds X.K fd ps []) (ha : PA X (e :: es) (tMA X.K cA Wd ms)) (hg : Gl X x := by rfl) (hdb : (x == ("__debug__" : Str)) = false := by decide) (he : starEach (e :: es) X.env = (false, eval e X.env) :: starEach es X.env := by rfl) (hpl : (backTo pos (starEach es X.env)).any (·.1) = false := by rfl) :
    PE X (.Call (.Name x p) (e :: es) [] pos) (tM X.K cA Wd (eFn n fm ms)) := pe_imp (pe_fnSD hx F hr hg hm hk hb ha hdb he hpl) fun _ _ _ h => rd_fn h
theorem r_meth {pl : Sem Bool} {CX : CXT} (hx : ∀ σ : L2.St, PassesAt CX X σ (WE Wd σ)) (F : FnOk X.prog X.w X.K X.mg X.base CX k f fd ps (SP X.K cA n fm)) (hr : Room k X.A) (cc : Cls X.K (cA Cn)) (hm : Meth X.K (cA Cn) mn f) (hb : Binds X.K fd ps []) (ho : PE X o (tM X.K cA Wd m)) (ha : PA X (e :: es) (tMA X.K cA Wd ms)) (hst : starEach (e :: es) X.env = (false, eval e X.env) :: starEach es X.env := by rfl) (hpl : (backTo pos (starEach es X.env)).any (·.1) = false := by rfl)
    (ht : eval (.Call (.Attribute o mn apos) (e :: es) [] pos) X.env = (do
      let ov ← eval o X.env
      standAt apos.atName
      let (f, first) ← holding [ov] (getMethod ov mn pl)
      callWith pos f first (backTo pos (starEach (e :: es) X.env)) (backToKw pos (keywordEach [] X.env))) := by rfl) : PE X (.Call (.Attribute o mn apos) (e :: es) [] pos) (tM X.K cA Wd (eMeth Cn mn n fm m ms)) :=
  pe_imp (pe_methSD hx ho cc hm F hr hb ha hst hpl ht) fun _ _ _ h => rd_meth h
theorem r_meth0 {pl : Sem Bool} {CX : CXT} (hx : ∀ σ : L2.St, PassesAt CX X σ (WE Wd σ)) (F : FnOk X.prog X.w X.K X.mg X.base CX k f fd ps (SP X.K cA n fm)) (hr : Room k X.A) (cc : Cls X.K (cA Cn)) (hm : Meth X.K (cA Cn) mn f) (hb : Binds X.K fd ps []) (ho : PE X o (tM X.K cA Wd m))
    (ht : eval (.Call (.Attribute o mn apos) [] [] pos) X.env = (do
      let ov ← eval o X.env
      standAt apos.atName
      let (f, first) ← holding [ov] (getMethod ov mn pl)
      callWith pos f first (backTo pos (starEach [] X.env)) (backToKw pos (keywordEach [] X.env))) := by rfl) : PE X (.Call (.Attribute o mn apos) [] [] pos) (tM X.K cA Wd (eMeth Cn mn n fm m aNil)) :=
  pe_imp (pe_methSD0 hx ho cc hm F hr hb ht) fun σ H Q h => by
    have q := rd_meth h
    obtain ⟨Lk, φ, F, Pr, w, R, h⟩ := q
    refine ⟨Lk, φ, F, Pr, w, R, ?_⟩
    revert h
    cases m w with
    | no => exact fun h => h
    | ex x w1 => exact fun h => h
    | ok r w1 =>
      intro h v H' φ' F' Pr2 l p lp R' rv
      obtain ⟨a, dx, fs, e1, e2, e3, t⟩ := h v H' φ' F' Pr2 l p lp R' rv
      exact ⟨a, dx, fs, e1, e2, e3, rd_nil t⟩
theorem r_make {CX : CXT} (hx : ∀ σ : L2.St, PassesAt CX X σ (WE Wd σ)) (M : Mk X.K C f) (F : FnOk X.prog X.w X.K X.mg X.base CX k f fd ps (SP X.K cA n fm)) (hr : Room (k + 1) X.A) (hC : cA Cn = C) (hm : X.mg x = some (.ref C)) (hb : Binds X.K fd ps []) (ha : PA X (e :: es) (tMA X.K cA Wd ms)) (hg : Gl X x := by rfl) (hdb : (x == ("__debug__" : Str)) = false := by decide) (he : starEach (e :: es) X.env = (false, eval e X.env) :: starEach es X.env := by rfl) (hpl : (backTo pos (starEach es X.env)).any (·.1) = false := by rfl) :
    PE X (.Call (.Name x p) (e :: es) [] pos) (tM X.K cA Wd (eMake Cn n fm ms)) := pe_imp (pe_makeSD hx M F hr hg hm hb ha hdb he hpl) fun _ _ _ h => by rw [← hC]; exact rd_make h
end
end Rf
set_option maxHeartbeats 1000000
/-! Rf23: names set side by side; raise; augmented operators; the told call. -/
namespace Rf
open PySem PySem.Spec L2
open PyProof.Rows hiding St

/-! ### a, b = x, y -/
def putW (i : Nat) (r : R) (w : W) : Option W := match r with
  | .sh d => some { w with env := w.env.set i (some (.sh d)) }
  | .own d => some { w with env := w.env.set i (some (.own d)) }
  | .bor _ => none
def sPar (i j : Nat) (ma mb : ME) : MS := fun w => (ma w).bind fun r1 w1 => (mb w1).bind fun r2 w2 => match (putW i r1 w2).bind (putW j r2) with
  | some w3 => .ok .nx w3
  | none => .no
def sPar3 (i j l : Nat) (ma mb mc : ME) : MS := fun w => (ma w).bind fun r1 w1 => (mb w1).bind fun r2 w2 => (mc w2).bind fun r3 w3 => match ((putW i r1 w3).bind (putW j r2)).bind (putW l r3) with
  | some w4 => .ok .nx w4
  | none => .no
section
variable {K : PySem.W.Frag} {cA : CA} {Wd : WX} {H : Hp} {σ : L2.St} {E : Ends}
/-- one slot; what else is pending stays so -/
theorem put1 {Lk : Addr → Option (Obj × HO)} {φ : List Addr} {F Pr Pr2 : Hp} {w w' : W} {v : V} {r : R} {i : Nat} (lp : Le Pr Pr2) (R : Rep K cA Lk φ F Pr2 w σ H) (rv : RV K φ F Pr Pr2 σ v r) (e : putW i r w = some w') :
    ∃ Pr3, Le Pr Pr3 ∧ (∀ p o, Pr2 p = some o → (∀ c, r = .own c → v ≠ .ref p) → Pr3 p = some o) ∧ Rep K cA Lk φ F Pr3 w' (σ.set i (some v)) H := by
  cases r with
  | bor j => cases e
  | sh d =>
    cases e
    exact ⟨Pr2, lp, fun p o h _ => h, R.setSh rv⟩
  | own c =>
    cases e
    obtain ⟨q, o, rfl, h1, h2, h3⟩ := rv
    have e : upd (fun b => if b = q then none else Pr2 b) q o = Pr2 := by
      funext b
      by_cases hb : b = q
      · rw [hb, upd_same, h2]
      · rw [upd_ne hb]; simp [hb]
    have R1 : Rep K cA Lk φ F (upd (fun b => if b = q then none else Pr2 b) q o) w σ H := by rw [e]; exact R
    refine ⟨fun b => if b = q then none else Pr2 b, fun b u hb => ?_, fun p u hp hn => ?_, R1.setOwn (i := i) (by simp) h3⟩
    · have nb : b ≠ q := fun z => by rw [z, h1] at hb; cases hb
      simp [nb, lp _ _ hb]
    · have np : p ≠ q := fun z => hn c rfl (by rw [z])
      simp [np, hp]
/-- a later value stays pending when an earlier one is put -/
theorem rv_after {φ φ' : List Addr} {F F' Pr Pr1 Pr1' Pr2 Pr3 : Hp} {σ' : L2.St} {v1 v2 : V} {r1 r2 : R} {i : Nat} {w w' : W} (h1 : RV K φ F Pr Pr1 σ v1 r1) (l1 : Le Pr Pr1) (l2 : Le Pr1 Pr1') (h2 : RV K φ' F' Pr1' Pr2 σ v2 r2) (hb : putW i r2 w = some w')
    (hk : ∀ p o, Pr2 p = some o → (∀ c, r1 = .own c → v1 ≠ .ref p) → Pr3 p = some o) : RV K φ' F' Pr Pr3 σ' v2 r2 := by
  cases r2 with
  | bor i => cases hb
  | sh d => exact h2
  | own c =>
    obtain ⟨p, o, rfl, g1, g2, g3⟩ := h2
    refine ⟨p, o, rfl, ?_, hk p o g2 fun c1 ec z => ?_, g3⟩
    · cases q : Pr p with
      | none => rfl
      | some u => rw [l2 _ _ (l1 _ _ q)] at g1; cases g1
    · subst ec
      obtain ⟨p1, o1, e1, f1, f2, f3⟩ := h1
      rw [e1] at z; cases z
      rw [l2 _ _ f2] at g1; cases g1
theorem rd_par {i j : Nat} {ma mb : ME} (h : tMS K cA Wd (sPar i j ma mb) E σ H) : tPar i j (tCons (tM K cA Wd ma) (tCons (tM K cA Wd mb) tNil)) E σ H := by
  obtain ⟨Lk, φ, F, Pr, w, R0, h⟩ := h
  refine rd_do (m := ma) (f := _) (fun v1 H1 φ1 F1 Pr1 r1 w1 l1 p1 lp1 R1 rv1 h => ?_) R0 h
  have h := MSP.step l1 p1 (Le.refl _) h
  refine tM_of R1 ?_
  cases e2 : mb w1 with
  | no => rw [e2] at h; exact h
  | ex x w2 => rw [e2] at h; exact fun cls dx H' φ' F' Pr2 l p lp R xr => h cls dx σ H' φ' F' l p (R.weak (lp1.trans lp)) xr
  | ok r2 w2 =>
    rw [e2] at h
    intro v2 H2 φ2 F2 Pr2 l2 p2 lp2 R2 rv2
    have h := MSP.step l2 p2 (Le.refl _) h
    simp only [Res.bind] at h
    cases e3 : putW i r1 w2 with
    | none => rw [e3] at h; exact h.elim
    | some w3 =>
      rw [e3] at h
      simp only [Option.bind_some] at h
      cases e4 : putW j r2 w3 with
      | none => rw [e4] at h; exact h.elim
      | some w4 =>
        rw [e4] at h
        have rv1' := rv1.le l2 p2 lp2
        obtain ⟨Pr3, lp3, k3, R3⟩ := put1 (lp1.trans lp2) R2 rv1' e3
        have rv2' : RV K φ2 F2 Pr Pr3 (σ.set i (some v1)) v2 r2 := rv_after rv1 lp1 (Le.refl _) rv2 e4 k3
        obtain ⟨Pr4, lp4, k4, R4⟩ := put1 lp3 R3 rv2' e4
        exact ⟨v1, v2, rfl, h _ H2 φ2 F2 (Le.refl _) (Pf.refl _) (R4.weak lp4)⟩
theorem rd_par3 {i j l : Nat} {ma mb mc : ME} (h : tMS K cA Wd (sPar3 i j l ma mb mc) E σ H) : tPar3 i j l (tCons (tM K cA Wd ma) (tCons (tM K cA Wd mb) (tCons (tM K cA Wd mc) tNil))) E σ H := by
  obtain ⟨Lk, φ, F, Pr, w, R0, h⟩ := h
  refine rd_do (m := ma) (f := _) (fun v1 H1 φ1 F1 Pr1 r1 w1 l1 p1 lp1 R1 rv1 h => ?_) R0 h
  have h := MSP.step l1 p1 (Le.refl _) h
  refine tM_of R1 ?_
  cases e2 : mb w1 with
  | no => rw [e2] at h; exact h
  | ex x w2 => rw [e2] at h; exact fun cls dx H' φ' F' Pr2 l p lp R xr => h cls dx σ H' φ' F' l p (R.weak (lp1.trans lp)) xr
  | ok r2 w2 =>
    rw [e2] at h
    intro v2 H2 φ2 F2 Pr2 l2 p2 lp2 R2 rv2
    have h := MSP.step l2 p2 (Le.refl _) h
    simp only [Res.bind] at h
    refine tM_of R2 ?_
    cases e3 : mc w2 with
    | no => rw [e3] at h; exact h
    | ex x w3 => rw [e3] at h; exact fun cls dx H' φ' F' Pr3 l p lp R xr => h cls dx σ H' φ' F' l p (R.weak ((lp1.trans lp2).trans lp)) xr
    | ok r3 w3 =>
      rw [e3] at h
      intro v3 H3 φ3 F3 Pr3 l3 p3 lp3 R3 rv3
      have h := MSP.step l3 p3 (Le.refl _) h
      simp only at h
      cases e4 : putW i r1 w3 with
      | none => rw [e4] at h; exact h.elim
      | some w4 =>
        rw [e4] at h
        simp only [Option.bind_some] at h
        cases e5 : putW j r2 w4 with
        | none => rw [e5] at h; exact h.elim
        | some w5 =>
          rw [e5] at h
          simp only [Option.bind_some] at h
          cases e6 : putW l r3 w5 with
          | none => rw [e6] at h; exact h.elim
          | some w6 =>
            rw [e6] at h
            obtain ⟨Pr4, lp4, k4, R4⟩ := put1 ((lp1.trans lp2).trans lp3) R3 (rv1.le (l2.trans l3) (p2.trans p3) (lp2.trans lp3)) e4
            have rv2' : RV K φ3 F3 Pr Pr4 (σ.set i (some v1)) v2 r2 := rv_after rv1 lp1 (Le.refl _) (rv2.le l3 p3 lp3) e5 k4
            obtain ⟨Pr5, lp5, k5, R5⟩ := put1 lp4 R4 rv2' e5
            have rv3' : RV K φ3 F3 Pr Pr4 (σ.set i (some v1)) v3 r3 := rv_after rv1 lp1 lp2 rv3 e6 k4
            have rv3'' : RV K φ3 F3 Pr Pr5 ((σ.set i (some v1)).set j (some v2)) v3 r3 := by
              cases r3 with
              | bor q => cases e6
              | sh d => exact rv3'
              | own c =>
                obtain ⟨p, o, rfl, g1, g2, g3⟩ := rv3'
                refine ⟨p, o, rfl, g1, k5 p o g2 fun c1 ec z => ?_, g3⟩
                subst ec
                obtain ⟨q2, o2, e7, f1, f2, f3⟩ := rv2
                rw [e7] at z; cases z
                obtain ⟨q3, o3, e8, f4, _⟩ := rv3
                cases e8
                rw [f2] at f4; cases f4
            obtain ⟨Pr6, lp6, k6, R6⟩ := put1 lp5 R5 rv3'' e6
            exact ⟨v1, v2, v3, rfl, h _ H3 φ3 F3 (Le.refl _) (Pf.refl _) (R6.weak lp6)⟩
end
section
variable {X : Cx} {cA : CA} {Wd : WX} {k : Nat} {a b c e : Expr} {p px py pz pt pos rpos : Pos} {ma mb mc m : ME} {ms : MA} {kt k2 : Nat} {pt2 : Pos}
theorem s_par {i j : Nat} {x y : Str} (hN : X.N.Nodup) (ha : PE X a (tM X.K cA Wd ma)) (hb : PE X b (tM X.K cA Wd mb)) (hi : X.N[i]? = some x := by rfl) (hj : X.N[j]? = some y := by rfl) (hij : i ≠ j := by decide) (hx : X.env.scope.names.lookup x = some .local := by rfl) (hy : X.env.scope.names.lookup y = some .local := by rfl)
    (hw : swappedStores [.Tuple [.Name x px, .Name y py] kt pt] (.Tuple [a, b] k2 pt2) X.env = pure (some [x, y]) := by rfl) (hc : X.calm = true := by rfl) (hs : swapsWithSole [.Tuple [.Name x px, .Name y py] kt pt] (.Tuple [a, b] k2 pt2) pos.line X.env = pure false := by rfl)
    (s1 : starEach [a, b] X.env = (false, eval a X.env) :: starEach [b] X.env := by rfl) (s2 : starEach [b] X.env = (false, eval b X.env) :: starEach [] X.env := by rfl) :
    PS X (.Assign [.Tuple [.Name x px, .Name y py] kt pt] (.Tuple [a, b] k2 pt2) pos) (tMS X.K cA Wd (sPar i j ma mb)) := ps_imp (ps_par hc hN hi hj hij hx hy (pa_cons ha (pa_cons hb pa_nil s2) s1) hw hs) fun _ _ _ h => rd_par h
theorem s_par3 {i j l : Nat} {x y z : Str} (hN : X.N.Nodup) (ha : PE X a (tM X.K cA Wd ma)) (hb : PE X b (tM X.K cA Wd mb)) (hcc : PE X c (tM X.K cA Wd mc)) (hi : X.N[i]? = some x := by rfl) (hj : X.N[j]? = some y := by rfl) (hl : X.N[l]? = some z := by rfl) (hij : i ≠ j := by decide) (hil : i ≠ l := by decide) (hjl : j ≠ l := by decide) (hx : X.env.scope.names.lookup x = some .local := by rfl) (hy : X.env.scope.names.lookup y = some .local := by rfl) (hz : X.env.scope.names.lookup z = some .local := by rfl)
    (hw : swappedStores [.Tuple [.Name x px, .Name y py, .Name z pz] kt pt] (.Tuple [a, b, c] k2 pt2) X.env = pure (some [x, y, z]) := by rfl) (hc : X.calm = true := by rfl) (hs : swapsWithSole [.Tuple [.Name x px, .Name y py, .Name z pz] kt pt] (.Tuple [a, b, c] k2 pt2) pos.line X.env = pure false := by rfl)
    (s1 : starEach [a, b, c] X.env = (false, eval a X.env) :: starEach [b, c] X.env := by rfl) (s2 : starEach [b, c] X.env = (false, eval b X.env) :: starEach [c] X.env := by rfl) (s3 : starEach [c] X.env = (false, eval c X.env) :: starEach [] X.env := by rfl) :
    PS X (.Assign [.Tuple [.Name x px, .Name y py, .Name z pz] kt pt] (.Tuple [a, b, c] k2 pt2) pos) (tMS X.K cA Wd (sPar3 i j l ma mb mc)) := ps_imp (ps_par3 hc hN hi hj hl hij hil hjl hx hy hz (pa_cons ha (pa_cons hb (pa_cons hcc pa_nil s3) s2) s1) hw hs) fun _ _ _ h => rd_par3 h

/-! ### raise -/
/-- an own class of errors, by name -/
structure ExcOk (K : PySem.W.Frag) (mg : Str → Option Value) (cA : CA) (C : Str) : Prop where
  g : mg C = some (.ref (cA C))
  x : PySem.W.excIn K (cA C) He.veBase "ValueError.__new__" = true
  kp : PySem.W.keepIn K (.ref (cA C)) = true
  sb : PySem.W.subIn K (.ref (cA C)) (.type "BaseException") = some true
  ty : PySem.W.typeIn K (.ref (cA C)) = some (.type "type")
theorem s_raise {C : Str} (q : ExcOk X.K X.mg cA C) (tk : Takes X Wd) (he : PE X e (tM X.K cA Wd m)) (hg : Gl X C := by rfl) (hc : X.calm = true := by rfl) (hdb : (C == ("__debug__" : Str)) = false := by decide) (hst : starEach [e] X.env = (false, eval e X.env) :: starEach [] X.env := by rfl) (hpl : (backTo pos (starEach [] X.env)).any (·.1) = false := by rfl) :
    PS X (.Raise (some (.Call (.Name C p) [e] [] pos)) none rpos) (tMS X.K cA Wd (sRaise C m)) :=
  ps_raiseC hc tk PySem.F.excBase_ValueError q.x q.g q.kp (raises_own q.sb q.ty) hg rfl he hdb hst hpl

/-! ### augmented operators -/
def gAddI : D → D → Option R
  | .int i, .int j => some (.sh (.int (i + j)))
  | .str x, .str y => if sizeOk (x.length + y.length) then some (.sh (.str (x ++ y))) else none
  | _, _ => none
def gMulI : D → D → Option R
  | .int i, .int j => if smallI i || smallI j then some (.sh (.int (i * j))) else none
  | _, _ => none
def rAddI : R2 := fun x y H Q => rI0 (fun i j => .int (i + j)) x y H Q ∨ ∃ i j, x = .str i ∧ y = .str j ∧ i.length + j.length ≤ sizeLine ∧ Q (.str (i ++ j)) H
theorem op_addI : OpR X (inplaceOp .Add) rAddI := iop_add.or iop_add_str
theorem fit_addI {K : PySem.W.Frag} : Fit2 K cA rAddI gAddI := by
  intro Lk φ F Pr w σ H v1 v2 d1 d2 rr Q Rp h1 h2 e k
  cases d1 <;> cases d2 <;> simp only [gAddI] at e <;> try (cases e; done)
  · cases e
    rw [h1.int, h2.int]
    exact .inl ⟨_, _, rfl, rfl, say Rp k rfl (.int _)⟩
  · split at e
    · rename_i hz
      cases e
      rw [h1.str, h2.str]
      exact .inr ⟨_, _, rfl, rfl, sizeOk_le hz, say Rp k rfl (.str _)⟩
    · cases e
theorem fit_mulI {K : PySem.W.Frag} : Fit2 K cA (rI CMul fun i j => .int (i * j)) gMulI := by
  intro Lk φ F Pr w σ H v1 v2 d1 d2 rr Q Rp h1 h2 e k
  cases d1 <;> cases d2 <;> simp only [gMulI] at e <;> try (cases e; done)
  split at e
  · rename_i hz
    cases e
    rw [h1.int, h2.int]
    refine ⟨_, _, rfl, rfl, ?_, say Rp k rfl (.int _)⟩
    rcases Bool.or_eq_true_iff.mp hz with z | z
    · exact .inl (smallI_iff.mp z)
    · exact .inr (smallI_iff.mp z)
  · cases e
end
end Rf
set_option maxHeartbeats 1000000
/-! Rf24: boxes; the told call; promises. -/
namespace Rf
open PySem PySem.Spec L2
open PyProof.Rows hiding St

/-- a new container goes into the store -/
def eBox (m : ME) : ME := fun w => (m w).bind fun r w1 => match r with
  | .sh d => .ok (.sh d) w1
  | .own c => (match boxD c with
    | some ob => .ok (.sh (.obj w1.st.length)) { w1 with st := w1.st ++ [ob] }
    | none => .no)
  | .bor _ => .no
theorem rd_box {K : PySem.W.Frag} {cA : CA} {Wd : WX} {H : Hp} {σ : L2.St} {Q : VK} {m : ME} (h : tM K cA Wd (eBox m) σ H Q) : tM K cA Wd m σ H Q := by
  obtain ⟨Lk, φ, F, Pr, w, R, h⟩ := h
  have h : MP K cA Wd Lk φ F Pr σ Q (eBox m w) := h
  unfold eBox at h
  refine tM_of R ?_
  cases e1 : m w with
  | no => rw [e1] at h; exact h
  | ex x w1 => rw [e1] at h; exact h
  | ok r w1 =>
    rw [e1] at h
    intro v H1 φ1 F1 Pr1 l1 p1 q1 R1 rv
    have h := MP.step l1 p1 (Le.refl _) h
    simp only [Res.bind] at h
    cases r with
    | bor i => exact h.elim
    | sh d => exact h v H1 φ1 F1 Pr1 (Le.refl _) (Pf.refl _) q1 R1 rv
    | own c =>
      simp only at h
      cases e2 : boxD c with
      | none => rw [e2] at h; exact h.elim
      | some ob =>
        rw [e2] at h
        obtain ⟨p, Pr3, rfl, lp3, ep, R3⟩ := R1.boxIn q1 rv e2
        exact h _ H1 (φ1 ++ [p]) F1 Pr3 (Le.refl _) (Pf.snoc φ1 p) lp3 R3 (.obj ep)
section
variable {X : Cx} {cA : CA} {Wd : WX} {k : Nat} {e : Expr} {m : ME}
theorem r_box (h : PE X e (tM X.K cA Wd m)) : PE X e (tM X.K cA Wd (eBox m)) := pe_imp h fun _ _ _ h => rd_box h
theorem takes_no {Y : Cx} : Takes Y NoX := fun u s' h => by
  obtain ⟨a, B, sI, pins, σ, H, cls, d, e, I, nb, up, sky, na, os, ag, w⟩ := h
  exact w.elim
/-- a def that calls its argument and tells what it raises -/
structure TellOk (K : PySem.W.Frag) (mg : Str → Option Value) (cA : CA) (x : Str) (l : List (Str × Str)) : Prop where
  ex : ∃ (g : Addr) (a : Str) (pg : Arguments) (sg : Scope) (dV kV doc pm cdv ct oc : Value) (an od : Option Addr) (osl : Array (Option Value)) (Ng : List Str) (p1 p2 p3 p8 : Pos) (h0 : ExceptHandler) (hds : List ExceptHandler),
    mg x = some (.ref g) ∧ PySem.W.keepIn K (.ref g) = true ∧
    K.lookup g = some ⟨oc, od, .func (PySem.W.fnOf x x pg [.Try [.Return (some (.Call (.Name a p1) [] [] p2)) p3] (h0 :: hds) [] [] p8] sg dV kV doc pm an cdv ct), osl⟩ ∧ PySem.W.codeIn K cdv x = true ∧
    L2.Binds K (PySem.W.fnOf x x pg [.Try [.Return (some (.Call (.Name a p1) [] [] p2)) p3] (h0 :: hds) [] [] p8] sg dV kV doc pm an cdv ct) [a] [] ∧ FnScope Ng [a] sg ∧ Ng[0]? = some a ∧ Vis sg a ∧ ToldHds sg mg (h0 :: hds) (l.map fun p => (cA p.1, p.2)) ∧
    (a == ("__debug__" : Str)) = false ∧ (a == ("__classdict__" : Str)) = false
/-- x(lambda: body) -/
theorem r_told {L : List Str} {l : List (Str × Str)} {x : Str} {tt : Tb} {c : Addr} {params : Arguments} {body : Expr} {scope : Scope} {p lpos pos : Pos} (T : TellOk X.K X.mg cA x l) (E : ExcAp X.K cA L) (hl : ∀ p ∈ l, p.1 ∈ L) (M : LmOk X cA.tb tt c scope lpos) (hr : Room (k + 2) X.A)
    (hbody : ∀ (A : Around) (outer : List Env) (s : Shared) (H : Hp) (E : XK) (f c' : Addr), Room k (A.deeper (LamX.lamEnv X scope s.heap.objs.size f c')) → PE (LamX.lamCx X A outer s H E scope f c') body (tM X.K cA (fun cls d _ H => E cls d H) m))
    (hg : Gl X x := by rfl) (hdef : defaultsOf params X.env = ([], []) := by rfl) (hbind : ∀ (q : Str) (cl : List (Str × Addr)) (pm cv ctv : Value), bindArgs (PySem.W.kla_fn "<lambda>" q params body scope cl pm cv ctv) ⟨[], []⟩ = pure [] := by intro _ _ _ _ _; rfl) (hdb : (x == ("__debug__" : Str)) = false := by decide) :
    PE X (.Call (.Name x p) [.Lambda params body scope lpos] [] pos) (tM X.K cA Wd (eTold l m)) := by
  obtain ⟨g, a, pg, sg, dV, kV, doc, pm, cdv, ct, oc, an, od, osl, Ng, p1, p2, p3, p8, h0, hds, hm, hk, lk, hcg, hb, Sg, hNg, hva, hh, hd, hcd⟩ := T.ex
  have hs0 : ∀ f : Addr, (L2.start Ng [V.ref f])[0]? = some (some (V.ref f)) := fun f => rfl
  exact pe_imp (pe_lamcall2 (t := fun E => tM X.K cA (fun cls d _ H => E cls d H) m) hg hm hk lk hcg hb Sg hNg hva (told_gives8 hh hs0) M hr hdef hbind hbody hdb hd hcd) fun σ H Q h => rd_told E hl h
end

/-! ### promises -/
/-- the def at f does fm, at level k -/
def Prom (CX : CXT) (P : Program) (w : World) (K : PySem.W.Frag) (mg : Str → Option Value) (base : Heap) (cA : CA) (k : Nat) (f : Addr) (ps : List Str) (n : Nat) (fm : FM) : Prop := ∃ fd, FnOk P w K mg base CX k f fd ps (SP K cA n fm) ∧ Binds K fd ps []
theorem prom_of {CX : CXT} {P : Program} {w : World} {K : PySem.W.Frag} {cA : CA} {mg : Str → Option Value} {base : Heap} {k : Nat} {f : Addr} {name qual : Str} {params : Arguments} {body : List Stmt} {scope : Scope} {fd : FuncData} {N ps : List Str} {m : MS} {n : Nat} (D : FunD K name qual params body scope [] [] f fd) (S : FnScope N ps scope) (hn : ps.length = n)
    (hb : ∀ (kV doc pm : Value) (an : Option Addr) (cdv ct : Value) (us : List Value), us.length = ps.length → bindArgs (PySem.W.fnOf name qual params body scope .none kV doc pm an cdv ct) ⟨us, []⟩ = pure (ps.zip us))
    (hbody : ∀ (cdv : Value) (A : Around) (outer : List Env) (s : Shared) (H : Hp) (E : XK), PySem.W.codeIn K cdv qual = true → (∃ oc od osl dV kV doc pm an ct, K.lookup f = some ⟨oc, od, .func (PySem.W.fnOf name qual params body scope dV kV doc pm an cdv ct), osl⟩) → Room k (A.deeper (envOfC qual scope s.heap.objs.size f cdv)) → PSs (cxOf CX P w K mg base N qual scope f cdv A outer s H E) body (tMS K cA (fun cls d _ H => E cls d H) m)) :
    Prom CX P w K mg base cA (k + 1) f ps n (fnM N.length m) := by
  refine ⟨fd, ?_, FunD.bindsN D hb⟩
  obtain ⟨oc, od, dV, kV, doc, pm, an, cdv, ct, osl, rfl, lk, hcd, hD, hK⟩ := D.ex
  exact fn_promise lk hcd S hn fun A outer s H E hr => hbody cdv A outer s H E hcd ⟨oc, od, osl, dV, kV, doc, pm, an, ct, lk⟩ hr
end Rf
set_option maxHeartbeats 1000000
/-! Rf25: errors whose context is None; what passes; from the one context to the other. -/
namespace Rf
open PySem PySem.Spec L2
open PyProof.Rows hiding St

section
/-- X(e), the context None -/
theorem pmk_ownN {X : Cx} {C : Addr} {bmB : List Value} {B newId initId : String} {x : Str} {e : Expr} {te : TE} {p pos : Pos} (F : ExcBaseFacts B newId initId bmB) (q : PySem.W.excIn X.K C bmB newId = true) (gC : X.mg x = some (.ref C)) (kC : PySem.W.keepIn X.K (.ref C) = true) (r : Raises X (.ref C)) (hg : Gl X x) (he : PE X e te)
    (hdb : (x == ("__debug__" : Str)) = false := by decide) (hst : starEach [e] X.env = (false, eval e X.env) :: starEach [] X.env := by rfl) (hpl : (backTo pos (starEach [] X.env)).any (·.1) = false := by rfl) :
    L2N.PMk X (.Call (.Name x p) [e] [] pos) (fun σ H Q => te σ H fun _ H1 => Q (.ref C) none H1) := by
  intro pins s σ H Q I h
  refine wpAny_Call_Name_kw (ld_glob I hg gC ?_ hdb)
  have ha : PA X [e] (tCons te tNil) := pa_cons he pa_nil hst
  refine PySem.W.callWith_K (h₀ := X.base) I.ok.mod.kin kC (thn (ha.run pos pins s σ H (fun vs H1 => vs.length = 1 ∧ Q (.ref C) none H1) I ?_) fun us s1 hh => ?_) hst hpl
  · show te σ H fun x H1 => tNil σ H1 fun xs H2 => (x :: xs).length = 1 ∧ Q (.ref C) none H2
    have e : (fun (x : V) (H1 : Hp) => tNil σ H1 fun xs H2 => (x :: xs).length = 1 ∧ Q (.ref C) none H2) = fun _ H1 => Q (.ref C) none H1 := by
      funext x H1
      simp [tNil]
    rw [e]; exact h
  obtain ⟨vs, H1, I1, r1, ev, h⟩ := hh
  refine ⟨I1.kIn, ?_⟩
  have hl : us.length = 1 := by rw [← r1.length]; exact ev
  obtain ⟨u, rfl⟩ : ∃ u, us = [u] := by
    cases us with
    | nil => cases hl
    | cons u t => cases t with
      | nil => exact ⟨u, rfl⟩
      | cons _ _ => simp at hl
  obtain ⟨bm, N, nm, qn, bs, hdct, sn, sub, ab, col, dd, k0, k1, k2, k3, k5, mN, hC, hN, hni, T⟩ := exc_obj I1.kIn q
  refine wpAny_call_exc_subT F T hC hN hni (fun h' e hm => ?_) (by show 1 ≤ sizeLine; rw [sizeLine_eq]; omega)
  exact L2N.mk_of I1 hm r h (I1.hok.gone hm.new)
variable {X : Cx} {cA : CA} {Wd : WX} {e : Expr} {m : ME} {p pos rpos : Pos}
theorem s_raiseN {C : Str} (q : ExcOk X.K X.mg cA C) (tk : L2N.Takes X Wd) (he : PE X e (tM X.K cA Wd m)) (hg : Gl X C := by rfl) (hc : X.calm = true := by rfl) (hdb : (C == ("__debug__" : Str)) = false := by decide) (hst : starEach [e] X.env = (false, eval e X.env) :: starEach [] X.env := by rfl) (hpl : (backTo pos (starEach [] X.env)).any (·.1) = false := by rfl) :
    PS X (.Raise (some (.Call (.Name C p) [e] [] pos)) none rpos) (tMS X.K cA Wd (sRaise C m)) :=
  ps_imp (L2N.ps_raise hc tk (pmk_ownN PySem.F.excBase_ValueError q.x q.g q.kp (raises_own q.sb q.ty) hg he hdb hst hpl)) fun D σ H h => rd_raise h
end
/-- what a call lets out, in each context -/
theorem hx_def {P : Program} {w : World} {K : PySem.W.Frag} {mg : Str → Option Value} {base : Heap} {N : List Str} {qual : Str} {scope : Scope} {f : Addr} {cd : Value} {A : Around} {outer : List Env} {s : Shared} {H : Hp} {E : XK} :
    L2N.Takes (cxOf (L2N.CX P w) P w K mg base N qual scope f cd A outer s H E) (fun cls d _ H => E cls d H) := L2N.takes_of rfl rfl rfl rfl
theorem takes_noN {Y : Cx} : L2N.Takes Y NoX := fun u s' h => by
  obtain ⟨a, B, sI, pins, σ, H, cls, d, I1, I, nb, up, sky, na, os, ag, w⟩ := h
  exact w.elim
theorem cx_weak {P : Program} {w : World} {outer : List Env} {H : Hp} {s : Shared} {E : XK} {u : Value} {s' : Shared} (h : L2N.CX P w outer H s E u s') : L2.CX P w outer H s E u s' := by
  obtain ⟨a, B, H', cls, d, rfl, fl, hok, ub, na, os, ag, hE⟩ := h
  refine ⟨a, B, H', cls, d, rfl, ?_, hok, ub, na, os, ag, hE⟩
  obtain ⟨k1, k2, k3, oe, vs, T, oT, ts', he, hz, r⟩ := fl
  exact ⟨k1, k2, k3, oe, vs, T, oT, ts', he, hz.zc, r⟩
theorem fn_weak {P : Program} {w : World} {K : PySem.W.Frag} {mg : Str → Option Value} {base : Heap} {k : Nat} {f : Addr} {fd : FuncData} {ps : List Str} {sp : Sp} (F : FnOk P w K mg base (L2N.CX P w) k f fd ps sp) : FnOk P w K mg base (L2.CX P w) k f fd ps sp :=
  ⟨F.len, fun A outer s H args us vs Q E hr he hb hv hs => codeAny_mono (F.run A outer s H args us vs Q E hr he hb hv hs) fun r s' q => by
    cases r with
    | error e => exact cx_weak q
    | ok fl => cases fl <;> exact q⟩
theorem prom_weak {P : Program} {w : World} {K : PySem.W.Frag} {mg : Str → Option Value} {base : Heap} {cA : CA} {k : Nat} {f : Addr} {ps : List Str} {n : Nat} {fm : FM} (h : Prom (L2N.CX P w) P w K mg base cA k f ps n fm) : Prom (L2.CX P w) P w K mg base cA k f ps n fm :=
  let ⟨fd, F, B⟩ := h
  ⟨fd, fn_weak F, B⟩
end Rf
set_option maxHeartbeats 1000000
/-! Rf26: try with one clause whose suite may raise. -/
namespace Rf
open PySem PySem.Spec L2
open PyProof.Rows hiding St

def sTry (L : List Str) (C : Str) (b s : MS) : MS := fun w => match b w with
  | .ex x w1 => if x.cls ∈ L then (if x.cls = C then s w1 else .ex x w1) else .no
  | .ok g w1 => .ok g w1
  | .no => .no
theorem rd_try {K : PySem.W.Frag} {cA : CA} {Wd : WX} {D : Ends} {σ : L2.St} {H : Hp} {L : List Str} {C : Str} {b s : MS} (E : ExcAp K cA L) (hC : C ∈ L) (h : tMS K cA Wd (sTry L C b s) D σ H) :
    tMS K cA (wOnly K (.ref (cA C)) (fun _ _ _ => tMS K cA Wd s) Wd D) b D σ H := by
  obtain ⟨Lk, φ, F, Pr, w, R, h⟩ := h
  have h : MSP K cA Wd Lk φ F Pr D (sTry L C b s w) := h
  unfold sTry at h
  refine tMS_of R ?_
  cases e : b w with
  | no => rw [e] at h; exact h
  | ok g w1 =>
    rw [e] at h
    cases g <;> exact h
  | ex x w1 =>
    rw [e] at h
    simp only at h
    by_cases hx : x.cls ∈ L
    case neg => rw [if_neg hx] at h; exact h.elim
    rw [if_pos hx] at h
    intro cls dx σ' H' φ' F' l p R' xr
    refine ⟨decide (x.cls = C), by rw [xr.1]; exact E _ hx _ hC, fun hb a ha => ?_, fun hb => ?_⟩
    · rw [if_pos (of_decide_eq_true hb)] at h
      exact tMS_of R' (MSP.step l p (Le.refl _) h)
    · rw [if_neg (of_decide_eq_false hb)] at h
      exact h cls dx σ' H' φ' F' l p R' xr
section
variable {X : Cx} {cA : CA} {Wd : WX} {L : List Str} {C : Str} {body suite : List Stmt} {b₀ : Stmt} {np pos pos' : Pos} {nb ns : MS}
theorem s_tryX (hc : Names X C (.ref (cA C))) (hpa : ∀ hd : Option Value, PassesOwnAt (model X.prog X.w) (X.A.mark hd) X.A X.env X.xe) (tk : L2.Takes X Wd) (E : ExcAp X.K cA L) (hC : C ∈ L)
    (hb : ∀ (W : WX) (pn : List (Addr × Obj)) (xe : Value → Shared → Prop), L2N.Takes (X.tr pn xe) W → PassesOwn (model X.prog X.w) X.A X.env xe → PSs (X.tr pn xe) body (tMS X.K cA W nb))
    (hsu : ∀ (a : Addr) (pn : List (Addr × Obj)), L2.Takes (L2H.suiteX X a pn) Wd → L2H.HotC (L2H.suiteX X a pn) → PSs (L2H.suiteX X a pn) (b₀ :: suite) (tMS X.K cA Wd ns))
    (hs : X.stack = X.env :: X.outer := by rfl) (hf : X.env.frame = some X.env.locals := by rfl) :
    PS X (.Try body [.ExceptHandler (some (.Name C np)) none (b₀ :: suite) pos'] [] [] pos) (tMS X.K cA Wd (sTry L C nb ns)) :=
  ps_imp (L2H.ps_try_onlyX (tb := fun W => tMS X.K cA W nb) (ts := fun _ _ _ => tMS X.K cA Wd ns) hs hf hc hpa tk (fun W pn xe t1 _ o => hb W pn xe t1 o) fun a oe cls d pn _ _ t h => hsu a _ t h) fun D σ H h => rd_try E hC h
variable {e : Expr} {m : ME} {p rpos : Pos}
/-- raise where an exception is handled -/
theorem s_raiseH (q : ExcOk X.K X.mg cA C) (hh : L2H.HotC X) (tk : L2.Takes X Wd) (he : PE X e (tM X.K cA Wd m)) (hg : Gl X C := by rfl) (hdb : (C == ("__debug__" : Str)) = false := by decide) (hst : starEach [e] X.env = (false, eval e X.env) :: starEach [] X.env := by rfl) (hpl : (backTo pos (starEach [] X.env)).any (·.1) = false := by rfl) :
    PS X (.Raise (some (.Call (.Name C p) [e] [] pos)) none rpos) (tMS X.K cA Wd (sRaise C m)) :=
  ps_imp (L2H.ps_raiseH hh tk (pmk_ownN PySem.F.excBase_ValueError q.x q.g q.kp (raises_own q.sb q.ty) hg he hdb hst hpl)) fun D σ H h => rd_raise h
/-- o[i] = e, wherever there is room -/
theorem s_putU {o a : Expr} {ma mb : ME} {pos' : Pos} (hu : X.A.units + 1 < cLine) (he : PE X e (tM X.K cA Wd m)) (ho : PE X o (tM X.K cA Wd ma)) (hi : PE X a (tM X.K cA Wd mb)) (ha : ∀ v, assign (.Subscript o a pos') X.env v = (do
      let ov ← holding [v] (eval o X.env)
      let iv ← holding [v, ov] (eval a X.env)
      standAt pos'
      holding [v, ov, iv] (setItem ov iv v)
      release [v, ov, iv] []) := by intro _; rfl) (hs : swapsWithSole [.Subscript o a pos'] e pos.line X.env = pure false := by rfl) (hw : swappedStores [.Subscript o a pos'] e X.env = pure none := by rfl) (h1 : (assignEach [.Subscript o a pos'] X.env).map (·.2) = [assign (.Subscript o a pos') X.env] := by rfl) :
    PS X (.Assign [.Subscript o a pos'] e pos) (tMS X.K cA Wd (sPut ma mb m)) := ps_imp (ps_asg he (pg_sub ho hi (set_all hu) ha) hs hw h1) fun _ _ _ h => rd_sput h
end
theorem pat_cx {CX : CXT} {P : Program} {w : World} {K : PySem.W.Frag} {mg : Str → Option Value} {base : Heap} {N : List Str} {qual : Str} {scope : Scope} {f : Addr} {cd : Value} {A : Around} {outer : List Env} {s : Shared} {H : Hp} {E : XK} (hd : Option Value) :
    PassesOwnAt (model P w) ((cxOf CX P w K mg base N qual scope f cd A outer s H E).A.mark hd) (cxOf CX P w K mg base N qual scope f cd A outer s H E).A (cxOf CX P w K mg base N qual scope f cd A outer s H E).env (cxOf CX P w K mg base N qual scope f cd A outer s H E).xe :=
  L2H.passesAt_of (X := cxOf CX P w K mg base N qual scope f cd A outer s H E) (K := fun e s'' => CX outer H s E e s'') (E₁ := fun e s'' => CX outer H s E e s'') rfl hd
end Rf
set_option maxHeartbeats 1000000
/-! Rm1: the meanings computed: rules for simp. -/
namespace Rf
open PySem L2

/-! ### results -/
@[simp] theorem bind_ok {α β : Type} (a : α) (w : W) (f : α → W → Res β) : (Res.ok a w).bind f = f a w := rfl
@[simp] theorem bind_ex {α β : Type} (x : Exn) (w : W) (f : α → W → Res β) : (Res.ex x w).bind f = .ex x w := rfl
@[simp] theorem bind_no {α β : Type} (f : α → W → Res β) : (Res.no).bind f = .no := rfl
/-- a callee, without its slots -/
def strip : Res R → Res R
  | .ok r w => .ok r { w with env := [] }
  | .ex x w => .ex x { w with env := [] }
  | .no => .no
def callF (f : FM) (ds : List D) (st : List Ob) (lk : List Nat) : Res R := strip (f ds ⟨[], st, lk⟩)
@[simp] theorem backW_ok_sh (w1 w2 : W) (d : D) : backW w1 (.ok (.sh d) w2) = .ok (.sh d) ⟨w1.env, w2.st, w2.lk⟩ := rfl
@[simp] theorem backW_ok_own (w1 w2 : W) (d : D) : backW w1 (.ok (.own d) w2) = .ok (.own d) ⟨w1.env, w2.st, w2.lk⟩ := rfl
@[simp] theorem backW_ex (w1 w2 : W) (x : Exn) : backW w1 (.ex x w2) = .ex x ⟨w1.env, w2.st, w2.lk⟩ := rfl
@[simp] theorem backW_no (w1 : W) : backW w1 .no = .no := rfl
theorem backW_strip (w1 : W) (r : Res R) : backW w1 (strip r) = backW w1 r := by
  cases r with
  | ok r w => cases r <;> rfl
  | ex x w => rfl
  | no => rfl
@[simp] theorem strip_ok (r : R) (w : W) : strip (.ok r w) = .ok r ⟨[], w.st, w.lk⟩ := rfl
@[simp] theorem strip_ex (x : Exn) (w : W) : strip (.ex x w) = .ex x ⟨[], w.st, w.lk⟩ := rfl
@[simp] theorem strip_no : strip .no = .no := rfl
/-- what a def's body comes to -/
def endM : Res Sig → Res R
  | .ok .nx w' => .ok (.sh .non) ⟨[], w'.st, w'.lk⟩
  | .ok (.rt (.sh d)) w' => .ok (.sh d) ⟨[], w'.st, w'.lk⟩
  | .ok (.rt (.own d)) w' => .ok (.own d) ⟨[], w'.st, w'.lk⟩
  | .ex x w' => .ex x ⟨[], w'.st, w'.lk⟩
  | _ => .no
@[simp] theorem endM_nx (w : W) : endM (.ok .nx w) = .ok (.sh .non) ⟨[], w.st, w.lk⟩ := rfl
@[simp] theorem endM_sh (d : D) (w : W) : endM (.ok (.rt (.sh d)) w) = .ok (.sh d) ⟨[], w.st, w.lk⟩ := rfl
@[simp] theorem endM_own (d : D) (w : W) : endM (.ok (.rt (.own d)) w) = .ok (.own d) ⟨[], w.st, w.lk⟩ := rfl
@[simp] theorem endM_ex (x : Exn) (w : W) : endM (.ex x w) = .ex x ⟨[], w.st, w.lk⟩ := rfl
theorem callF_fnM (N : Nat) (m : MS) (ds : List D) (st : List Ob) (lk : List Nat) : callF (fnM N m) ds st lk = endM (m ⟨ds.map (fun d => some (.sh d)) ++ List.replicate (N - ds.length) none, st, lk⟩) := by
  unfold callF fnM
  simp only
  cases m ⟨ds.map (fun d => some (.sh d)) ++ List.replicate (N - ds.length) none, st, lk⟩ with
  | no => rfl
  | ex x w => rfl
  | ok s w =>
    cases s with
    | nx => rfl
    | bk => rfl
    | ct => rfl
    | rt r => cases r <;> rfl
theorem callF_run {N : Nat} {m : MS} {ds : List D} {st : List Ob} {lk : List Nat} {env : List (Option S)} {r : Res R} (he : ds.map (fun d => some (.sh d)) ++ List.replicate (N - ds.length) none = env) (h : endM (m ⟨env, st, lk⟩) = r) : callF (fnM N m) ds st lk = r := by
  rw [callF_fnM, he]; exact h
theorem ok_of_callF {f : FM} {ds : List D} {st : List Ob} {lk : List Nat} {r : R} {st' : List Ob} {lk' : List Nat} (h : callF f ds st lk = .ok r ⟨[], st', lk'⟩) : ∃ w', f ds ⟨[], st, lk⟩ = .ok r w' := by
  unfold callF at h
  cases e : f ds ⟨[], st, lk⟩ with
  | no => rw [e] at h; cases h
  | ex x w => rw [e] at h; cases h
  | ok r2 w => rw [e] at h; cases h; exact ⟨_, rfl⟩

/-! ### expressions -/
section
variable {env : List (Option S)} {st : List Ob} {lk : List Nat} (w : W)
@[simp] theorem e_var (i : Nat) : eVar i w = match w.env[i]? with
  | some (some (.sh d)) => .ok (.sh d) w
  | some (some (.own _)) => .ok (.bor i) w
  | _ => .no := rfl
@[simp] theorem e_bor (i : Nat) : eBor i w = match w.env[i]? with
  | some (some _) => .ok (.bor i) w
  | _ => .no := rfl
@[simp] theorem e_c (d : D) : eC d w = .ok (.sh d) w := rfl
/-- shared from now on, behind a result -/
def escR (r : R) (w1 : W) : Res R := match r with
  | .sh d => .ok (.sh d) w1
  | .own d => .ok (.sh d) w1
  | .bor i => match w1.env[i]? with
    | some (some (.sh d)) => .ok (.sh d) w1
    | some (some (.own d)) => .ok (.sh d) { w1 with env := w1.env.set i (some (.sh d)) }
    | _ => .no
@[simp] theorem e_esc (m : ME) : eEsc m w = (m w).bind escR := by
  unfold eEsc
  congr 1
@[simp] theorem escR_sh (d : D) : escR (.sh d) w = .ok (.sh d) w := rfl
@[simp] theorem escR_own (d : D) : escR (.own d) w = .ok (.sh d) w := rfl
@[simp] theorem escR_bor (i : Nat) : escR (.bor i) w = match w.env[i]? with
    | some (some (.sh d)) => .ok (.sh d) w
    | some (some (.own d)) => .ok (.sh d) { w with env := w.env.set i (some (.sh d)) }
    | _ => .no := rfl
@[simp] theorem e_bin (g : D → D → Option R) (ma mb : ME) : eBin g ma mb w = (ma w).bind fun r1 w1 => (mb w1).bind fun r2 w2 => match r1.d w2, r2.d w2 with
  | some d1, some d2 => match g d1 d2 with
    | some r => .ok r w2
    | none => .no
  | _, _ => .no := rfl
@[simp] theorem e_un (g : D → Option R) (ma : ME) : eUn g ma w = (ma w).bind fun r1 w1 => match r1.d w1 with
  | some d1 => match g d1 with
    | some r => .ok r w1
    | none => .no
  | none => .no := rfl
@[simp] theorem e_call (g : List D → Option R) (ma : MA) : eCall g ma w = (ma w).bind fun rs w1 => match dAll w1 rs with
  | some ds => match g ds with
    | some r => .ok r w1
    | none => .no
  | none => .no := rfl
@[simp] theorem a_nil : aNil w = .ok [] w := rfl
@[simp] theorem a_cons (ma : ME) (mb : MA) : aCons ma mb w = (ma w).bind fun r w1 => (mb w1).bind fun rs w2 => .ok (r :: rs) w2 := rfl
@[simp] theorem dAll_nil : dAll w [] = some [] := rfl
@[simp] theorem dAll_cons (r : R) (rs : List R) : dAll w (r :: rs) = match r.d w, dAll w rs with
    | some d, some ds => some (d :: ds)
    | _, _ => none := rfl
@[simp] theorem R_d_sh (d : D) : (R.sh d).d w = some (deref w d) := rfl
@[simp] theorem R_d_own (d : D) : (R.own d).d w = some d := rfl
@[simp] theorem R_d_bor (i : Nat) : (R.bor i).d w = match w.env[i]? with
    | some (some (.sh d)) => some (deref w d)
    | some (some (.own d)) => some d
    | _ => none := rfl
@[simp] theorem deref_non : deref w .non = .non := rfl
@[simp] theorem deref_bl (b : Bool) : deref w (.bl b) = .bl b := rfl
@[simp] theorem deref_int (i : Int) : deref w (.int i) = .int i := rfl
@[simp] theorem deref_str (x : Str) : deref w (.str x) = .str x := rfl
@[simp] theorem deref_tup (x : List D) : deref w (.tup x) = .tup x := rfl
@[simp] theorem deref_lst (x : List D) : deref w (.lst x) = .lst x := rfl
@[simp] theorem deref_dct (t : Bool) (x : List (D × D)) : deref w (.dct t x) = .dct t x := rfl
@[simp] theorem deref_ext (x : List D) : deref w (.ext x) = .ext x := rfl
@[simp] theorem deref_obj (n : Nat) : deref w (.obj n) = match w.st[n]? with
    | some (.lst xs) => .lst xs
    | some (.dct t kvs) => .dct t kvs
    | _ => .obj n := rfl
@[simp] theorem shAll_nil : shAll [] = some [] := rfl
@[simp] theorem shAll_sh (d : D) (rs : List R) : shAll (.sh d :: rs) = (shAll rs).map (d :: ·) := rfl
@[simp] theorem e_tup (ms : MA) : eTup ms w = (ms w).bind fun rs w1 => match shAll rs with
  | some ds => if sizeOk ds.length then .ok (.sh (.tup ds)) w1 else .no
  | none => .no := rfl
@[simp] theorem e_lst (ms : MA) : eLst ms w = (ms w).bind fun rs w1 => match shAll rs with
  | some ds => if sizeOk ds.length then .ok (.own (.lst ds)) w1 else .no
  | none => .no := rfl
@[simp] theorem e_fld (okf : Str → Str → Bool) (m : ME) (f : Str) : eFld okf m f w = (m w).bind fun r w1 => match r with
  | .sh (.obj n) => match w1.st[n]? with
    | some (.ins C fs) => if okf C f then (match lookF fs f with
      | some d => .ok (.sh d) w1
      | none => .no) else .no
    | _ => .no
  | _ => .no := rfl
@[simp] theorem e_test (m : ME) : eTest m w = (m w).bind fun r w1 => match r with
  | .sh (.bl b) => .ok b w1
  | _ => .no := rfl
@[simp] theorem e_tru (m : ME) : eTru m w = (m w).bind fun r w1 => match (r.d w1).bind truD with
  | some b => .ok b w1
  | none => .no := rfl
@[simp] theorem b_and (a b : MT) : bAnd a b w = (a w).bind fun c w1 => if c = true then b w1 else .ok false w1 := rfl
@[simp] theorem b_or (a b : MT) : bOr a b w = (a w).bind fun c w1 => if c = true then .ok true w1 else b w1 := rfl
@[simp] theorem b_not (a : MT) : bNot a w = (a w).bind fun c w1 => .ok (!c) w1 := rfl
@[simp] theorem e_if (t : MT) (a b : ME) : eIf t a b w = (t w).bind fun c w1 => if c = true then a w1 else b w1 := rfl
@[simp] theorem e_andV (a b : ME) : eAndV a b w = (a w).bind fun r w1 => match r with
  | .sh (.bl c) => if c = true then b w1 else .ok (.sh (.bl false)) w1
  | _ => .no := rfl
@[simp] theorem e_orV (a b : ME) : eOrV a b w = (a w).bind fun r w1 => match r with
  | .sh (.bl c) => if c = true then .ok (.sh (.bl true)) w1 else b w1
  | _ => .no := rfl
@[simp] theorem e_notV (a : ME) : eNotV a w = (a w).bind fun r w1 => match r with
  | .sh (.bl c) => .ok (.sh (.bl (!c))) w1
  | _ => .no := rfl
@[simp] theorem e_chain (g g' : D → D → Option R) (ma mb mc : ME) : eChain g g' ma mb mc w = (ma w).bind fun r1 w1 => (mb w1).bind fun r2 w2 => match r1.d w2, r2.d w2 with
  | some d1, some d2 => match g d1 d2 with
    | some (.sh (.bl k)) => if k = true then (mc w2).bind fun r3 w3 => match r2.d w3, r3.d w3 with
        | some d2', some d3 => match g' d2' d3 with
          | some r => .ok r w3
          | none => .no
        | _, _ => .no
      else .ok (.sh (.bl false)) w2
    | _ => .no
  | _, _ => .no := rfl
@[simp] theorem o_none_ : oNone w = .ok none w := rfl
@[simp] theorem o_some_ (m : ME) : oSome m w = (m w).bind fun r w1 => match r with
  | .sh (.int i) => .ok (some i) w1
  | _ => .no := rfl
@[simp] theorem e_sl (m : ME) (lo hi : MO) : eSl m lo hi w = (m w).bind fun r w1 => (lo w1).bind fun l w2 => (hi w2).bind fun h w3 => match r.d w3 with
  | some d => (match gSl d l h with
    | some r' => .ok r' w3
    | none => .no)
  | none => .no := rfl
@[simp] theorem e_fn (n : Nat) (f : FM) (ms : MA) : eFn n f ms w = (ms w).bind fun rs w1 => match shAll rs with
  | some ds => if ds.length = n then backW w1 (callF f ds w1.st w1.lk) else .no
  | none => .no := by
  unfold eFn callF
  simp only [backW_strip]
  try rfl
@[simp] theorem e_meth (C m : Str) (n : Nat) (f : FM) (mo : ME) (ms : MA) : eMeth C m n f mo ms w = (mo w).bind fun r w0 => match r with
  | .sh (.obj k) => (match w0.st[k]? with
    | some (.ins C' fs) => if C' = C ∧ lookF fs m = none then ((ms w0).bind fun rs w1 => match shAll rs with
      | some ds => if ds.length + 1 = n then backW w1 (callF f (.obj k :: ds) w1.st w1.lk) else .no
      | none => .no) else .no
    | _ => .no)
  | _ => .no := by
  unfold eMeth callF
  simp only [backW_strip]
  try rfl
@[simp] theorem e_make (C : Str) (n : Nat) (f : FM) (ms : MA) : eMake C n f ms w = (ms w).bind fun rs w1 => match shAll rs with
  | some ds => if ds.length + 1 = n then (match backW w1 (callF f (.obj w1.st.length :: ds) (w1.st ++ [.ins C []]) w1.lk) with
    | .ok (.sh .non) w2 => .ok (.sh (.obj w1.st.length)) w2
    | .ex x w2 => .ex x w2
    | _ => .no) else .no
  | none => .no := by
  unfold eMake callF
  simp only [backW_strip]
  try rfl
@[simp] theorem e_told (l : List (Str × Str)) (m : ME) : eTold l m w = match m w with
  | .ok r w' => .ok r w'
  | .ex x w' => (match toldN l x.cls with
    | some r => .ok (.sh (.str r)) w'
    | none => .no)
  | .no => .no := rfl
@[simp] theorem e_lock (m body : ME) : eLock m body w = match m w with
  | .ok (.sh d) w1 => if (dctOf w1 d).isSome = true then (match body (lockW d w1) with
    | .ok r w2 => if w2.lk = (lockW d w1).lk then .ok r { w2 with lk := w1.lk } else .no
    | _ => .no) else .no
  | _ => .no := rfl
@[simp] theorem e_obj (m : ME) : eObj m w = match m w with
  | .ok (.sh (.obj n)) w' => .ok (.sh (.obj n)) w'
  | _ => .no := rfl
@[simp] theorem e_dnew : eDNew w = .ok (.own (.dct false [])) w := rfl
@[simp] theorem e_dget2 (md mk mx : ME) : eDGet2 md mk mx w = (md w).bind fun rd w1 => if isDct (rd.d w1) then (mk w1).bind fun rk w2 => (mx w2).bind fun rx w3 => match rd.d w3, rk.d w3 with
  | some (.dct false kvs), some k => if (keyD k).isSome then (match lookD kvs k with
    | some v => .ok (.sh v) w3
    | none => .ok rx w3) else .no
  | _, _ => .no else .no := rfl
@[simp] theorem e_dpop1 (md mk : ME) : eDPop1 md mk w = (md w).bind fun rd w1 => if isDct (rd.d w1) then (mk w1).bind fun rk w2 => match rd.d w2, rk.d w2 with
  | some (.dct false kvs), some k => if (keyD k).isSome then (match lookD kvs k, setC w2 rd (.dct false (dropD kvs k)) with
    | some v, some w3 => .ok (.sh v) w3
    | _, _ => .no) else .no
  | _, _ => .no else .no := rfl
@[simp] theorem e_box (m : ME) : eBox m w = (m w).bind fun r w1 => match r with
  | .sh d => .ok (.sh d) w1
  | .own c => (match boxD c with
    | some ob => .ok (.sh (.obj w1.st.length)) { w1 with st := w1.st ++ [ob] }
    | none => .no)
  | .bor _ => .no := rfl
@[simp] theorem m_yes : mYes w = .ok true w := rfl

/-! ### iterations, targets -/
@[simp] theorem i_seq_ (m : ME) : iSeq m w = (m w).bind fun r w1 => seqD w1 r := rfl
@[simp] theorem seqD_obj (n : Nat) : seqD w (.sh (.obj n)) = (match w.st[n]? with
    | some (.lst ds) => .ok (.ob n (.lst ds), ds) w
    | _ => .no) := rfl
@[simp] theorem seqD_lst (ds : List D) : seqD w (.sh (.lst ds)) = .ok (.pur, ds) w := rfl
@[simp] theorem seqD_tup (ds : List D) : seqD w (.sh (.tup ds)) = .ok (.pur, ds) w := rfl
@[simp] theorem seqD_str (x : Str) : seqD w (.sh (.str x)) = .ok (.pur, charsD x) w := rfl
@[simp] theorem i_arg_ (f : List D → Option (List D)) (ms : MA) : iArg f ms w = (ms w).bind fun rs w1 => match (dAll w1 rs).bind f with
  | some ds => .ok (.pur, ds) w1
  | none => .no := rfl
@[simp] theorem i_dct_ (f : List (D × D) → List D) (m : ME) : iDct f m w = (m w).bind fun r w1 => match dctR w1 r with
  | some (false, kvs) => .ok (.pur, f kvs) w1
  | _ => .no := rfl
@[simp] theorem dctR_obj (n : Nat) : dctR w (.sh (.obj n)) = (match w.st[n]? with
    | some (.dct t kvs) => some (t, kvs)
    | _ => none) := rfl
@[simp] theorem dctR_bor (i : Nat) : dctR w (.bor i) = (match w.env[i]? with
    | some (some (.sh d)) => dctOf w d
    | _ => none) := rfl
@[simp] theorem dctOf_dct (t : Bool) (kvs : List (D × D)) : dctOf w (.dct t kvs) = some (t, kvs) := rfl
@[simp] theorem dctOf_obj (n : Nat) : dctOf w (.obj n) = (match w.st[n]? with
    | some (.dct t kvs) => some (t, kvs)
    | _ => none) := rfl
@[simp] theorem lockW_obj (n : Nat) : lockW (.obj n) w = ⟨w.env, w.st, n :: w.lk⟩ := rfl
@[simp] theorem lockW_dct (t : Bool) (kvs : List (D × D)) : lockW (.dct t kvs) w = w := rfl
@[simp] theorem srcOk_pur : srcOk .pur w = true := rfl
@[simp] theorem srcOk_ob (n : Nat) (o : Ob) : srcOk (.ob n o) w = decide (w.st[n]? = some o) := rfl
@[simp] theorem gt_name (i : Nat) (d : D) : gtName i d w = some ⟨w.env.set i (some (.sh d)), w.st, w.lk⟩ := rfl
@[simp] theorem gt_nil : gtNil [] w = some w := rfl
@[simp] theorem gt_cons (t : TgM) (u : List D → W → Option W) (d : D) (r : List D) : gtCons t u (d :: r) w = (t d w).bind (u r) := rfl
@[simp] theorem gt_tup (n : Nat) (t : List D → W → Option W) (ds : List D) : gtTup n t (.tup ds) w = if ds.length = n then t ds w else none := rfl

/-! ### statements -/
@[simp] theorem s_seq (a b : MS) : sSeq a b w = match a w with
  | .ok .nx w' => b w'
  | r => r := rfl
@[simp] theorem s_skip : sSkip w = .ok .nx w := rfl
@[simp] theorem s_bk : sBk w = .ok .bk w := rfl
@[simp] theorem s_ct : sCt w = .ok .ct w := rfl
@[simp] theorem s_drop (m : ME) : sDrop m w = (m w).bind fun _ w1 => .ok .nx w1 := rfl
def retR (r : R) (w1 : W) : Res Sig := match r with
  | .sh d => .ok (.rt (.sh d)) w1
  | .own d => .ok (.rt (.own d)) w1
  | .bor i => match w1.env[i]? with
    | some (some (.sh d)) => .ok (.rt (.sh d)) w1
    | some (some (.own d)) => .ok (.rt (.own d)) { w1 with env := w1.env.set i none }
    | _ => .no
@[simp] theorem s_ret_ (m : ME) : sRet m w = (m w).bind retR := by
  unfold sRet
  congr 1
@[simp] theorem retR_sh (d : D) : retR (.sh d) w = .ok (.rt (.sh d)) w := rfl
@[simp] theorem retR_own (d : D) : retR (.own d) w = .ok (.rt (.own d)) w := rfl
@[simp] theorem retR_bor (i : Nat) : retR (.bor i) w = match w.env[i]? with
    | some (some (.sh d)) => .ok (.rt (.sh d)) w
    | some (some (.own d)) => .ok (.rt (.own d)) { w with env := w.env.set i none }
    | _ => .no := rfl
@[simp] theorem s_retN_ : sRetN w = .ok (.rt (.sh .non)) w := rfl
@[simp] theorem s_if_ (t : MT) (a b : MS) : sIf t a b w = (t w).bind fun c w1 => if c = true then a w1 else b w1 := rfl
@[simp] theorem s_set_ (i : Nat) (m : ME) : sSet i m w = (m w).bind fun r w1 => putR i r w1 := rfl
@[simp] theorem putR_sh (i : Nat) (d : D) : putR i (.sh d) w = .ok .nx ⟨w.env.set i (some (.sh d)), w.st, w.lk⟩ := rfl
@[simp] theorem putR_own (i : Nat) (d : D) : putR i (.own d) w = .ok .nx ⟨w.env.set i (some (.own d)), w.st, w.lk⟩ := rfl
@[simp] theorem s_for_ (mi : MI) (tg : TgM) (b : MS) : sFor mi tg b w = (mi w).bind fun p w1 => sForL p.1 tg b p.2 w1 := rfl
@[simp] theorem s_lock_ (m : ME) (body : MS) : sLock m body w = match m w with
  | .ok (.sh d) w1 => if (dctOf w1 d).isSome = true then (match body (lockW d w1) with
    | .ok r w2 => if w2.lk = (lockW d w1).lk then .ok r { w2 with lk := w1.lk } else .no
    | _ => .no) else .no
  | _ => .no := rfl
@[simp] theorem s_raise_ (C : Str) (m : ME) : sRaise C m w = (m w).bind fun _ w1 => .ex ⟨C, none⟩ w1 := rfl
@[simp] theorem s_try_ (L : List Str) (C : Str) (b s : MS) : sTry L C b s w = match b w with
  | .ex x w1 => if x.cls ∈ L then (if x.cls = C then s w1 else .ex x w1) else .no
  | .ok g w1 => .ok g w1
  | .no => .no := rfl
@[simp] theorem s_put_ (mo mi mv : ME) : sPut mo mi mv w = (mv w).bind fun rv w1 => (mo w1).bind fun ro w2 => (mi w2).bind fun ri w3 => match rv, ro.d w3, ri.d w3 with
  | .sh d, some c, some k => (match (putAt c k d).bind (setC w3 ro) with
    | some w4 => .ok .nx w4
    | none => .no)
  | _, _, _ => .no := rfl
@[simp] theorem s_fldM (okf : Str → Str → Bool) (mo mv : ME) (f : Str) : sFldM okf mo mv f w = (mv w).bind fun rv w1 => (mo w1).bind fun ro w2 => match ro with
  | .sh (.obj n) => (match w2.st[n]? with
    | some (.ins C fs) => if okf C f && Nat.blt fs.length 1000 then (match rv with
      | .sh d => .ok .nx { w2 with st := w2.st.set n (.ins C (putFD f d fs)) }
      | .own c => (match boxD c with
        | some ob => .ok .nx { w2 with st := (w2.st ++ [ob]).set n (.ins C (putFD f (.obj w2.st.length) fs)) }
        | none => .no)
      | .bor _ => .no) else .no
    | _ => .no)
  | _ => .no := rfl
@[simp] theorem s_aug_ (i : Nat) (g : D → D → Option R) (m : ME) : sAug i g m w = match w.env[i]? with
  | some (some (.sh d0)) => (m w).bind fun r w1 => match r.d w1 with
    | some d1 => (match g (deref w1 d0) d1 with
      | some (.sh d) => .ok .nx { w1 with env := w1.env.set i (some (.sh d)) }
      | _ => .no)
    | none => .no
  | _ => .no := rfl
@[simp] theorem s_asgT (m : ME) (tg : TgM) : sAsgT m tg w = (m w).bind fun r w1 => match r with
  | .sh d => (match tg d w1 with
    | some w2 => .ok .nx w2
    | none => .no)
  | _ => .no := rfl
@[simp] theorem putW_sh (i : Nat) (d : D) : putW i (.sh d) w = some ⟨w.env.set i (some (.sh d)), w.st, w.lk⟩ := rfl
@[simp] theorem putW_own (i : Nat) (d : D) : putW i (.own d) w = some ⟨w.env.set i (some (.own d)), w.st, w.lk⟩ := rfl
@[simp] theorem s_par_ (i j : Nat) (ma mb : ME) : sPar i j ma mb w = (ma w).bind fun r1 w1 => (mb w1).bind fun r2 w2 => match (putW i r1 w2).bind (putW j r2) with
  | some w3 => .ok .nx w3
  | none => .no := rfl
@[simp] theorem s_par3_ (i j l : Nat) (ma mb mc : ME) : sPar3 i j l ma mb mc w = (ma w).bind fun r1 w1 => (mb w1).bind fun r2 w2 => (mc w2).bind fun r3 w3 => match ((putW i r1 w3).bind (putW j r2)).bind (putW l r3) with
  | some w4 => .ok .nx w4
  | none => .no := rfl
end

/-! ### data -/
theorem lookF_nil (k : Str) : lookF [] k = none := rfl
theorem lookF_cons (a : Str) (x : D) (r : List (Str × D)) (k : Str) : lookF ((a, x) :: r) k = if a = k then some x else lookF r k := rfl
theorem putFD_nil (f : Str) (v : D) : putFD f v [] = [(f, v)] := rfl
theorem putFD_cons (f g : Str) (v x : D) (r : List (Str × D)) : putFD f v ((g, x) :: r) = if g = f then (g, v) :: r else (g, x) :: putFD f v r := rfl
@[simp] theorem boxD_lst (x : List D) : boxD (.lst x) = some (.lst x) := rfl
@[simp] theorem boxD_dct (t : Bool) (x : List (D × D)) : boxD (.dct t x) = some (.dct t x) := rfl
@[simp] theorem keyD_int (i : Int) : keyD (.int i) = some (.inl i) := rfl
@[simp] theorem keyD_str (x : Str) : keyD (.str x) = some (.inr x) := rfl
@[simp] theorem keyD_tup (x : List D) : keyD (.tup x) = none := rfl
@[simp] theorem isDct_dct (k : List (D × D)) : isDct (some (.dct false k)) = true := rfl
@[simp] theorem truD_non : truD .non = some false := rfl
@[simp] theorem truD_bl (b : Bool) : truD (.bl b) = some b := rfl
@[simp] theorem truD_int (i : Int) : truD (.int i) = some (i != 0) := rfl
@[simp] theorem truD_lst (x : List D) : truD (.lst x) = some (!x.isEmpty) := rfl
@[simp] theorem truD_tup (x : List D) : truD (.tup x) = some (!x.isEmpty) := rfl
@[simp] theorem gAdd_int (i j : Int) : gAdd (.int i) (.int j) = some (.sh (.int (i + j))) := rfl
@[simp] theorem gAdd_lst (x y : List D) : gAdd (.lst x) (.lst y) = if sizeOk (x.length + y.length) then some (.own (.lst (x ++ y))) else none := rfl
@[simp] theorem gAdd_tup (x y : List D) : gAdd (.tup x) (.tup y) = if sizeOk (x.length + y.length) then some (.sh (.tup (x ++ y))) else none := rfl
@[simp] theorem gAddI_int (i j : Int) : gAddI (.int i) (.int j) = some (.sh (.int (i + j))) := rfl
@[simp] theorem gSub_int (i j : Int) : gSub (.int i) (.int j) = some (.sh (.int (i - j))) := rfl
@[simp] theorem gNeg_int (i : Int) : gNeg (.int i) = some (.sh (.int (-i))) := rfl
@[simp] theorem gMul_int (i j : Int) : gMul (.int i) (.int j) = if smallI i || smallI j then some (.sh (.int (i * j))) else none := rfl
@[simp] theorem gMulI_int (i j : Int) : gMulI (.int i) (.int j) = if smallI i || smallI j then some (.sh (.int (i * j))) else none := rfl
@[simp] theorem gDiv_int (i j : Int) : gDiv (.int i) (.int j) = if decide (j ≠ 0) && Nat.blt j.natAbs 1073741824 then some (.sh (.int (i.fdiv j))) else none := rfl
@[simp] theorem gMod_int (i j : Int) : gMod (.int i) (.int j) = if decide (j ≠ 0) then some (.sh (.int (i.fmod j))) else none := rfl
@[simp] theorem gLt_int (i j : Int) : gLt (.int i) (.int j) = some (.sh (.bl (decide (i < j)))) := rfl
@[simp] theorem gLe_int (i j : Int) : gLe (.int i) (.int j) = some (.sh (.bl (decide (i ≤ j)))) := rfl
@[simp] theorem gGt_int (i j : Int) : gGt (.int i) (.int j) = some (.sh (.bl (decide (j < i)))) := rfl
@[simp] theorem gGe_int (i j : Int) : gGe (.int i) (.int j) = some (.sh (.bl (decide (j ≤ i)))) := rfl
@[simp] theorem gIs_non (d : D) : gIs d .non = some (.sh (.bl (decide (d = .non)))) := by cases d <;> rfl
@[simp] theorem gIsNot_non (d : D) : gIsNot d .non = some (.sh (.bl (!decide (d = .non)))) := by cases d <;> rfl
@[simp] theorem gLen_lst (x : List D) : gLen [.lst x] = some (.sh (.int x.length)) := rfl
@[simp] theorem gLen_tup (x : List D) : gLen [.tup x] = some (.sh (.int x.length)) := rfl
@[simp] theorem gLen_dct (t : Bool) (x : List (D × D)) : gLen [.dct t x] = some (.sh (.int x.length)) := rfl
@[simp] theorem gAbs_int (i : Int) : gAbs [.int i] = some (.sh (.int (if i < 0 then -i else i))) := rfl
@[simp] theorem gInt_int (i : Int) : gInt [.int i] = some (.sh (.int i)) := rfl
@[simp] theorem gInt_bl (b : Bool) : gInt [.bl b] = some (.sh (.int (if b then 1 else 0))) := rfl
@[simp] theorem gList_lst (x : List D) : gList [.lst x] = some (.own (.lst x)) := rfl
@[simp] theorem gList_tup (x : List D) : gList [.tup x] = some (.own (.lst x)) := rfl
@[simp] theorem gTuple_lst (x : List D) : gTuple [.lst x] = some (.sh (.tup x)) := rfl
@[simp] theorem gTuple_tup (x : List D) : gTuple [.tup x] = some (.sh (.tup x)) := rfl
@[simp] theorem gMin_two (i j : Int) : gMin [.int i, .int j] = some (.sh (.int (if j < i then j else i))) := rfl
@[simp] theorem gMax_two (i j : Int) : gMax [.int i, .int j] = some (.sh (.int (if j > i then j else i))) := rfl
theorem gMin_lst (d : D) (ds : List D) : gMin [.lst (d :: ds)] = if cmpOk (d :: ds) then some (.sh (minDD d ds)) else none := rfl
theorem gMax_lst (d : D) (ds : List D) : gMax [.lst (d :: ds)] = if cmpOk (d :: ds) then some (.sh (maxDD d ds)) else none := rfl
@[simp] theorem gSum_lst (ds : List D) : gSum [.lst ds] = (intsD ds).map fun ns => .sh (.int ns.sum) := rfl
@[simp] theorem gSorted_lst (ds : List D) : gSorted [.lst ds] = if sortOk ds then some (.own (.lst (sortD ds))) else none := rfl
@[simp] theorem gSorted_dct (kvs : List (D × D)) : gSorted [.dct false kvs] = if sortOk (keysD' kvs) then some (.own (.lst (sortD (keysD' kvs)))) else none := rfl
@[simp] theorem gDict_lst (ds : List D) : gDict [.lst ds] = if sizeOk ds.length then (pairsD ds).map fun kvs => .own (.dct false (mergeD [] kvs)) else none := rfl
@[simp] theorem gDict_dct (kvs : List (D × D)) : gDict [.dct false kvs] = some (.own (.dct false kvs)) := rfl
@[simp] theorem gListI_dct (kvs : List (D × D)) : gListI (.dct false kvs) = if sizeOk kvs.length then some (.own (.lst (itemsD kvs))) else none := rfl
@[simp] theorem gListV_dct (kvs : List (D × D)) : gListV (.dct false kvs) = some (.own (.lst (valsD kvs))) := rfl
@[simp] theorem gSumV_dct (kvs : List (D × D)) : gSumV (.dct false kvs) = (intsD (valsD kvs)).map fun ns => .sh (.int ns.sum) := rfl
@[simp] theorem gSortI_dct (kvs : List (D × D)) : gSortI (.dct false kvs) = if sortOk (itemsD kvs) then some (.own (.lst (sortD (itemsD kvs)))) else none := rfl
@[simp] theorem gIx_lst (x : List D) (i : Int) : gIx (.lst x) (.int i) = (atI x i).map .sh := rfl
@[simp] theorem gIx_tup (x : List D) (i : Int) : gIx (.tup x) (.int i) = (atI x i).map .sh := rfl
theorem gIx_str (z : Str) (i : Int) : gIx (.str z) (.int i) = if sizeOk z.length then (atI z.cps.toList i).map (fun c => .sh (.str ⟨#[c]⟩)) else none := rfl
@[simp] theorem gIx_dct (kvs : List (D × D)) (k : D) : gIx (.dct false kvs) k = if (keyD k).isSome then (lookD kvs k).map .sh else none := by cases k <;> rfl
@[simp] theorem gSl_lst (x : List D) (lo hi : Option Int) : gSl (.lst x) lo hi = some (.own (.lst (cutD x lo hi))) := rfl
@[simp] theorem gSl_ext (x : List D) (lo hi : Option Int) : gSl (.ext x) lo hi = some (.own (.lst (cutD x lo hi))) := rfl
@[simp] theorem gSl_tup (x : List D) (lo hi : Option Int) : gSl (.tup x) lo hi = some (.sh (.tup (cutD x lo hi))) := rfl
@[simp] theorem putAt_lst (x : List D) (i : Int) (v : D) : putAt (.lst x) (.int i) v = (ixN x.length i).map fun j => .lst (x.set j v) := rfl
@[simp] theorem putAt_dct (kvs : List (D × D)) (k v : D) : putAt (.dct false kvs) k v = if (keyD k).isSome && sizeLt kvs.length then some (.dct false (putD kvs k v)) else none := by cases k <;> rfl
@[simp] theorem setC_obj (w : W) (n : Nat) (c : D) : setC w (.sh (.obj n)) c = setOb w n c := rfl
@[simp] theorem setC_bor (w : W) (i : Nat) (c : D) : setC w (.bor i) c = (match w.env[i]? with
    | some (some (.own c0)) => if sameK c0 c then some { w with env := w.env.set i (some (.own c)) } else none
    | some (some (.sh (.obj n))) => setOb w n c
    | _ => none) := rfl
@[simp] theorem sameK_lst (x y : List D) : sameK (.lst x) (.lst y) = true := rfl
@[simp] theorem sameK_dct (t u : Bool) (x y : List (D × D)) : sameK (.dct t x) (.dct u y) = (t == u) := rfl
theorem setOb_eq (w : W) (n : Nat) (c : D) : setOb w n c = match w.st[n]?, c with
  | some (.dct t' _), .dct t kvs => if t' = t ∧ n ∉ w.lk then some { w with st := w.st.set n (.dct t kvs) } else none
  | some (.lst _), .lst xs => some { w with st := w.st.set n (.lst xs) }
  | _, _ => none := rfl
@[simp] theorem setOb_dct (w : W) (n : Nat) (t : Bool) (kvs : List (D × D)) : setOb w n (.dct t kvs) = match w.st[n]? with
  | some (.dct t' _) => if t' = t ∧ n ∉ w.lk then some { w with st := w.st.set n (.dct t kvs) } else none
  | _ => none := by
  rw [setOb_eq]
  cases w.st[n]? with
  | none => rfl
  | some o => cases o <;> rfl
@[simp] theorem setOb_lst (w : W) (n : Nat) (x : List D) : setOb w n (.lst x) = match w.st[n]? with
  | some (.lst _) => some { w with st := w.st.set n (.lst x) }
  | _ => none := by
  rw [setOb_eq]
  cases w.st[n]? with
  | none => rfl
  | some o => cases o <;> rfl
theorem fRng1_int (j : Int) : fRng1 [.int j] = if small62 j = true then some (rangeD 0 j.toNat) else none := rfl
theorem fRng2_int (i j : Int) : fRng2 [.int i, .int j] = if (small62 i && small62 j) = true then some (rangeD i (j - i).toNat) else none := rfl
@[simp] theorem intsD_nil : intsD [] = some [] := rfl
@[simp] theorem intsD_int (i : Int) (r : List D) : intsD (.int i :: r) = (intsD r).map (i :: ·) := rfl
@[simp] theorem intsD_map (ns : List Int) : intsD (ns.map D.int) = some ns := by
  induction ns with
  | nil => rfl
  | cons n r ih => simp [ih]
theorem intsD_map' {α : Type} (f : α → Int) (l : List α) : intsD (l.map fun x => D.int (f x)) = some (l.map f) := by
  have := intsD_map (l.map f)
  rw [List.map_map] at this
  exact this
@[simp] theorem numD_int (i : Int) : numD (.int i) = some i := rfl
@[simp] theorem numD_bl (b : Bool) : numD (.bl b) = some (if b = true then 1 else 0) := rfl
@[simp] theorem gInB_dct (k : D) (kvs : List (D × D)) : gInB k (.dct false kvs) = if (keyD k).isSome then some (lookD kvs k).isSome else none := by cases k <;> rfl
@[simp] theorem gIn1_def (a b : D) : gIn1 a b = (gInB a b).map fun b => .sh (.bl b) := rfl
@[simp] theorem gNotIn1_def (a b : D) : gNotIn1 a b = (gInB a b).map fun b => .sh (.bl (!b)) := rfl
@[simp] theorem sizeOk_dec (n : Nat) : sizeOk n = decide (n ≤ 16777216) := by
  unfold sizeOk
  by_cases h : n ≤ 16777216
  · simp [h, Nat.ble_eq]
  · have : n.ble 16777216 = false := by
      rw [← Bool.not_eq_true, Nat.ble_eq]; exact h
    simp [h, this]
@[simp] theorem sizeLt_dec (n : Nat) : sizeLt n = decide (n < 16777216) := by
  unfold sizeLt
  by_cases h : n < 16777216
  · simp [h, Nat.blt_eq]
  · have : n.blt 16777216 = false := by
      rw [← Bool.not_eq_true, Nat.blt_eq]; exact h
    simp [h, this]
end Rf
set_option maxHeartbeats 1000000
/-! Rm2: loops computed; statements one behind another. -/
namespace Rf
open PySem L2

/-! ### statements, step by step -/
/-- it goes on, and P holds -/
def Nx (r : Res Sig) (P : W → Prop) : Prop := ∃ w', r = .ok .nx w' ∧ P w'
theorem Nx.seq {a b : MS} {w : W} {P Q : W → Prop} (h : Nx (a w) P) (k : ∀ w', P w' → Nx (b w') Q) : Nx (sSeq a b w) Q := by
  obtain ⟨w', e, p⟩ := h
  have := k w' p
  unfold sSeq
  rw [e]
  exact this
theorem Nx.of {r : Res Sig} {w' : W} {P : W → Prop} (e : r = .ok .nx w') (p : P w') : Nx r P := ⟨w', e, p⟩
theorem seq_nx {a b : MS} {w w' : W} {r : Res Sig} (e : a w = .ok .nx w') (k : b w' = r) : sSeq a b w = r := by
  unfold sSeq
  rw [e]
  exact k
theorem seq_rt {a b : MS} {w w' : W} {x : R} (e : a w = .ok (.rt x) w') : sSeq a b w = .ok (.rt x) w' := by
  unfold sSeq
  rw [e]
theorem seq_ex {a b : MS} {w w' : W} {x : Exn} (e : a w = .ex x w') : sSeq a b w = .ex x w' := by
  unfold sSeq
  rw [e]
theorem if_t {t : MT} {a b : MS} {w w' : W} {r : Res Sig} (e : t w = .ok true w') (k : a w' = r) : sIf t a b w = r := by
  unfold sIf
  rw [e]
  exact k
theorem if_f {t : MT} {a b : MS} {w w' : W} {r : Res Sig} (e : t w = .ok false w') (k : b w' = r) : sIf t a b w = r := by
  unfold sIf
  rw [e]
  exact k

/-- it returns True -/
def TrueR (r : Res Sig) : Prop := ∃ w', r = .ok (.rt (.sh (.bl true))) w'
theorem TrueR.seq {a b : MS} {w : W} (w' : W) (e : a w = .ok .nx w') (k : TrueR (b w')) : TrueR (sSeq a b w) := by
  obtain ⟨w2, e2⟩ := k
  exact ⟨w2, seq_nx e e2⟩
theorem TrueR.nx {a b : MS} {w : W} {P : W → Prop} (h : Nx (a w) P) (k : ∀ w', P w' → TrueR (b w')) : TrueR (sSeq a b w) := by
  obtain ⟨w', e, p⟩ := h
  exact .seq w' e (k w' p)
theorem TrueR.end_ (w : W) : TrueR (sRet (eC (.bl true)) w) := ⟨w, rfl⟩

/-! ### for -/
/-- one turn -/
def turnF (tg : TgM) (b : MS) (d : D) (w : W) : Res Sig := match tg d w with
  | some w1 => b w1
  | none => .no
theorem sForL_nil {src : Src} {tg : TgM} {b : MS} {w : W} (h : srcOk src w = true) : sForL src tg b [] w = .ok .nx w := by
  simp [sForL, h]
theorem sForL_cons {src : Src} {tg : TgM} {b : MS} {d : D} {ds : List D} {w : W} (h : srcOk src w = true) : sForL src tg b (d :: ds) w = match turnF tg b d w with
    | .ok .nx w2 => sForL src tg b ds w2
    | .ok .ct w2 => sForL src tg b ds w2
    | .ok .bk w2 => .ok .nx w2
    | r => r := by
  rw [sForL, if_pos h]
  unfold turnF
  cases tg d w with
  | none => rfl
  | some w1 => rfl
/-- an invariant over what is left -/
theorem sForL_inv {src : Src} {tg : TgM} {b : MS} (I : List D → W → Prop) (hs : ∀ ds w, I ds w → srcOk src w = true)
    (step : ∀ d ds w, I (d :: ds) w → ∃ w2, (turnF tg b d w = .ok .nx w2 ∨ turnF tg b d w = .ok .ct w2) ∧ I ds w2) : ∀ {ds : List D} {w : W}, I ds w → Nx (sForL src tg b ds w) (I [])
  | [], w, h => ⟨w, sForL_nil (hs _ _ h), h⟩
  | d :: ds, w, h => by
    obtain ⟨w2, e, h2⟩ := step d ds w h
    have := sForL_inv I hs step h2
    rw [sForL_cons (hs _ _ h)]
    rcases e with e | e <;> (rw [e]; exact this)
/-- a state -/
theorem sForL_st {σ : Type} {src : Src} {tg : TgM} {b : MS} (emb : σ → W) (f : σ → D → σ) : ∀ {ds : List D} {s : σ}, (∀ s, srcOk src (emb s) = true) →
    (∀ s, ∀ d ∈ ds, turnF tg b d (emb s) = .ok .nx (emb (f s d)) ∨ turnF tg b d (emb s) = .ok .ct (emb (f s d))) → sForL src tg b ds (emb s) = .ok .nx (emb (ds.foldl f s))
  | [], s, hs, _ => sForL_nil (hs s)
  | d :: ds, s, hs, h => by
    rw [sForL_cons (hs s)]
    have ih := sForL_st (src := src) (tg := tg) (b := b) emb f (ds := ds) (s := f s d) hs fun s e he => h s e (.tail _ he)
    rcases h s d (.head _) with e | e <;> (rw [e]; exact ih)

/-! ### comprehensions -/
@[simp] theorem wipeW_mk (vs : List Nat) (env : List (Option S)) (st : List Ob) (lk : List Nat) : wipeW vs ⟨env, st, lk⟩ = ⟨wipeE vs 0 env, st, lk⟩ := rfl
@[simp] theorem wipeE_nil (vs : List Nat) (i : Nat) : wipeE vs i [] = [] := rfl
@[simp] theorem wipeE_cons (vs : List Nat) (i : Nat) (a : Option S) (r : List (Option S)) : wipeE vs i (a :: r) = (if vs.contains i then none else a) :: wipeE vs (i + 1) r := rfl
@[simp] theorem restW_mk (vs : List Nat) (w0 : W) (env : List (Option S)) (st : List Ob) (lk : List Nat) : restW vs w0 ⟨env, st, lk⟩ = ⟨restE vs 0 w0.env env, st, lk⟩ := rfl
@[simp] theorem restE_nil (vs : List Nat) (i : Nat) : restE vs i [] [] = [] := rfl
@[simp] theorem restE_cons (vs : List Nat) (i : Nat) (a b : Option S) (r t : List (Option S)) : restE vs i (a :: r) (b :: t) = (if vs.contains i then keepSh a else b) :: restE vs (i + 1) r t := rfl
@[simp] theorem keepSh_none : keepSh none = none := rfl
@[simp] theorem keepSh_sh (d : D) : keepSh (some (.sh d)) = some (.sh d) := rfl
@[simp] theorem keepSh_own (d : D) : keepSh (some (.own d)) = none := rfl
/-- one turn: the element, if it is taken -/
def turnC (vs : List Nat) (tg : TgM) (t : MT) (e : ME) (d : D) (w : W) : Option (Option D × W) := match tg d w with
  | some w1 => (match t w1 with
    | .ok c w2 => if c = true then (match e w2 with
        | .ok (.sh y) w3 => some (some y, wipeW vs w3)
        | _ => none) else some (none, wipeW vs w2)
    | _ => none)
  | none => none
theorem lcL_nil {vs : List Nat} {src : Src} {tg : TgM} {t : MT} {e : ME} {w : W} (h : srcOk src w = true) : lcL vs src tg t e [] w = .ok [] w := by
  simp [lcL, h]
theorem lcL_cons {vs : List Nat} {src : Src} {tg : TgM} {t : MT} {e : ME} {d : D} {ds : List D} {w w2 : W} {o : Option D} {ys : List D} {w3 : W} (h : srcOk src w = true) (h1 : turnC vs tg t e d w = some (o, w2)) (h2 : lcL vs src tg t e ds w2 = .ok ys w3) :
    lcL vs src tg t e (d :: ds) w = .ok (o.toList ++ ys) w3 := by
  rw [lcL, if_pos h]
  unfold turnC at h1
  cases e1 : tg d w with
  | none => rw [e1] at h1; cases h1
  | some w1 =>
    rw [e1] at h1
    simp only at h1 ⊢
    cases e2 : t w1 with
    | no => rw [e2] at h1; cases h1
    | ex x w => rw [e2] at h1; cases h1
    | ok c w4 =>
      rw [e2] at h1
      simp only at h1 ⊢
      cases c with
      | false => simp at h1 ⊢; obtain ⟨rfl, rfl⟩ := h1; simpa using h2
      | true =>
        simp only [if_true] at h1 ⊢
        cases e3 : e w4 with
        | no => rw [e3] at h1; cases h1
        | ex x w => rw [e3] at h1; cases h1
        | ok r w5 =>
          rw [e3] at h1
          cases r with
          | own d => cases h1
          | bor i => cases h1
          | sh y =>
            simp at h1 ⊢
            obtain ⟨rfl, rfl⟩ := h1
            rw [h2]
            simp
/-- nothing is changed -/
theorem lcL_pure {vs : List Nat} {src : Src} {tg : TgM} {t : MT} {e : ME} {w : W} (f : D → Option D) (h : srcOk src w = true) : ∀ {ds : List D}, (∀ d ∈ ds, turnC vs tg t e d w = some (f d, w)) → lcL vs src tg t e ds w = .ok (ds.filterMap f) w
  | [], _ => lcL_nil h
  | d :: ds, hd => by
    rw [lcL_cons h (hd d (.head _)) (lcL_pure f h fun e he => hd e (.tail _ he))]
    rw [List.filterMap_cons]
    cases f d <;> rfl
/-- a state goes through; what is made is told of by P -/
theorem lcL_inv {vs : List Nat} {src : Src} {tg : TgM} {t : MT} {e : ME} (I : List D → List D → W → Prop) (hs : ∀ ds ys w, I ds ys w → srcOk src w = true)
    (step : ∀ d ds ys w, I (d :: ds) ys w → ∃ o w2, turnC vs tg t e d w = some (o, w2) ∧ I ds (ys ++ o.toList) w2) : ∀ {ds ys : List D} {w : W}, I ds ys w → ∃ zs w', lcL vs src tg t e ds w = .ok zs w' ∧ I [] (ys ++ zs) w'
  | [], ys, w, h => ⟨[], w, lcL_nil (hs _ _ _ h), by simpa using h⟩
  | d :: ds, ys, w, h => by
    obtain ⟨o, w2, e1, h2⟩ := step d ds ys w h
    obtain ⟨zs, w3, e3, h3⟩ := lcL_inv I hs step h2
    exact ⟨o.toList ++ zs, w3, lcL_cons (hs _ _ _ h) e1 e3, by simpa using h3⟩
theorem eLc_of {mi : MI} {vs : List Nat} {tg : TgM} {t : MT} {e : ME} {w w1 w2 : W} {src : Src} {ds ys : List D} (hm : mi w = .ok (src, ds) w1) (hl : ds.length ≤ 16777216) (h : lcL vs src tg t e ds (wipeW vs w1) = .ok ys w2) :
    eLc mi vs tg t e w = .ok (.own (.lst ys)) (restW vs w1 w2) := by
  unfold eLc
  rw [hm]
  simp [h, hl]
theorem eLc_pure {mi : MI} {vs : List Nat} {tg : TgM} {t : MT} {e : ME} {w w1 : W} {src : Src} {ds : List D} (f : D → Option D) (hm : mi w = .ok (src, ds) w1) (hs : srcOk src w1 = true) (hl : ds.length ≤ 16777216)
    (h : ∀ d ∈ ds, turnC vs tg t e d (wipeW vs w1) = some (f d, wipeW vs w1)) : eLc mi vs tg t e w = .ok (.own (.lst (ds.filterMap f))) (restW vs w1 (wipeW vs w1)) := by
  refine eLc_of hm hl (lcL_pure f ?_ h)
  cases src with
  | pur => rfl
  | ob n o => exact hs

/-! ### sums, any, all -/
theorem sumL_pure {vs : List Nat} {src : Src} {tg : TgM} {t : MT} {e : ME} {w : W} (f : D → Option Int) (h : srcOk src w = true) : ∀ {ds : List D}, (∀ d ∈ ds, ∃ o, turnC vs tg t e d w = some (o, w) ∧ o.bind numD = f d ∧ (o.isSome → (f d).isSome)) → sumL vs src tg t e ds w = .ok (ds.filterMap f) w
  | [], _ => by simp [sumL, h]
  | d :: ds, hd => by
    have ih := sumL_pure f h fun e he => hd e (.tail _ he)
    obtain ⟨o, h1, h2, h3⟩ := hd d (.head _)
    rw [sumL, if_pos h]
    unfold turnC at h1
    cases e1 : tg d w with
    | none => rw [e1] at h1; cases h1
    | some w1 =>
      rw [e1] at h1
      simp only at h1 ⊢
      cases e2 : t w1 with
      | no => rw [e2] at h1; cases h1
      | ex x w => rw [e2] at h1; cases h1
      | ok c w4 =>
        rw [e2] at h1
        simp only at h1 ⊢
        cases c with
        | false => simp at h1 ⊢; obtain ⟨rfl, e9⟩ := h1; rw [e9, ih]; simp at h2; simp [List.filterMap_cons, ← h2]
        | true =>
          simp only [if_true] at h1 ⊢
          cases e3 : e w4 with
          | no => rw [e3] at h1; cases h1
          | ex x w => rw [e3] at h1; cases h1
          | ok r w5 =>
            rw [e3] at h1
            cases r with
            | own d => cases h1
            | bor i => cases h1
            | sh y =>
              simp at h1 ⊢
              obtain ⟨rfl, e9⟩ := h1
              simp at h2 h3
              rw [e9, ih]
              obtain ⟨n, hn⟩ := Option.isSome_iff_exists.mp h3
              rw [hn] at h2
              simp [h2, List.filterMap_cons, hn]
theorem eSumG_pure {mi : MI} {vs : List Nat} {tg : TgM} {t : MT} {e : ME} {w w1 : W} {src : Src} {ds : List D} (f : D → Option Int) (hm : mi w = .ok (src, ds) w1) (hs : srcOk src w1 = true)
    (h : ∀ d ∈ ds, ∃ o, turnC vs tg t e d (wipeW vs w1) = some (o, wipeW vs w1) ∧ o.bind numD = f d ∧ (o.isSome → (f d).isSome)) : eSumG mi vs tg t e w = .ok (.sh (.int (ds.filterMap f).sum)) (restW vs w1 (wipeW vs w1)) := by
  unfold eSumG
  rw [hm]
  have hs2 : srcOk src (wipeW vs w1) = true := by
    cases src with
    | pur => rfl
    | ob n o => exact hs
  simp [sumL_pure f hs2 h]
theorem quL_pure {q : Bool} {vs : List Nat} {src : Src} {tg : TgM} {t : MT} {e : ME} {w : W} (f : D → Option Bool) (h : srcOk src w = true) : ∀ {ds : List D}, (∀ d ∈ ds, turnC vs tg t e d w = some ((f d).map .bl, w)) → quL q vs src tg t e ds w = .ok (if ds.any (fun d => f d == some q) then q else !q) w
  | [], _ => by simp [quL, h]
  | d :: ds, hd => by
    have ih := quL_pure (q := q) f h fun e he => hd e (.tail _ he)
    have h1 := hd d (.head _)
    rw [quL, if_pos h]
    unfold turnC at h1
    cases e1 : tg d w with
    | none => rw [e1] at h1; cases h1
    | some w1 =>
      rw [e1] at h1
      simp only at h1 ⊢
      cases e2 : t w1 with
      | no => rw [e2] at h1; cases h1
      | ex x w => rw [e2] at h1; cases h1
      | ok c w4 =>
        rw [e2] at h1
        simp only at h1 ⊢
        cases c with
        | false =>
          simp at h1 ⊢
          obtain ⟨h0, e9⟩ := h1
          have h0' : f d = none := by
            cases z : f d with
            | none => rfl
            | some b => rw [z] at h0; cases h0
          rw [e9, ih]
          simp [h0']
        | true =>
          simp only [if_true] at h1 ⊢
          cases e3 : e w4 with
          | no => rw [e3] at h1; cases h1
          | ex x w => rw [e3] at h1; cases h1
          | ok r w5 =>
            rw [e3] at h1
            cases r with
            | own d => simp at h1
            | bor i => simp at h1
            | sh y =>
              simp at h1
              obtain ⟨h0, e9⟩ := h1
              cases hb : f d with
              | none => rw [hb] at h0; cases h0
              | some b =>
                rw [hb] at h0
                obtain rfl : y = .bl b := Option.some.inj h0
                simp only [e9, ih]
                by_cases z : b = q
                · simp [z, hb]
                · simp [z, hb]
theorem eQu_pure {q : Bool} {mi : MI} {vs : List Nat} {tg : TgM} {t : MT} {e : ME} {w w1 : W} {src : Src} {ds : List D} (f : D → Option Bool) (hm : mi w = .ok (src, ds) w1) (hs : srcOk src w1 = true)
    (h : ∀ d ∈ ds, turnC vs tg t e d (wipeW vs w1) = some ((f d).map .bl, wipeW vs w1)) : eQu q mi vs tg t e w = .ok (.sh (.bl (if ds.any (fun d => f d == some q) then q else !q))) (restW vs w1 (wipeW vs w1)) := by
  unfold eQu
  rw [hm]
  have hs2 : srcOk src (wipeW vs w1) = true := by
    cases src with
    | pur => rfl
    | ob n o => exact hs
  simp only [bind_ok, quL_pure f hs2 h]

/-! ### while -/
theorem sWhile_step {t : MT} {b : MS} {n : Nat} {w w1 w2 : W} {r : Res Sig} (ht : t w = .ok true w1) (hb : b w1 = .ok .nx w2 ∨ b w1 = .ok .ct w2) (k : sWhile t b n w2 = r) : sWhile t b (n + 1) w = r := by
  rw [sWhile]; show (t w).bind _ = _; rw [ht]
  rcases hb with hb | hb <;> (simp [hb]; exact k)
theorem sWhile_end {t : MT} {b : MS} {n : Nat} {w w1 : W} (ht : t w = .ok false w1) : sWhile t b (n + 1) w = .ok .nx w1 := by
  rw [sWhile]; show (t w).bind _ = _; rw [ht]
  simp
/-- an invariant and a measure -/
theorem sWhile_inv {t : MT} {b : MS} (I : W → Prop) (μ : W → Nat)
    (step : ∀ w, I w → (∃ w1, t w = .ok false w1 ∧ I w1) ∨ ∃ w1 w2, t w = .ok true w1 ∧ (b w1 = .ok .nx w2 ∨ b w1 = .ok .ct w2) ∧ I w2 ∧ μ w2 < μ w) : ∀ {n : Nat} {w : W}, I w → μ w < n → ∃ w0 w', I w0 ∧ t w0 = .ok false w' ∧ I w' ∧ sWhile t b n w = .ok .nx w'
  | 0, w, _, h => absurd h (Nat.not_lt_zero _)
  | n + 1, w, hI, h => by
    rcases step w hI with ⟨w1, e, h1⟩ | ⟨w1, w2, e, eb, h2, lt⟩
    · exact ⟨w, w1, hI, e, h1, sWhile_end e⟩
    · obtain ⟨w0, w', a, b', c, d⟩ := sWhile_inv I μ step (n := n) h2 (by omega)
      exact ⟨w0, w', a, b', c, sWhile_step e eb d⟩
end Rf
set_option maxHeartbeats 1000000
/-! Rm3: plain data: equality, order, sorting; small facts. -/
namespace Rf
open PySem PySem.W L2
open PyProof.Rows hiding St

/-! ### plain data, n deep -/
def pl : Nat → D → Bool
  | _, .non => true
  | _, .int _ => true
  | _, .str x => PyData.strOk x
  | n + 1, .tup xs => xs.all (pl n)
  | n + 1, .lst xs => xs.all (pl n)
  | _, _ => false
@[simp] theorem pl_non (n : Nat) : pl n .non = true := by cases n <;> rfl
@[simp] theorem pl_int (n : Nat) (i : Int) : pl n (.int i) = true := by cases n <;> rfl
@[simp] theorem pl_str (n : Nat) (x : Str) : pl n (.str x) = PyData.strOk x := by cases n <;> rfl
@[simp] theorem pl_tup (n : Nat) (xs : List D) : pl (n + 1) (.tup xs) = xs.all (pl n) := rfl
@[simp] theorem pl_lst (n : Nat) (xs : List D) : pl (n + 1) (.lst xs) = xs.all (pl n) := rfl
theorem pys_map (xs : List D) : D.pys xs = xs.map D.py := by
  induction xs with
  | nil => rfl
  | cons x r ih => rw [D.pys, ih]; rfl
theorem lay_all {xs : List D} (h : ∀ x ∈ xs, x.py.canLay0 = true) : PyData.canLayAll0 (D.pys xs) = true := by
  induction xs with
  | nil => rfl
  | cons x r ih => rw [D.pys, PyData.canLayAll0, h x (.head _), ih fun y hy => h y (.tail _ hy)]; rfl
theorem depth_all {xs : List D} {n : Nat} (h : ∀ x ∈ xs, x.py.depth ≤ n) : PyData.depthAll (D.pys xs) ≤ n := by
  induction xs with
  | nil => rw [D.pys, PyData.depthAll]; exact Nat.zero_le _
  | cons x r ih => rw [D.pys, PyData.depthAll]; exact Nat.max_le.mpr ⟨h x (.head _), ih fun y hy => h y (.tail _ hy)⟩
theorem pl_lay : ∀ (n : Nat) (d : D), pl n d = true → d.py.canLay0 = true ∧ d.py.depth ≤ n
  | n, .non, _ => ⟨rfl, by simp [D.py, PyData.depth]⟩
  | n, .int i, _ => ⟨rfl, by simp [D.py, PyData.depth]⟩
  | n, .str x, h => ⟨by rw [pl_str] at h; simpa [D.py, PyData.canLay0] using h, by simp [D.py, PyData.depth]⟩
  | 0, .tup xs, h => by cases h
  | 0, .lst xs, h => by cases h
  | n + 1, .tup xs, h => by
    have h' := List.all_eq_true.mp h
    exact ⟨by rw [D.py, PyData.canLay0]; exact lay_all fun x hx => (pl_lay n x (h' x hx)).1, by rw [D.py, PyData.depth]; exact Nat.succ_le_succ (depth_all fun x hx => (pl_lay n x (h' x hx)).2)⟩
  | n + 1, .lst xs, h => by
    have h' := List.all_eq_true.mp h
    exact ⟨by rw [D.py, PyData.canLay0]; exact lay_all fun x hx => (pl_lay n x (h' x hx)).1, by rw [D.py, PyData.depth]; exact Nat.succ_le_succ (depth_all fun x hx => (pl_lay n x (h' x hx)).2)⟩
  | n, .bl b, h => by cases n <;> cases h
  | n, .dct t k, h => by cases n <;> cases h
  | n, .obj k, h => by cases n <;> cases h
  | n, .ext k, h => by cases n <;> cases h
theorem pl_shp {n : Nat} {d : D} (h : pl n d = true) (hn : n ≤ 64) : shp d = true := by
  obtain ⟨h1, h2⟩ := pl_lay n d h
  unfold shp SeqAt.shaped
  simp [h1, Nat.le_trans h2 hn]
theorem eqv_pys {xs ys : List D} (h : ∀ x ∈ xs, ∀ y ∈ ys, PyData.eqv x.py y.py = decide (x = y)) : PyData.eqvAll (D.pys xs) (D.pys ys) = decide (xs = ys) := by
  induction xs generalizing ys with
  | nil =>
    cases ys with
    | nil => simp [D.pys, PyData.eqvAll]
    | cons y r => simp [D.pys, PyData.eqvAll]
  | cons x r ih =>
    cases ys with
    | nil => simp [D.pys, PyData.eqvAll]
    | cons y s =>
      rw [D.pys, D.pys, PyData.eqvAll, h x (.head _) y (.head _), ih fun a ha b hb => h a (.tail _ ha) b (.tail _ hb)]
      by_cases e : x = y <;> simp [e]
theorem pl_eqv : ∀ (n : Nat) (d e : D) (m : Nat), pl n d = true → pl m e = true → PyData.eqv d.py e.py = decide (d = e)
  | n, .non, e, m, _, h => by cases e <;> first | rfl | (cases m <;> cases h) | simp [D.py, PyData.eqv]
  | n, .int i, e, m, _, h => by
    cases e with
    | int j => by_cases q : i = j <;> simp [D.py, PyData.eqv, q]
    | bl b => cases m <;> cases h
    | dct t k => cases m <;> cases h
    | obj k => cases m <;> cases h
    | ext k => cases m <;> cases h
    | _ => simp [D.py, PyData.eqv]
  | n, .str x, e, m, _, h => by
    cases e with
    | str y => by_cases q : x = y <;> simp [D.py, PyData.eqv, q]
    | bl b => cases m <;> cases h
    | dct t k => cases m <;> cases h
    | obj k => cases m <;> cases h
    | ext k => cases m <;> cases h
    | _ => simp [D.py, PyData.eqv]
  | 0, .tup xs, e, m, h, _ => by cases h
  | 0, .lst xs, e, m, h, _ => by cases h
  | n + 1, .tup xs, e, m, h, h2 => by
    cases e with
    | tup ys =>
      cases m with
      | zero => cases h2
      | succ m =>
        rw [D.py, D.py, PyData.eqv, eqv_pys fun x hx y hy => pl_eqv n x y m (List.all_eq_true.mp h x hx) (List.all_eq_true.mp h2 y hy)]
        by_cases q : xs = ys <;> simp [q]
    | bl b => cases m <;> cases h2
    | dct t k => cases m <;> cases h2
    | obj k => cases m <;> cases h2
    | ext k => cases m <;> cases h2
    | _ => simp [D.py, PyData.eqv]
  | n + 1, .lst xs, e, m, h, h2 => by
    cases e with
    | lst ys =>
      cases m with
      | zero => cases h2
      | succ m =>
        rw [D.py, D.py, PyData.eqv, eqv_pys fun x hx y hy => pl_eqv n x y m (List.all_eq_true.mp h x hx) (List.all_eq_true.mp h2 y hy)]
        by_cases q : xs = ys <;> simp [q]
    | bl b => cases m <;> cases h2
    | dct t k => cases m <;> cases h2
    | obj k => cases m <;> cases h2
    | ext k => cases m <;> cases h2
    | _ => simp [D.py, PyData.eqv]
  | n, .bl b, _, _, h, _ => by cases n <;> cases h
  | n, .dct t k, _, _, h, _ => by cases n <;> cases h
  | n, .obj k, _, _, h, _ => by cases n <;> cases h
  | n, .ext k, _, _, h, _ => by cases n <;> cases h
theorem pl_nd {n : Nat} {d : D} (h : pl n d = true) : ∀ t ks, d ≠ .dct t ks := fun t ks e => by
  rw [e] at h
  cases n <;> cases h
theorem gEq_0 {d e : D} (h : ∀ t ks, d ≠ .dct t ks) : gEq d e = gEq0 d e := by
  unfold gEq
  split
  · exact (h _ _ rfl).elim
  · rfl
theorem gNe_0 {d e : D} (h : ∀ t ks, d ≠ .dct t ks) : gNe d e = gNe0 d e := by
  unfold gNe
  split
  · exact (h _ _ rfl).elim
  · rfl
theorem gEq_pl {n m : Nat} {d e : D} (h1 : pl n d = true) (h2 : pl m e = true) (hn : n ≤ 64) (hm : m ≤ 64) : gEq d e = some (.sh (.bl (decide (d = e)))) := by
  rw [gEq_0 (pl_nd h1)]
  unfold gEq0
  rw [pl_shp h1 hn, pl_shp h2 hm, pl_eqv n d e m h1 h2]
  rfl
theorem gNe_pl {n m : Nat} {d e : D} (h1 : pl n d = true) (h2 : pl m e = true) (hn : n ≤ 64) (hm : m ≤ 64) : gNe d e = some (.sh (.bl (!decide (d = e)))) := by
  rw [gNe_0 (pl_nd h1)]
  unfold gNe0
  rw [pl_shp h1 hn, pl_shp h2 hm, pl_eqv n d e m h1 h2]
  rfl
@[simp] theorem gEq_int (i j : Int) : gEq (.int i) (.int j) = some (.sh (.bl (decide (i = j)))) := by
  rw [gEq_pl (n := 0) (m := 0) rfl rfl (by decide) (by decide)]
  by_cases h : i = j <;> simp [h]
@[simp] theorem gNe_int (i j : Int) : gNe (.int i) (.int j) = some (.sh (.bl (!decide (i = j)))) := by
  rw [gNe_pl (n := 0) (m := 0) rfl rfl (by decide) (by decide)]
  by_cases h : i = j <;> simp [h]
@[simp] theorem gEq_nil : gEq (.lst []) (.lst []) = some (.sh (.bl true)) := by
  rw [gEq_pl (n := 1) (m := 1) rfl rfl (by decide) (by decide)]; simp
@[simp] theorem gNe_nil : gNe (.lst []) (.lst []) = some (.sh (.bl false)) := by
  rw [gNe_pl (n := 1) (m := 1) rfl rfl (by decide) (by decide)]; simp
theorem gEq_str {x y : Str} (h1 : PyData.strOk x = true) (h2 : PyData.strOk y = true) : gEq (.str x) (.str y) = some (.sh (.bl (decide (x = y)))) := by
  rw [gEq_pl (n := 0) (m := 0) (by simpa using h1) (by simpa using h2) (by decide) (by decide)]
  by_cases h : x = y <;> simp [h]
theorem gNe_str {x y : Str} (h1 : PyData.strOk x = true) (h2 : PyData.strOk y = true) : gNe (.str x) (.str y) = some (.sh (.bl (!decide (x = y)))) := by
  rw [gNe_pl (n := 0) (m := 0) (by simpa using h1) (by simpa using h2) (by decide) (by decide)]
  by_cases h : x = y <;> simp [h]
theorem anyEqv_pl {n m : Nat} {ds : List D} {d : D} (h1 : ds.all (pl n) = true) (h2 : pl m d = true) : anyEqv ds d = decide (d ∈ ds) := by
  unfold anyEqv
  induction ds with
  | nil => simp
  | cons x r ih =>
    have h1' := List.all_eq_true.mp h1
    rw [List.any_cons, pl_eqv n x d m (h1' x (.head _)) h2, ih (List.all_eq_true.mpr fun y hy => h1' y (.tail _ hy))]
    by_cases e : x = d
    · simp [e]
    · simp [e, Ne.symm e]
theorem gIn_lst {n m : Nat} {ds : List D} {d : D} (h1 : ds.all (pl n) = true) (h2 : pl m d = true) (hn : n ≤ 63) (hm : m ≤ 64) : gInB d (.lst ds) = some (decide (d ∈ ds)) := by
  have e : gInB d (.lst ds) = gIn d (.lst ds) := by cases d <;> rfl
  have e2 : gIn d (.lst ds) = if shp d && shp (.lst ds) then some (anyEqv ds d) else none := by cases d <;> rfl
  rw [e, e2, pl_shp h2 hm, pl_shp (n := n + 1) (d := .lst ds) h1 (by omega), anyEqv_pl h1 h2]
  rfl
theorem gIn_tup {n m : Nat} {ds : List D} {d : D} (h1 : ds.all (pl n) = true) (h2 : pl m d = true) (hn : n ≤ 63) (hm : m ≤ 64) : gInB d (.tup ds) = some (decide (d ∈ ds)) := by
  have e : gInB d (.tup ds) = gIn d (.tup ds) := by cases d <;> rfl
  have e2 : gIn d (.tup ds) = if shp d && shp (.tup ds) then some (anyEqv ds d) else none := by cases d <;> rfl
  rw [e, e2, pl_shp h2 hm, pl_shp (n := n + 1) (d := .tup ds) h1 (by omega), anyEqv_pl h1 h2]
  rfl

/-! ### the order -/
theorem leD_trans (a b c : D) (h1 : leD a b = true) (h2 : leD b c = true) : leD a c = true := by
  unfold leD dataLt at *
  simp only [Bool.not_eq_true'] at *
  cases h : PyProof.Rows.lexLt itemOrd (keyToks c.py) (keyToks a.py) with
  | false => rfl
  | true =>
    rcases lex_negTrans (O := itemOrd) _ (keyToks b.py) _ h with z | z
    · rw [h2] at z; cases z
    · rw [h1] at z; cases z
theorem leD_total (a b : D) : (leD a b || leD b a) = true := by
  unfold leD dataLt
  cases h : PyProof.Rows.lexLt itemOrd (keyToks b.py) (keyToks a.py) with
  | false => rfl
  | true =>
    cases h2 : PyProof.Rows.lexLt itemOrd (keyToks a.py) (keyToks b.py) with
    | false => rfl
    | true =>
      have := lex_trans (O := itemOrd) _ _ _ h h2
      rw [lex_irrefl] at this
      cases this
theorem leD_toks {a b : D} (h1 : leD a b = true) (h2 : leD b a = true) : keyToks a.py = keyToks b.py := by
  unfold leD dataLt at *
  simp only [Bool.not_eq_true'] at *
  exact lex_total (O := itemOrd) _ _ h2 h1
theorem toks_eq {a b : PyData} (h : alike a b = true) (e : keyToks a = keyToks b) : PyData.eqv a b = true := by
  cases q : PyData.eqv a b with
  | true => rfl
  | false =>
    have h1 := (toks_eqv a b h).2 q [] [Sum.inl 0]
    rw [e, lex_pre, lex_irrefl] at h1
    exact absurd h1 (by decide)
theorem leD_anti {n m : Nat} {a b : D} (ha : pl n a = true) (hb : pl m b = true) (hk : alike a.py b.py = true) (h1 : leD a b = true) (h2 : leD b a = true) : a = b := by
  have := toks_eq hk (leD_toks h1 h2)
  rw [pl_eqv n a b m ha hb] at this
  exact of_decide_eq_true this
theorem sortD_perm (l : List D) : (sortD l).Perm l := List.mergeSort_perm l leD
theorem sortD_pw (l : List D) : (sortD l).Pairwise fun a b => leD a b = true := List.pairwise_mergeSort leD_trans leD_total l
theorem eq_of_sorted {α : Type} {le : α → α → Prop} : ∀ {l m : List α}, l.Perm m → l.Pairwise le → m.Pairwise le → (∀ a ∈ l, ∀ b ∈ l, le a b → le b a → a = b) → l = m
  | [], m, p, _, _, _ => (List.nil_perm.mp p).symm
  | a :: l, [], p, _, _, _ => absurd (List.perm_nil.mp p) (by simp)
  | a :: l, b :: m, p, h1, h2, an => by
    rw [List.pairwise_cons] at h1 h2
    have ha : a ∈ b :: m := p.mem_iff.mp (.head _)
    have hb : b ∈ a :: l := p.mem_iff.mpr (.head _)
    have e : a = b := by
      rcases List.mem_cons.mp ha with e | ha'
      · exact e
      · rcases List.mem_cons.mp hb with e | hb'
        · exact e.symm
        · exact an a (.head _) b (.tail _ hb') (h1.1 b hb') (h2.1 a ha')
    subst e
    rw [eq_of_sorted (List.Perm.cons_inv p) h1.2 h2.2 fun x hx y hy => an x (.tail _ hx) y (.tail _ hy)]
theorem sortD_eq {n : Nat} {l m : List D} (p : l.Perm m) (hp : ∀ d ∈ l, pl n d = true) (ha : ∀ d ∈ l, ∀ e ∈ l, alike d.py e.py = true) : sortD l = sortD m :=
  eq_of_sorted ((sortD_perm l).trans (p.trans (sortD_perm m).symm)) (sortD_pw l) (sortD_pw m) fun a h1 b h2 e1 e2 =>
    leD_anti (hp a ((sortD_perm l).mem_iff.mp h1)) (hp b ((sortD_perm l).mem_iff.mp h2)) (ha a ((sortD_perm l).mem_iff.mp h1) b ((sortD_perm l).mem_iff.mp h2)) e1 e2
theorem sortD_of {n : Nat} {l m : List D} (p : l.Perm m) (hm : m.Pairwise fun a b => leD a b = true) (hp : ∀ d ∈ l, pl n d = true) (ha : ∀ d ∈ l, ∀ e ∈ l, alike d.py e.py = true) : sortD l = m :=
  eq_of_sorted ((sortD_perm l).trans p) (sortD_pw l) hm fun a h1 b h2 e1 e2 =>
    leD_anti (hp a ((sortD_perm l).mem_iff.mp h1)) (hp b ((sortD_perm l).mem_iff.mp h2)) (ha a ((sortD_perm l).mem_iff.mp h1) b ((sortD_perm l).mem_iff.mp h2)) e1 e2
theorem mem_sortD {l : List D} {d : D} : d ∈ sortD l ↔ d ∈ l := (sortD_perm l).mem_iff
@[simp] theorem length_sortD (l : List D) : (sortD l).length = l.length := (sortD_perm l).length_eq
theorem minDD_mem (d : D) (ds : List D) : minDD d ds ∈ d :: ds := by
  unfold minDD
  induction ds generalizing d with
  | nil => exact .head _
  | cons e r ih =>
    rw [List.foldl_cons]
    have := ih (if W.dataLt e.py d.py then e else d)
    rcases List.mem_cons.mp this with h | h
    · rw [h]; split <;> simp
    · exact .tail _ (.tail _ h)
theorem maxDD_mem (d : D) (ds : List D) : maxDD d ds ∈ d :: ds := by
  unfold maxDD
  induction ds generalizing d with
  | nil => exact .head _
  | cons e r ih =>
    rw [List.foldl_cons]
    have := ih (if W.dataLt d.py e.py then e else d)
    rcases List.mem_cons.mp this with h | h
    · rw [h]; split <;> simp
    · exact .tail _ (.tail _ h)
/-! ### alike: by a shape -/
inductive Shape where
  | n | i | s | t (l : List Shape)
  /-- a tuple of any length, all of one shape -/
  | h (a : Shape)
mutual
def fits : Shape → D → Bool
  | .n, .non => true
  | .i, .int _ => true
  | .s, .str x => PyData.strOk x
  | .t l, .tup xs => fitsL l xs
  | .h a, .tup xs => fitsA a xs
  | _, _ => false
def fitsA : Shape → List D → Bool
  | _, [] => true
  | a, x :: xs => fits a x && fitsA a xs
def fitsL : List Shape → List D → Bool
  | [], [] => true
  | a :: l, x :: xs => fits a x && fitsL l xs
  | _, _ => false
end
mutual
def Shape.dep : Shape → Nat
  | .n => 0
  | .i => 0
  | .s => 0
  | .t l => Shape.depL l + 1
  | .h a => a.dep + 1
def Shape.depL : List Shape → Nat
  | [] => 0
  | a :: l => max a.dep (Shape.depL l)
end
theorem pl_mono : ∀ {n m : Nat} {d : D}, pl n d = true → n ≤ m → pl m d = true
  | n, m, .non, _, _ => pl_non m
  | n, m, .int i, _, _ => pl_int m i
  | n, m, .str x, h, _ => by rw [pl_str] at h ⊢; exact h
  | 0, _, .tup xs, h, _ => by cases h
  | 0, _, .lst xs, h, _ => by cases h
  | n + 1, 0, .tup xs, h, z => by omega
  | n + 1, 0, .lst xs, h, z => by omega
  | n + 1, m + 1, .tup xs, h, z => List.all_eq_true.mpr fun x hx => pl_mono (List.all_eq_true.mp h x hx) (by omega)
  | n + 1, m + 1, .lst xs, h, z => List.all_eq_true.mpr fun x hx => pl_mono (List.all_eq_true.mp h x hx) (by omega)
  | n, _, .bl b, h, _ => by cases n <;> cases h
  | n, _, .dct t k, h, _ => by cases n <;> cases h
  | n, _, .obj k, h, _ => by cases n <;> cases h
  | n, _, .ext k, h, _ => by cases n <;> cases h
mutual
theorem fits_pl : ∀ (s : Shape) (d : D), fits s d = true → pl s.dep d = true
  | .n, d, h => by cases d <;> first | rfl | cases h
  | .i, d, h => by cases d <;> first | rfl | cases h
  | .s, d, h => by cases d <;> first | exact h | cases h
  | .t l, d, h => by
    cases d with
    | tup xs => exact List.all_eq_true.mpr (fitsL_pl l xs h)
    | _ => cases h
  | .h a, d, h => by
    cases d with
    | tup xs => exact List.all_eq_true.mpr (fitsA_pl a xs h)
    | _ => cases h
theorem fitsA_pl : ∀ (a : Shape) (xs : List D), fitsA a xs = true → ∀ x ∈ xs, pl a.dep x = true
  | a, [], _ => fun x hx => by cases hx
  | a, x :: xs, h => by
    have h' : (fits a x && fitsA a xs) = true := h
    rw [Bool.and_eq_true] at h'
    intro y hy
    rcases List.mem_cons.mp hy with e | hy
    · rw [e]; exact fits_pl a x h'.1
    · exact fitsA_pl a xs h'.2 y hy
theorem fitsL_pl : ∀ (l : List Shape) (xs : List D), fitsL l xs = true → ∀ x ∈ xs, pl (Shape.depL l) x = true
  | [], [], _ => fun x hx => by cases hx
  | [], x :: xs, h => by cases h
  | a :: l, [], h => by cases h
  | a :: l, x :: xs, h => by
    have h' : (fits a x && fitsL l xs) = true := h
    rw [Bool.and_eq_true] at h'
    intro y hy
    rcases List.mem_cons.mp hy with rfl | hy
    · exact pl_mono (fits_pl a y h'.1) (Nat.le_max_left _ _)
    · exact pl_mono (fitsL_pl l xs h'.2 y hy) (Nat.le_max_right _ _)
end
mutual
theorem fits_alike : ∀ (s : Shape) (d e : D), fits s d = true → fits s e = true → alike d.py e.py = true
  | .n, d, e, h, h2 => by cases d <;> first | (cases h; done) | (cases e <;> first | rfl | cases h2)
  | .i, d, e, h, h2 => by cases d <;> first | (cases h; done) | (cases e <;> first | rfl | cases h2)
  | .s, d, e, h, h2 => by cases d <;> first | (cases h; done) | (cases e <;> first | rfl | cases h2)
  | .t l, d, e, h, h2 => by
    cases d with
    | tup xs =>
      cases e with
      | tup ys => rw [D.py, D.py, alike]; exact fitsL_alike l xs ys h h2
      | _ => cases h2
    | _ => cases h
  | .h a, d, e, h, h2 => by
    cases d with
    | tup xs =>
      cases e with
      | tup ys => rw [D.py, D.py, alike]; exact fitsA_alike a xs ys h h2
      | _ => cases h2
    | _ => cases h
theorem fitsA_alike : ∀ (a : Shape) (xs ys : List D), fitsA a xs = true → fitsA a ys = true → alikeAll (D.pys xs) (D.pys ys) = true
  | a, [], ys, _, _ => by cases ys <;> simp [D.pys, alikeAll]
  | a, x :: xs, [], _, _ => by simp [D.pys, alikeAll]
  | a, x :: xs, y :: ys, h, h2 => by
    have h' : (fits a x && fitsA a xs) = true := h
    have h2' : (fits a y && fitsA a ys) = true := h2
    rw [Bool.and_eq_true] at h' h2'
    rw [D.pys, D.pys, alikeAll, fits_alike a x y h'.1 h2'.1, fitsA_alike a xs ys h'.2 h2'.2]
    rfl
theorem fitsL_alike : ∀ (l : List Shape) (xs ys : List D), fitsL l xs = true → fitsL l ys = true → alikeAll (D.pys xs) (D.pys ys) = true
  | [], [], [], _, _ => rfl
  | [], x :: xs, _, h, _ => by cases h
  | [], [], y :: ys, _, h => by cases h
  | a :: l, [], _, h, _ => by cases h
  | a :: l, x :: xs, [], _, h => by cases h
  | a :: l, x :: xs, y :: ys, h, h2 => by
    have h' : (fits a x && fitsL l xs) = true := h
    have h2' : (fits a y && fitsL l ys) = true := h2
    rw [Bool.and_eq_true] at h' h2'
    rw [D.pys, D.pys, alikeAll, fits_alike a x y h'.1 h2'.1, fitsL_alike l xs ys h'.2 h2'.2]
    rfl
end
theorem fitsA_iff {a : Shape} {xs : List D} : fitsA a xs = true ↔ ∀ x ∈ xs, fits a x = true := by
  induction xs with
  | nil => simp [fitsA]
  | cons x r ih => simp [fitsA, ih]
/-- pairs are ordered by their firsts where these are unlike -/
theorem leD_fst {s : Shape} {a b : D} {r t : List D} (ha : fits s a = true) (hb : fits s b = true) (hn : a ≠ b) (h : leD a b = true) : leD (.tup (a :: r)) (.tup (b :: t)) = true := by
  unfold leD at *
  have ev : PyData.eqv b.py a.py = false := by
    rw [pl_eqv _ b a _ (fits_pl s b hb) (fits_pl s a ha)]
    simp [Ne.symm hn]
  rw [D.py, D.py, D.pys, D.pys, dataLt_tuple, dataLt_all_no (fits_alike s b a hb ha) ev]
  exact h
theorem simD_of {s : Shape} {ds : List D} (hd : s.dep ≤ 64) (h : ∀ d ∈ ds, fits s d = true) : simD ds = true := by
  unfold simD
  refine List.all_eq_true.mpr fun d hd' => ?_
  rw [Bool.and_eq_true]
  exact ⟨pl_shp (fits_pl s d (h d hd')) hd, List.all_eq_true.mpr fun e he => fits_alike s d e (h d hd') (h e he)⟩
theorem cmpOk_of {s : Shape} {ds : List D} (hd : s.dep ≤ 64) (hs : s.dep = s.dep ∧ (match s with | .n => False | _ => True)) (h : ∀ d ∈ ds, fits s d = true) : cmpOk ds = true := by
  unfold cmpOk
  rw [simD_of hd h]
  refine List.all_eq_true.mpr fun d hd' => ?_
  have := h d hd'
  cases d with
  | non =>
    cases s with
    | n => exact hs.2.elim
    | _ => cases this
  | _ => rfl
theorem sortOk_flat {s : Shape} {ds : List D} (hs : s = .i ∨ s = .s) (h : ∀ d ∈ ds, fits s d = true) (hl : ds.length ≤ 16777216) : sortOk ds = true := by
  unfold sortOk
  rw [simD_of (s := s) (by rcases hs with rfl | rfl <;> decide) h]
  have : ds.all isFlat = true := List.all_eq_true.mpr fun d hd => by
    have := h d hd
    rcases hs with rfl | rfl <;> (cases d <;> first | rfl | cases this)
  simp [this, sizeOk_dec, hl]
theorem sortOk_tup {a : Shape} {l : List Shape} {ds : List D} (hd : (Shape.t (a :: l)).dep ≤ 64) (h : ∀ d ∈ ds, fits (.t (a :: l)) d = true) (hl : ds.length ≤ 16777216) : sortOk ds = true := by
  unfold sortOk
  rw [simD_of (s := .t (a :: l)) hd h]
  have : ds.all isTup1 = true := List.all_eq_true.mpr fun d hd => by
    have := h d hd
    cases d with
    | tup xs =>
      cases xs with
      | nil => cases this
      | cons x r => rfl
    | _ => cases this
  simp [this, sizeOk_dec, hl]
theorem sortD_fits {s : Shape} {l m : List D} (p : l.Perm m) (h : ∀ d ∈ l, fits s d = true) : sortD l = sortD m :=
  sortD_eq (n := s.dep) p (fun d hd => fits_pl s d (h d hd)) fun d hd e he => fits_alike s d e (h d hd) (h e he)
end Rf
set_option maxHeartbeats 1000000
/-! Rm4: the dice of the laws: rolls are numbers below a bound. -/
namespace Rf
open PySem PySem.W L2
open PyProof.Rows hiding St

def mDice : MS :=
  (sSeq (sIf (eTest (eChain gLt gLt (eBin gSub (eC (.int 0)) (eC (.int 10))) (eVar 0) (eC (.int 10)))) (sRet (eLst (aCons (eCall gAbs (aCons (eVar 0) aNil)) (aCons (eC (.int 0)) (aCons (eC (.int 2)) aNil))))) sSkip)
  (sRet (eLst (aCons (eEsc (eVar 0)) (aCons (eEsc (eBin gAdd (eC (.int 1)) (eBin gMod (eCall gInt (aCons (eVar 0) aNil)) (eC (.int 1009))))) (aCons (eCall gInt (aCons (eBin gGe (eVar 0) (eBin gPow (eC (.int 10)) (eC (.int 18)))) aNil)) aNil))))))
def fDice : FM := fnM 1 mDice
def mRoll : MS :=
  (sSeq (sIf (bOr (eTest (eBin gEq (eBin gIx (eVar 0) (eC (.int 2))) (eC (.int 2)))) (bAnd (eTest (eBin gEq (eBin gIx (eVar 0) (eC (.int 2))) (eC (.int 1)))) (eTest (eBin gGt (eBin gIx (eVar 0) (eC (.int 0))) (eC (.int 0)))))) (sSeq (sSet 2 (eBin gMod (eCall gInt (aCons (eBin gIx (eVar 0) (eC (.int 0))) aNil)) (eVar 1)))
  (sSeq (sPut (eVar 0) (eC (.int 0)) (eBin gDiv (eBin gIx (eVar 0) (eC (.int 0))) (eVar 1)))
  (sRet (eVar 2)))) sSkip)
  (sSeq (sPut (eVar 0) (eC (.int 2)) (eC (.int 0)))
  (sSeq (sPut (eVar 0) (eC (.int 0)) (eBin gMod (eCall gInt (aCons (eBin gAdd (eBin gAdd (eBin gMul (eBin gIx (eVar 0) (eC (.int 0))) (eC (.int 48271))) (eBin gMul (eBin gIx (eVar 0) (eC (.int 1))) (eC (.int 69621)))) (eC (.int 11))) aNil)) (eC (.int 2147483647))))
  (sSeq (sPut (eVar 0) (eC (.int 1)) (eEsc (eBin gAdd (eBin gIx (eVar 0) (eC (.int 1))) (eC (.int 1)))))
  (sRet (eBin gMod (eCall gInt (aCons (eBin gAdd (eBin gDiv (eBin gIx (eVar 0) (eC (.int 0))) (eC (.int 7))) (eBin gIx (eVar 0) (eC (.int 0)))) aNil)) (eVar 1)))))))
def fRoll : FM := fnM 3 mRoll
def mRounds : MS :=
  (sSeq (sSet 2 (eSl (eVar 0) oNone (oSome (eVar 1))))
  (sSeq (sIf (eTest (eBin gEq (eVar 2) (eLst aNil))) (sSet 2 (eLst (aCons (eC (.int 0)) aNil))) sSkip)
  (sRet (eLc (iSeq (eEsc (eVar 2))) [3] (gtName 3) mYes (eBox (eFn 1 fDice (aCons (eEsc (eVar 3)) aNil)))))))
def fRounds : FM := fnM 4 mRounds

structure Dice where
  a : Int
  b : Int
  c : Int
def Dice.o (d : Dice) : Ob := .lst [.int d.a, .int d.b, .int d.c]
def Dice.own (d : Dice) : Bool := d.c = 2 ∨ (d.c = 1 ∧ 0 < d.a)
def Dice.x (d : Dice) : Int := (d.a * 48271 + d.b * 69621 + 11).fmod 2147483647
/-- what is rolled -/
def Dice.r (d : Dice) (many : Int) : Int := if d.own = true then d.a.fmod many else (d.x.fdiv 7 + d.x).fmod many
/-- the dice behind it -/
def Dice.n (d : Dice) (many : Int) : Dice := if d.own = true then ⟨d.a.fdiv many, d.b, d.c⟩ else ⟨d.x, d.b + 1, 0⟩
theorem Dice.r_lo (d : Dice) {many : Int} (h : 0 < many) : 0 ≤ d.r many := by
  unfold Dice.r
  split <;> exact Int.fmod_nonneg_of_pos _ h
theorem Dice.r_hi (d : Dice) {many : Int} (h : 0 < many) : d.r many < many := by
  unfold Dice.r
  split <;> exact Int.fmod_lt_of_pos _ h
theorem roll_eq (d : Dice) (many : Int) (st : List Ob) (lk : List Nat) (h : 0 < many) (h2 : many < 1073741824) : callF fRoll [.obj 0, .int many] (d.o :: st) lk = .ok (.sh (.int (d.r many))) ⟨[], (d.n many).o :: st, lk⟩ := by
  have h0 : many ≠ 0 := by omega
  have h3 : many.natAbs < 1073741824 := by omega
  rw [fRoll, callF_fnM]
  unfold mRoll Dice.o
  by_cases hw : d.own = true
  · have hc : d.c = 2 ∨ (d.c = 1 ∧ 0 < d.a) := by simpa [Dice.own] using hw
    have e1 : d.r many = d.a.fmod many := by simp [Dice.r, hw]
    have e2 : d.n many = ⟨d.a.fdiv many, d.b, d.c⟩ := by simp [Dice.n, hw]
    rw [e1, e2]
    rcases hc with hc | ⟨hc, ha⟩
    · simp [hc, atI, ixN, h0, h3]
    · simp [hc, ha, atI, ixN, h0, h3]
  · have hc : ¬ (d.c = 2) ∧ ¬ (d.c = 1 ∧ 0 < d.a) := by simpa [Dice.own, not_or] using hw
    have e1 : d.r many = (d.x.fdiv 7 + d.x).fmod many := by simp [Dice.r, hw]
    have e2 : d.n many = ⟨d.x, d.b + 1, 0⟩ := by simp [Dice.n, hw]
    rw [e1, e2]
    have hc2 : d.c = 1 → ¬ 0 < d.a := fun z z2 => hc.2 ⟨z, z2⟩
    by_cases h1 : d.c = 1
    · have := hc2 h1
      simp [hc.1, h1, this, atI, ixN, h0, h3, smallI, Dice.x]
    · simp [hc.1, h1, atI, ixN, h0, h3, smallI, Dice.x]
@[simp] theorem gPow_lit : gPow (.int 10) (.int 18) = some (.sh (.int (10 ^ 18))) := by
  show (if (decide ((0:Int) ≤ 18) && decide ((18:Int) ≤ 1000000) && decide ((10:Int).natAbs < 18446744073709551616)) = true then _ else none) = _
  rw [if_pos (by decide)]
  rfl
theorem dice_eq (c : Int) (st : List Ob) (lk : List Nat) : ∃ d : Dice, callF fDice [.int c] st lk = .ok (.own (.lst [.int d.a, .int d.b, .int d.c])) ⟨[], st, lk⟩ := by
  rw [fDice, callF_fnM]
  unfold mDice
  by_cases h1 : -10 < c
  · by_cases h2 : c < 10
    · exact ⟨⟨if c < 0 then -c else c, 0, 2⟩, by simp [h1, h2]⟩
    · exact ⟨⟨c, 1 + c.fmod 1009, if 10 ^ 18 ≤ c then 1 else 0⟩, by simp [h1, h2]⟩
  · exact ⟨⟨c, 1 + c.fmod 1009, if 10 ^ 18 ≤ c then 1 else 0⟩, by simp [h1]⟩
theorem rounds_eq (ns : List Int) (lk : List Nat) : ∃ d : Dice, callF fRounds [.ext (ns.map D.int), .int 1] [] lk = .ok (.own (.lst [.obj 0])) ⟨[], [d.o], lk⟩ := by
  have key : ∃ c : Int, sSeq (sSet 2 (eSl (eVar 0) oNone (oSome (eVar 1)))) (sIf (eTest (eBin gEq (eVar 2) (eLst aNil))) (sSet 2 (eLst (aCons (eC (.int 0)) aNil))) sSkip) ⟨[some (.sh (.ext (ns.map D.int))), some (.sh (.int 1)), none, none], [], lk⟩ = .ok .nx ⟨[some (.sh (.ext (ns.map D.int))), some (.sh (.int 1)), some (.own (.lst [.int c])), none], [], lk⟩ := by
    cases ns with
    | nil =>
      refine ⟨0, ?_⟩
      have e : gEq (.lst []) (.lst []) = some (.sh (.bl true)) := by
        rw [gEq_pl (n := 1) (m := 1) rfl rfl (by decide) (by decide)]; simp
      simp [cutD, HT.sIx, e]
    | cons n r =>
      refine ⟨n, ?_⟩
      have e : gEq (.lst [.int n]) (.lst []) = some (.sh (.bl false)) := by
        rw [gEq_pl (n := 1) (m := 1) (by simp) rfl (by decide) (by decide)]; simp
      have e2 : (min 1 (r.length + 1)) = 1 := by omega
      simp [cutD, HT.sIx, e2, e]
  obtain ⟨c, key⟩ := key
  obtain ⟨d, hd⟩ := dice_eq c [] lk
  refine ⟨d, ?_⟩
  rw [fRounds, callF_fnM]
  unfold mRounds
  have a3 : ∀ (a b c : MS) (w : W), sSeq a (sSeq b c) w = sSeq (sSeq a b) c w := fun a b c w => by
    simp only [s_seq]
    cases a w with
    | no => rfl
    | ex x w => rfl
    | ok s w => cases s <;> rfl
  rw [a3]
  show endM (sSeq _ _ ⟨[some (.sh (.ext (ns.map D.int))), some (.sh (.int 1)), none, none], [], lk⟩) = _
  rw [seq_nx (w' := ⟨[some (.sh (.ext (ns.map D.int))), some (.sh (.int 1)), some (.own (.lst [.int c])), none], [], lk⟩) (r := .ok (.rt (.own (.lst [.obj 0]))) ⟨[some (.sh (.ext (ns.map D.int))), some (.sh (.int 1)), some (.sh (.lst [.int c])), none], [d.o], lk⟩) key ?_]
  · rfl
  · rw [s_ret_, eLc_of (src := .pur) (ds := [.int c]) (w1 := ⟨[some (.sh (.ext (ns.map D.int))), some (.sh (.int 1)), some (.sh (.lst [.int c])), none], [], lk⟩) (w2 := ⟨[some (.sh (.ext (ns.map D.int))), some (.sh (.int 1)), some (.sh (.lst [.int c])), none], [d.o], lk⟩) (ys := [.obj 0]) (by simp) (by simp) ?_]
    · rfl
    · refine (lcL_cons (o := some (.obj 0)) (w2 := ⟨[some (.sh (.ext (ns.map D.int))), some (.sh (.int 1)), some (.sh (.lst [.int c])), none], [d.o], lk⟩) (by rfl) ?_ (lcL_nil (by rfl))).trans ?_
      · simp [turnC, wipeW, wipeE, hd, Dice.o]
      · rfl
end Rf
set_option maxHeartbeats 1000000
/-! Rm5: dicts and lists over plain types. -/
namespace Rf
open PySem PySem.W L2
open PyProof.Rows hiding St

/-! ### dicts by a type of keys -/
/-- pairs, told by what keys and values become -/
def dm {κ β : Type} (k : κ → D) (g : β → D) (l : List (κ × β)) : List (D × D) := l.map fun p => (k p.1, g p.2)
def putL {κ β : Type} [DecidableEq κ] (l : List (κ × β)) (x : κ) (b : β) : List (κ × β) := if (l.any fun p => decide (p.1 = x)) = true then l.map (fun p => if p.1 = x then (p.1, b) else p) else l ++ [(x, b)]
def dropL {κ β : Type} [DecidableEq κ] (l : List (κ × β)) (x : κ) : List (κ × β) := l.filter fun p => decide (p.1 ≠ x)
def mergeL {κ β : Type} [DecidableEq κ] (l more : List (κ × β)) : List (κ × β) := more.foldl (fun acc p => putL acc p.1 p.2) l
def lookL {κ β : Type} [DecidableEq κ] : List (κ × β) → κ → Option β
  | [], _ => none
  | (a, x) :: r, k => if a = k then some x else lookL r k
section
variable {κ β : Type} [DecidableEq κ] {k : κ → D} {g : β → D}
@[simp] theorem dm_nil : dm k g [] = [] := rfl
@[simp] theorem dm_cons (p : κ × β) (l : List (κ × β)) : dm k g (p :: l) = (k p.1, g p.2) :: dm k g l := rfl
@[simp] theorem dm_app (l m : List (κ × β)) : dm k g (l ++ m) = dm k g l ++ dm k g m := List.map_append
@[simp] theorem dm_len (l : List (κ × β)) : (dm k g l).length = l.length := List.length_map _
@[simp] theorem lookL_nil (x : κ) : lookL ([] : List (κ × β)) x = none := rfl
@[simp] theorem lookL_cons (a : κ) (b : β) (r : List (κ × β)) (x : κ) : lookL ((a, b) :: r) x = if a = x then some b else lookL r x := rfl
theorem lookD_dm (hk : ∀ a b : κ, k a = k b → a = b) (l : List (κ × β)) (x : κ) : lookD (dm k g l) (k x) = (lookL l x).map g := by
  induction l with
  | nil => rfl
  | cons p r ih =>
    obtain ⟨a, b⟩ := p
    show (if k a = k x then some (g b) else lookD (dm k g r) (k x)) = (if a = x then some b else lookL r x).map g
    by_cases h : a = x
    · rw [if_pos h, if_pos (congrArg k h)]; rfl
    · rw [if_neg h, if_neg (fun z => h (hk _ _ z)), ih]
theorem any_dm (hk : ∀ a b : κ, k a = k b → a = b) (l : List (κ × β)) (x : κ) : ((dm k g l).any fun p => decide (p.1 = k x)) = (l.any fun p => decide (p.1 = x)) := by
  induction l with
  | nil => rfl
  | cons p r ih =>
    rw [dm_cons, List.any_cons, List.any_cons, ih]
    by_cases h : p.1 = x
    · simp [h]
    · have : ¬ k p.1 = k x := fun z => h (hk _ _ z)
      simp [h, this]
theorem putD_dm (hk : ∀ a b : κ, k a = k b → a = b) (l : List (κ × β)) (x : κ) (b : β) : putD (dm k g l) (k x) (g b) = dm k g (putL l x b) := by
  unfold putD putL
  rw [any_dm hk]
  split
  · simp only [dm, List.map_map]
    refine List.map_congr_left fun p _ => ?_
    simp only [Function.comp]
    by_cases h : p.1 = x
    · simp [h]
    · have : ¬ k p.1 = k x := fun z => h (hk _ _ z)
      simp [h, this]
  · simp
theorem dropD_dm (hk : ∀ a b : κ, k a = k b → a = b) (l : List (κ × β)) (x : κ) : dropD (dm k g l) (k x) = dm k g (dropL l x) := by
  induction l with
  | nil => rfl
  | cons p r ih =>
    have ih' : List.filter (fun p => decide (p.1 ≠ k x)) (dm k g r) = dm k g (List.filter (fun p => decide (p.1 ≠ x)) r) := ih
    unfold dropD dropL
    rw [dm_cons]
    by_cases h : p.1 = x
    · rw [List.filter_cons_of_neg (by simp [h]), List.filter_cons_of_neg (by simp [h]), ih']
    · have : ¬ k p.1 = k x := fun z => h (hk _ _ z)
      rw [List.filter_cons_of_pos (by simp [this]), List.filter_cons_of_pos (by simp [h]), ih', dm_cons]
theorem mergeD_dm (hk : ∀ a b : κ, k a = k b → a = b) (l more : List (κ × β)) : mergeD (dm k g l) (dm k g more) = dm k g (mergeL l more) := by
  unfold mergeD mergeL
  induction more generalizing l with
  | nil => rfl
  | cons p r ih =>
    rw [dm_cons, List.foldl_cons, List.foldl_cons, putD_dm hk, ih]
theorem lookL_none {l : List (κ × β)} {x : κ} : lookL l x = none ↔ ∀ p ∈ l, p.1 ≠ x := by
  induction l with
  | nil => simp
  | cons p r ih =>
    obtain ⟨a, b⟩ := p
    by_cases h : a = x
    · simp [h]
    · simp [h, ih]
theorem any_look (l : List (κ × β)) (x : κ) : (l.any fun p => decide (p.1 = x)) = (lookL l x).isSome := by
  induction l with
  | nil => rfl
  | cons p r ih =>
    obtain ⟨a, b⟩ := p
    rw [List.any_cons, ih]
    by_cases h : a = x <;> simp [h]
theorem putL_new {l : List (κ × β)} {x : κ} {b : β} (h : lookL l x = none) : putL l x b = l ++ [(x, b)] := by
  unfold putL
  rw [any_look, h]
  rfl
theorem mergeL_app {l more : List (κ × β)} (h : (l ++ more).map (·.1) |>.Nodup) : mergeL l more = l ++ more := by
  unfold mergeL
  induction more generalizing l with
  | nil => simp
  | cons p r ih =>
    rw [List.foldl_cons, putL_new, ih (by simpa using h)]
    · simp
    · refine lookL_none.mpr fun q hq e => ?_
      rw [List.map_append, List.nodup_append] at h
      exact h.2.2 q.1 (List.mem_map.mpr ⟨q, hq, rfl⟩) p.1 (by simp) e
theorem mergeL_nil {l : List (κ × β)} (h : (l.map (·.1)).Nodup) : mergeL [] l = l := by
  have := mergeL_app (l := ([] : List (κ × β))) (more := l) (by simpa using h)
  simpa using this
theorem mergeL_snoc {l : List (κ × β)} {x : κ} {b : β} (h : (l.map (·.1)).Nodup) : mergeL [] (l ++ [(x, b)]) = putL l x b := by
  have e : mergeL [] l = l := mergeL_nil h
  unfold mergeL at e ⊢
  rw [List.foldl_append, e]
  rfl
theorem putL_keys {l : List (κ × β)} {x : κ} {b : β} (h : (l.map (·.1)).Nodup) : ((putL l x b).map (·.1)).Nodup := by
  unfold putL
  split
  · rename_i q
    have e : (l.map fun p => if p.1 = x then (p.1, b) else p).map (·.1) = l.map (·.1) := by
      rw [List.map_map]
      refine List.map_congr_left fun p _ => ?_
      simp only [Function.comp]
      split <;> rfl
    rw [e]; exact h
  · rename_i q
    rw [any_look] at q
    rw [List.map_append, List.nodup_append]
    refine ⟨h, by simp, fun a ha c hc => ?_⟩
    simp at hc
    subst hc
    obtain ⟨p, hp, rfl⟩ := List.mem_map.mp ha
    exact lookL_none.mp (by simpa using q) p hp
theorem dropL_keys {l : List (κ × β)} {x : κ} (h : (l.map (·.1)).Nodup) : ((dropL l x).map (·.1)).Nodup := List.Nodup.sublist (List.Sublist.map _ List.filter_sublist) h
theorem lookL_mem {l : List (κ × β)} {x : κ} {b : β} (h : lookL l x = some b) : (x, b) ∈ l := by
  induction l with
  | nil => cases h
  | cons p r ih =>
    obtain ⟨a, c⟩ := p
    rw [lookL_cons] at h
    split at h
    · rename_i e; cases h; rw [e]; exact .head _
    · exact .tail _ (ih h)
theorem lookL_of_mem {l : List (κ × β)} {x : κ} {b : β} (hn : (l.map (·.1)).Nodup) (h : (x, b) ∈ l) : lookL l x = some b := by
  induction l with
  | nil => cases h
  | cons p r ih =>
    obtain ⟨a, c⟩ := p
    rw [List.map_cons, List.nodup_cons] at hn
    rw [lookL_cons]
    rcases List.mem_cons.mp h with e | e
    · cases e; simp
    · have : a ≠ x := fun z => hn.1 (List.mem_map.mpr ⟨_, e, z.symm⟩)
      rw [if_neg this, ih hn.2 e]
theorem lookL_perm {l m : List (κ × β)} (p : l.Perm m) (hn : (l.map (·.1)).Nodup) (x : κ) : lookL l x = lookL m x := by
  cases e : lookL l x with
  | some b => exact (lookL_of_mem ((p.map _).nodup_iff.mp hn) (p.mem_iff.mp (lookL_mem e))).symm
  | none =>
    refine (lookL_none.mpr fun q hq => ?_).symm
    exact lookL_none.mp e q (p.mem_iff.mpr hq)
theorem lookL_append (l m : List (κ × β)) (x : κ) : lookL (l ++ m) x = (lookL l x).or (lookL m x) := by
  induction l with
  | nil => simp
  | cons p r ih =>
    obtain ⟨a, b⟩ := p
    rw [List.cons_append, lookL_cons, lookL_cons, ih]
    split <;> simp
theorem lookL_drop (l : List (κ × β)) (x y : κ) : lookL (dropL l x) y = if x = y then none else lookL l y := by
  induction l with
  | nil => simp [dropL]
  | cons p r ih =>
    obtain ⟨a, b⟩ := p
    unfold dropL at ih ⊢
    by_cases h : a = x
    · rw [List.filter_cons_of_neg (by simp [h]), ih, lookL_cons]
      by_cases h2 : x = y
      · simp [h2]
      · simp [h2, h]
    · rw [List.filter_cons_of_pos (by simp [h]), lookL_cons, ih, lookL_cons]
      by_cases h2 : a = y
      · have : ¬ x = y := fun z => h (by rw [h2, z])
        simp [h2, this]
      · simp [h2]
theorem keys_dm (l : List (κ × β)) : keysD' (dm k g l) = l.map fun p => k p.1 := by simp [keysD', dm, Function.comp_def]
theorem vals_dm (l : List (κ × β)) : valsD (dm k g l) = l.map fun p => g p.2 := by simp [valsD, dm, Function.comp_def]
theorem items_dm (l : List (κ × β)) : itemsD (dm k g l) = l.map fun p => .tup [k p.1, g p.2] := by simp [itemsD, dm, Function.comp_def]
theorem pairs_dm (hk : ∀ a, (keyD (k a)).isSome = true) (l : List (κ × β)) : pairsD (l.map fun p => .tup [k p.1, g p.2]) = some (dm k g l) := by
  induction l with
  | nil => rfl
  | cons p r ih =>
    rw [List.map_cons, pairsD, ih]
    simp [pairD, hk]
end
theorem str_inj (a b : Str) (h : D.str a = D.str b) : a = b := by cases h; rfl
theorem int_inj (a b : Int) (h : D.int a = D.int b) : a = b := by cases h; rfl
abbrev sm {β : Type} (g : β → D) (l : List (Str × β)) : List (D × D) := dm D.str g l
section
variable {β : Type} {g : β → D}
@[simp] theorem lookD_sm (l : List (Str × β)) (x : Str) : lookD (dm D.str g l) (.str x) = (lookL l x).map g := lookD_dm str_inj l x
theorem putD_sm (l : List (Str × β)) (x : Str) (b : β) : putD (dm D.str g l) (.str x) (g b) = dm D.str g (putL l x b) := putD_dm str_inj l x b
@[simp] theorem dropD_sm (l : List (Str × β)) (x : Str) : dropD (dm D.str g l) (.str x) = dm D.str g (dropL l x) := dropD_dm str_inj l x
theorem mergeD_sm (l : List (Str × β)) : mergeD [] (dm D.str g l) = dm D.str g (mergeL [] l) := mergeD_dm str_inj [] l
theorem pairs_sm (l : List (Str × β)) : pairsD (l.map fun p => .tup [.str p.1, g p.2]) = some (dm D.str g l) := pairs_dm (fun _ => rfl) l
theorem gDict_sm (l : List (Str × β)) (h : l.length ≤ 16777216) : gDict [.lst (l.map fun p => .tup [.str p.1, g p.2])] = some (.own (.dct false (dm D.str g (mergeL [] l)))) := by
  rw [gDict_lst, pairs_sm]
  simp [sizeOk_dec, h, mergeD_sm]
end
/-! ### lists -/
theorem filterMap_congr' {α β : Type} {f g : α → Option β} : ∀ {l : List α}, (∀ x ∈ l, f x = g x) → l.filterMap f = l.filterMap g
  | [], _ => rfl
  | a :: l, h => by
    rw [List.filterMap_cons, List.filterMap_cons, h a (.head _), filterMap_congr' fun x hx => h x (.tail _ hx)]
theorem atI_map {α : Type} (f : α → D) (xs : List α) (i : Int) (x : α) (h0 : 0 ≤ i) (h1 : i < xs.length) : atI (xs.map f) i = some (f (xs.getD i.toNat x)) := by
  have h2 : i.toNat < xs.length := by omega
  unfold atI ixN
  rw [if_pos h0, List.length_map, if_pos h1]
  simp [h2]
theorem rangeD_eq (n : Nat) : rangeD 0 n = (List.range n).map fun k => .int (k : Nat) := by
  unfold rangeD
  refine List.map_congr_left fun k _ => ?_
  simp
theorem small62_of {i : Int} (h0 : 0 ≤ i) (h1 : i ≤ 16777216) : small62 i = true := by
  unfold small62
  rw [Nat.blt_eq]
  omega
theorem small62_lo {i : Int} (h0 : -16777216 ≤ i) (h1 : i ≤ 16777216) : small62 i = true := by
  unfold small62
  rw [Nat.blt_eq]
  omega
theorem fRng1_of {j : Int} (h0 : 0 ≤ j) (h1 : j ≤ 16777216) : fRng1 [.int j] = some (rangeD 0 j.toNat) := by
  rw [fRng1_int, if_pos (small62_of h0 h1)]
theorem fRng1_lo {j : Int} (h0 : -16777216 ≤ j) (h1 : j ≤ 16777216) : fRng1 [.int j] = some (rangeD 0 j.toNat) := by
  rw [fRng1_int, if_pos (small62_lo h0 h1)]
theorem fRng1_nat {n : Nat} (h1 : n ≤ 16777216) : fRng1 [.int (n : Int)] = some (rangeD 0 n) := fRng1_of (by omega) (by omega)
theorem fRng2_of {i j : Int} (h0 : -16777216 ≤ i) (h1 : i ≤ 16777216) (h2 : -16777216 ≤ j) (h3 : j ≤ 16777216) : fRng2 [.int i, .int j] = some (rangeD i (j - i).toNat) := by
  rw [fRng2_int, small62_lo h0 h1, small62_lo h2 h3]
  rfl
end Rf
set_option maxHeartbeats 1000000
/-! Rm6: sorted names; lists with keys apart; groups. -/
namespace Rf
open PySem PySem.W L2
open PyProof.Rows hiding St

theorem perm_of_nodup {α : Type} [DecidableEq α] {l m : List α} (hl : l.Nodup) (hm : m.Nodup) (h : ∀ x, x ∈ l ↔ x ∈ m) : l.Perm m := (List.perm_ext_iff_of_nodup hl hm).mpr h
/-- pairs with keys apart, by their keys -/
theorem assoc_perm {κ β : Type} [DecidableEq κ] {l : List (κ × β)} {ks : List κ} {g : κ → β} (hl : (l.map (·.1)).Nodup) (hk : ks.Nodup) (h : ∀ x, x ∈ l.map (·.1) ↔ x ∈ ks) (hg : ∀ x ∈ ks, lookL l x = some (g x)) : l.Perm (ks.map fun x => (x, g x)) := by
  have e : l = (l.map (·.1)).map fun x => (x, g x) := by
    rw [List.map_map]
    refine (List.map_id l).symm.trans (List.map_congr_left fun p hp => ?_)
    have h1 := hg p.1 ((h p.1).mp (List.mem_map.mpr ⟨p, hp, rfl⟩))
    rw [lookL_of_mem hl (b := p.2) hp] at h1
    simp only [id, Function.comp]
    rw [← Option.some.inj h1]
  rw [e]
  exact (perm_of_nodup hl hk h).map _
/-- sorted names -/
def unS : D → Str
  | .str x => x
  | _ => ""
def sortS (l : List Str) : List Str := (sortD (l.map D.str)).map unS
theorem sortS_eq (l : List Str) : sortD (l.map D.str) = (sortS l).map D.str := by
  unfold sortS
  rw [List.map_map]
  refine (List.map_id _).symm.trans (List.map_congr_left fun d hd => ?_)
  obtain ⟨x, _, rfl⟩ := List.mem_map.mp (mem_sortD.mp hd)
  rfl
theorem sortS_perm (l : List Str) : (sortS l).Perm l := by
  unfold sortS
  have := (sortD_perm (l.map D.str)).map unS
  rw [List.map_map] at this
  have e : l.map (unS ∘ D.str) = l := by
    rw [show unS ∘ D.str = id from rfl, List.map_id]
  rw [e] at this
  exact this
theorem mem_sortS {l : List Str} {x : Str} : x ∈ sortS l ↔ x ∈ l := (sortS_perm l).mem_iff
@[simp] theorem length_sortS (l : List Str) : (sortS l).length = l.length := (sortS_perm l).length_eq
theorem sortS_nodup {l : List Str} (h : l.Nodup) : (sortS l).Nodup := (sortS_perm l).nodup_iff.mpr h
theorem strs_fits {l : List Str} (h : ∀ x ∈ l, PyData.strOk x = true) : ∀ d ∈ l.map D.str, fits .s d = true := by
  intro d hd
  obtain ⟨x, hx, rfl⟩ := List.mem_map.mp hd
  exact h x hx
theorem sortS_of_perm {l m : List Str} (p : l.Perm m) (h : ∀ x ∈ l, PyData.strOk x = true) : sortS l = sortS m := by
  unfold sortS
  rw [sortD_fits (p.map D.str) (strs_fits h)]
theorem sortS_pw (l : List Str) : (sortS l).Pairwise fun a b => leD (.str a) (.str b) = true := by
  have := sortD_pw (l.map D.str)
  rw [sortS_eq, List.pairwise_map] at this
  exact this
/-- sorted items, the keys apart -/
theorem sort_items {β : Type} {g : β → D} {s : Shape} {l : List (Str × β)} {ks : List Str} {f : Str → β} (hl : (l.map (·.1)).Nodup) (h : ∀ x, x ∈ l.map (·.1) ↔ x ∈ ks) (hk : ks.Nodup) (hf : ∀ x ∈ ks, lookL l x = some (f x)) (ok : ∀ x ∈ ks, PyData.strOk x = true) (fit : ∀ x ∈ ks, fits s (g (f x)) = true) :
    sortD (itemsD (dm D.str g l)) = (sortS ks).map fun x => .tup [.str x, g (f x)] := by
  rw [items_dm]
  have p1 : (l.map fun p => D.tup [.str p.1, g p.2]).Perm ((sortS ks).map fun x => D.tup [.str x, g (f x)]) := by
    have := (assoc_perm (ks := sortS ks) (g := f) hl (sortS_nodup hk) (fun x => (h x).trans mem_sortS.symm) fun x hx => hf x (mem_sortS.mp hx)).map fun p => D.tup [.str p.1, g p.2]
    rw [List.map_map] at this
    exact this
  have fits' : ∀ d ∈ l.map (fun p => D.tup [.str p.1, g p.2]), fits (.t [.s, s]) d = true := by
    intro d hd
    obtain ⟨x, hx, rfl⟩ := List.mem_map.mp (p1.mem_iff.mp hd)
    have hx := mem_sortS.mp hx
    show (fits .s (.str x) && (fits s (g (f x)) && true)) = true
    have e0 : fits .s (.str x) = true := ok x hx
    rw [e0, fit x hx]
    rfl
  refine sortD_of (n := (Shape.t [.s, s]).dep) p1 ?_ (fun d hd => fits_pl _ d (fits' d hd)) fun d hd e he => fits_alike _ d e (fits' d hd) (fits' e he)
  rw [List.pairwise_map]
  have nd : (sortS ks).Pairwise fun a b => a ≠ b := sortS_nodup hk
  refine ((sortS_pw ks).and nd).imp_of_mem ?_
  intro a b ha hb q
  exact leD_fst (s := .s) (ok a (mem_sortS.mp ha)) (ok b (mem_sortS.mp hb)) (fun z => q.2 (str_inj _ _ z)) q.1
theorem lookL_put {κ β : Type} [DecidableEq κ] (l : List (κ × β)) (x y : κ) (b : β) : lookL (putL l x b) y = if x = y then some b else lookL l y := by
  unfold putL
  rw [any_look]
  cases h : (lookL l x).isSome with
  | true =>
    simp only [if_true]
    induction l with
    | nil => cases h
    | cons p r ih =>
      obtain ⟨a, c⟩ := p
      rw [List.map_cons]
      by_cases e : a = x
      · subst e
        simp only [if_true, lookL_cons]
        by_cases e2 : a = y
        · simp [e2]
        · simp only [if_neg e2]
          by_cases hr : (lookL r a).isSome = true
          · rw [ih hr, if_neg e2]
          · have : lookL r a = none := by simpa using hr
            have e3 : (r.map fun p => if p.1 = a then (p.1, b) else p) = r := by
              refine (List.map_congr_left fun q hq => ?_).trans (List.map_id r)
              rw [if_neg (lookL_none.mp this q hq)]; rfl
            rw [e3]
      · rw [lookL_cons, if_neg e] at h
        rw [if_neg e, lookL_cons, lookL_cons, ih h]
        by_cases e2 : a = y
        · have : ¬ x = y := fun z => e (by rw [e2, z])
          simp [e2, this]
        · simp [e2]
  | false =>
    have : lookL l x = none := by simpa using h
    simp only [Bool.false_eq_true, if_false]
    rw [lookL_append, lookL_cons, lookL_nil]
    by_cases e : x = y
    · subst e; simp [this]
    · simp [e]
theorem putL_mem {κ β : Type} [DecidableEq κ] {l : List (κ × β)} {x y : κ} {b : β} : y ∈ (putL l x b).map (·.1) ↔ y = x ∨ y ∈ l.map (·.1) := by
  have key : ∀ (m : List (κ × β)) (z : κ), z ∈ m.map (·.1) ↔ (lookL m z).isSome = true := fun m z => by
    rw [← any_look, List.any_eq_true]
    simp only [List.mem_map, decide_eq_true_eq]
  rw [key, key, lookL_put]
  by_cases e : x = y
  · simp [e]
  · simp [e, Ne.symm e]
theorem gMax_ints {l : List Int} (h : l ≠ []) : ∃ i ∈ l, gMax [.lst (l.map D.int)] = some (.sh (.int i)) := by
  cases l with
  | nil => exact (h rfl).elim
  | cons a r =>
    have hc : cmpOk (D.int a :: r.map D.int) = true := cmpOk_of (s := .i) (by decide) ⟨rfl, trivial⟩ fun d hd => by
      rw [show D.int a :: r.map D.int = (a :: r).map D.int from rfl] at hd
      obtain ⟨x, _, rfl⟩ := List.mem_map.mp hd
      rfl
    have hm := maxDD_mem (.int a) (r.map D.int)
    rw [show D.int a :: r.map D.int = (a :: r).map D.int from rfl] at hm
    obtain ⟨x, hx, e⟩ := List.mem_map.mp hm
    exact ⟨x, hx, by rw [List.map_cons, gMax_lst, if_pos hc, e]⟩
theorem eqDct_self {β : Type} {g : β → D} {l : List (Str × β)} (hn : (l.map (·.1)).Nodup) (hf : ∀ p ∈ l, flatD (g p.2) = true) : eqDct (dm D.str g l) (dm D.str g l) = some true := by
  unfold eqDct
  rw [if_pos rfl, if_pos]
  refine List.all_eq_true.mpr fun q hq => ?_
  obtain ⟨p, hp, rfl⟩ := List.mem_map.mp hq
  have e := lookD_sm (g := g) l p.1
  rw [lookL_of_mem hn (b := p.2) hp] at e
  simp [e, hf p hp]
theorem gNe_self {n : Nat} {d : D} (h : pl n d = true) (hn : n ≤ 64) : gNe d d = some (.sh (.bl false)) := by
  rw [gNe_pl h h hn hn]; simp
theorem gDict_items {β : Type} {g : β → D} {l : List (Str × β)} (hn : (l.map (·.1)).Nodup) (hl : l.length ≤ 16777216) : gDict [.lst (itemsD (dm D.str g l))] = some (.own (.dct false (dm D.str g l))) := by
  rw [items_dm, gDict_sm l hl, mergeL_nil hn]
theorem gDict_snoc {β : Type} {g : β → D} {l : List (Str × β)} (hn : (l.map (·.1)).Nodup) (hl : l.length < 16777216) (x : Str) (v : β) : gDict [.lst (itemsD (dm D.str g l) ++ [.tup [.str x, g v]])] = some (.own (.dct false (dm D.str g (Rf.putL l x v)))) := by
  have := gDict_sm (g := g) (l ++ [(x, v)]) (by simp; omega)
  rw [mergeL_snoc hn, List.map_append] at this
  rw [items_dm]
  exact this
/-- names gathered by what f tells of them -/
def group (f : Str → Str) (ns : List Str) : List (Str × List Str) := ns.foldl (fun acc n => putL acc (f n) ((lookL acc (f n)).getD [] ++ [n])) []
theorem group_look (f : Str → Str) (ns : List Str) (w : Str) : lookL (group f ns) w = if ns.filter (fun n => decide (f n = w)) = [] then none else some (ns.filter fun n => decide (f n = w)) := by
  have key : ∀ (done ns : List Str) (acc : List (Str × List Str)), (∀ w, lookL acc w = if done.filter (fun n => decide (f n = w)) = [] then none else some (done.filter fun n => decide (f n = w))) →
      ∀ w, lookL (ns.foldl (fun acc n => putL acc (f n) ((lookL acc (f n)).getD [] ++ [n])) acc) w = if (done ++ ns).filter (fun n => decide (f n = w)) = [] then none else some ((done ++ ns).filter fun n => decide (f n = w)) := by
    intro done ns
    induction ns generalizing done with
    | nil => intro acc h w; simpa using h w
    | cons n r ih =>
      intro acc h w
      rw [List.foldl_cons, show done ++ n :: r = (done ++ [n]) ++ r by simp]
      refine ih (done ++ [n]) _ (fun w => ?_) w
      rw [lookL_put, h (f n), h w, List.filter_append]
      by_cases e : f n = w
      · subst e
        by_cases hz : done.filter (fun m => decide (f m = f n)) = []
        · simp [hz]
        · simp [hz]
      · simp [e]
  have := key [] ns [] (fun w => by simp) w
  simpa [group] using this
theorem group_keys (f : Str → Str) (ns : List Str) : ((group f ns).map (·.1)).Nodup := by
  unfold group
  have : ∀ acc : List (Str × List Str), (acc.map (·.1)).Nodup → ((ns.foldl (fun acc n => putL acc (f n) ((lookL acc (f n)).getD [] ++ [n])) acc).map (·.1)).Nodup := by
    induction ns with
    | nil => exact fun _ h => h
    | cons n r ih => exact fun acc h => ih _ (putL_keys h)
  exact this [] (by simp)
theorem mem_keys {κ β : Type} [DecidableEq κ] (m : List (κ × β)) (z : κ) : z ∈ m.map (·.1) ↔ (lookL m z).isSome = true := by
  rw [← any_look, List.any_eq_true]
  simp only [List.mem_map, decide_eq_true_eq]
theorem group_mem (f : Str → Str) (ns : List Str) (w : Str) : w ∈ (group f ns).map (·.1) ↔ w ∈ ns.map f := by
  rw [mem_keys, group_look]
  by_cases h : ns.filter (fun n => decide (f n = w)) = []
  · simp only [h, if_true, Option.isSome_none, Bool.false_eq_true, false_iff]
    intro z
    obtain ⟨n, hn, e⟩ := List.mem_map.mp z
    have := List.filter_eq_nil_iff.mp h n hn
    simp [e] at this
  · simp only [h, if_false, Option.isSome_some, true_iff]
    obtain ⟨n, hn⟩ := List.exists_mem_of_ne_nil _ h
    obtain ⟨h1, h2⟩ := List.mem_filter.mp hn
    exact List.mem_map.mpr ⟨n, h1, of_decide_eq_true h2⟩
/-- keys that are put one behind another -/
def ones (ws : List Str) : List (Str × Int) := mergeL [] (ws.map fun w => (w, 1))
theorem ones_keys (ws : List Str) : ((ones ws).map (·.1)).Nodup := by
  unfold ones mergeL
  have : ∀ acc : List (Str × Int), (acc.map (·.1)).Nodup → (((ws.map fun w => (w, (1 : Int))).foldl (fun acc p => putL acc p.1 p.2) acc).map (·.1)).Nodup := by
    induction ws with
    | nil => exact fun _ h => h
    | cons n r ih => exact fun acc h => ih _ (putL_keys h)
  exact this [] (by simp)
theorem ones_mem (ws : List Str) (w : Str) : w ∈ (ones ws).map (·.1) ↔ w ∈ ws := by
  unfold ones mergeL
  have : ∀ acc : List (Str × Int), w ∈ (((ws.map fun w => (w, (1 : Int))).foldl (fun acc p => putL acc p.1 p.2) acc).map (·.1)) ↔ w ∈ acc.map (·.1) ∨ w ∈ ws := by
    induction ws with
    | nil => simp
    | cons n r ih =>
      intro acc
      rw [List.map_cons, List.foldl_cons, ih, putL_mem, List.mem_cons]
      constructor
      · rintro ((h | h) | h)
        · exact .inr (.inl h)
        · exact .inl h
        · exact .inr (.inr h)
      · rintro (h | h | h)
        · exact .inl (.inr h)
        · exact .inl (.inl h)
        · exact .inr h
  have := this []
  simpa using this
end Rf
set_option maxHeartbeats 1000000
/-! printed by gen.py: the meanings of the defs of law_k18_lofts. -/
namespace Lk18
open PySem Rf
def fuel : Nat := 1000000
def okL : List (Str × Str) := [("Loft", "racks"), ("Loft", "kites"), ("Loft", "lent")]
def okf (C f : Str) : Bool := okL.contains (C, f)
def toldL : List (Str × Str) := [("BadSize", "size"), ("BadPlan", "plan"), ("NoSuch", "no such"), ("NoRoom", "no room"), ("NoWay", "no way"), ("Snaps", "snaps"), ("BadText", "text"), ("BadDeed", "deed")]
def excL : List Str := ["BadSize", "BadPlan", "NoSuch", "NoRoom", "NoWay", "Snaps", "BadText", "BadDeed"]
def excR : List Str := ["BadSize", "BadPlan", "NoSuch", "NoRoom", "NoWay", "Snaps", "BadDeed"]
theorem told_in : ∀ p ∈ toldL, p.1 ∈ excL := by decide +kernel
abbrev N_Loft___init__ : List Str := ["self", "racks"]
def m_Loft___init__ : MS :=
  (sSeq (sIf (bOr (eTest (eBin gEq (eCall gLen (aCons (eVar 1) aNil)) (eC (.int 0)))) (eTest (eBin gLt (eCall gMin (aCons (eVar 1) aNil)) (eC (.int 1))))) (sRaise "BadPlan" (eC (.str "no loft"))) sSkip)
  (sSeq (sFldM okf (eVar 0) (eCall gTuple (aCons (eVar 1) aNil)) "racks")
  (sSeq (sFldM okf (eVar 0) eDNew "kites")
  (sFldM okf (eVar 0) eDNew "lent"))))
def f_Loft___init__ : FM := fnM 2 m_Loft___init__
abbrev N_Loft_free : List Str := ["self", "rack", "at", "long"]
def m_Loft_free : MS :=
  (sSeq (sIf (bNot (eTest (eChain gLe gLt (eC (.int 0)) (eVar 1) (eCall gLen (aCons (eFld okf (eVar 0) "racks") aNil))))) (sRaise "NoSuch" (eC (.str "no rack"))) sSkip)
  (sRet (eBin gSub (eBin gIx (eFld okf (eVar 0) "racks") (eVar 1)) (eLock (eObj (eFld okf (eVar 0) "kites")) (eSumG (iDct valsD (eFld okf (eVar 0) "kites")) [2, 3] (gtTup 2 (gtCons (gtName 2) (gtCons (gtName 3) gtNil))) (eTest (eBin gEq (eVar 2) (eVar 1))) (eEsc (eVar 3)))))))
def f_Loft_free : FM := fnM 4 m_Loft_free
abbrev N_Loft_put : List Str := ["self", "name", "long", "good", "rack"]
def m_Loft_put : MS :=
  (sSeq (sIf (bOr (eTest (eBin gEq (eVar 1) (eC (.str "")))) (bOr (eTest (eBin gIn1 (eVar 1) (eFld okf (eVar 0) "kites"))) (eTest (eBin gIn1 (eVar 1) (eFld okf (eVar 0) "lent"))))) (sRaise "BadDeed" (eC (.str "kept, lent, or none"))) sSkip)
  (sSeq (sIf (eTest (eBin gLt (eVar 2) (eC (.int 1)))) (sRaise "BadSize" (eC (.str "no kite"))) sSkip)
  (sSeq (sSet 3 (eLc (iArg fRng1 (aCons (eCall gLen (aCons (eFld okf (eVar 0) "racks") aNil)) aNil)) [4] (gtName 4) (eTest (eBin gGe (eMeth "Loft" "free" 2 f_Loft_free (eVar 0) (aCons (eEsc (eVar 4)) aNil)) (eVar 2))) (eTup (aCons (eEsc (eMeth "Loft" "free" 2 f_Loft_free (eVar 0) (aCons (eEsc (eVar 4)) aNil))) (aCons (eEsc (eVar 4)) aNil)))))
  (sSeq (sIf (eTest (eBin gEq (eVar 3) (eLst aNil))) (sRaise "NoRoom" (eVar 1)) sSkip)
  (sSeq (sPut (eFld okf (eVar 0) "kites") (eVar 1) (eTup (aCons (eBin gIx (eCall gMin (aCons (eVar 3) aNil)) (eC (.int 1))) (aCons (eEsc (eVar 2)) aNil))))
  (sRet (eBin gIx (eCall gMin (aCons (eVar 3) aNil)) (eC (.int 1)))))))))
def f_Loft_put : FM := fnM 5 m_Loft_put
abbrev N_Loft_lend : List Str := ["self", "name", "who"]
def m_Loft_lend : MS :=
  (sSeq (sIf (eTest (eBin gNotIn1 (eVar 1) (eFld okf (eVar 0) "kites"))) (sRaise "NoSuch" (eVar 1)) sSkip)
  (sSeq (sIf (eTest (eBin gEq (eVar 2) (eC (.str "")))) (sRaise "BadDeed" (eC (.str "nobody"))) sSkip)
  (sPut (eFld okf (eVar 0) "lent") (eVar 1) (eTup (aCons (eEsc (eVar 2)) (aCons (eBin gIx (eDPop1 (eFld okf (eVar 0) "kites") (eVar 1)) (eC (.int 1))) aNil))))))
def f_Loft_lend : FM := fnM 3 m_Loft_lend
abbrev N_Loft_bring : List Str := ["self", "name", "who", "long"]
def m_Loft_bring : MS :=
  (sSeq (sIf (eTest (eBin gNotIn1 (eVar 1) (eFld okf (eVar 0) "lent"))) (sRaise "NoSuch" (eVar 1)) sSkip)
  (sSeq (sAsgT (eDPop1 (eFld okf (eVar 0) "lent") (eVar 1)) (gtTup 2 (gtCons (gtName 2) (gtCons (gtName 3) gtNil))))
  (sTry excL "NoRoom" (sRet (eMeth "Loft" "put" 3 f_Loft_put (eVar 0) (aCons (eEsc (eVar 1)) (aCons (eEsc (eVar 3)) aNil)))) (sSeq (sPut (eFld okf (eVar 0) "lent") (eVar 1) (eTup (aCons (eEsc (eVar 2)) (aCons (eEsc (eVar 3)) aNil))))
  (sRaise "NoRoom" (eVar 1))))))
def f_Loft_bring : FM := fnM 4 m_Loft_bring
abbrev N_Loft_owed : List Str := ["self", "found", "name"]
def m_Loft_owed : MS :=
  (sSeq (sSet 1 eDNew)
  (sSeq (sFor (iSeq (eEsc (eCall gSorted (aCons (eFld okf (eVar 0) "lent") aNil)))) (gtName 2) (sPut (eVar 1) (eBin gIx (eBin gIx (eFld okf (eVar 0) "lent") (eVar 2)) (eC (.int 0))) (eEsc (eBin gAdd (eDGet2 (eVar 1) (eBin gIx (eBin gIx (eFld okf (eVar 0) "lent") (eVar 2)) (eC (.int 0))) (eTup aNil)) (eTup (aCons (eEsc (eVar 2)) aNil))))))
  (sRet (eCall gTuple (aCons (eUn gSortI (eVar 1)) aNil)))))
def f_Loft_owed : FM := fnM 3 m_Loft_owed
abbrev N_Loft_longest_free : List Str := ["self", "rack"]
def m_Loft_longest_free : MS :=
  (sRet (eCall gMax (aCons (eLc (iArg fRng1 (aCons (eCall gLen (aCons (eFld okf (eVar 0) "racks") aNil)) aNil)) [1] (gtName 1) mYes (eEsc (eMeth "Loft" "free" 2 f_Loft_free (eVar 0) (aCons (eEsc (eVar 1)) aNil)))) aNil)))
def f_Loft_longest_free : FM := fnM 2 m_Loft_longest_free
abbrev N_Loft_shown : List Str := ["self"]
def m_Loft_shown : MS :=
  (sRet (eTup (aCons (eCall gTuple (aCons (eUn gSortI (eFld okf (eVar 0) "kites")) aNil)) (aCons (eCall gTuple (aCons (eUn gSortI (eFld okf (eVar 0) "lent")) aNil)) aNil))))
def f_Loft_shown : FM := fnM 1 m_Loft_shown
abbrev N_damp_left : List Str := ["damp", "air", "hours", "found", "name", "here", "hour"]
def m_damp_left : MS :=
  (sSeq (sIf (bOr (eTest (eBin gLt (eVar 1) (eC (.int 0)))) (eTest (eBin gLt (eVar 2) (eC (.int 0))))) (sRaise "BadSize" (eC (.str "below nought"))) sSkip)
  (sSeq (sSet 3 eDNew)
  (sSeq (sFor (iSeq (eEsc (eCall gSorted (aCons (eVar 0) aNil)))) (gtName 4) (sSeq (sSet 5 (eBin gIx (eVar 0) (eVar 4)))
  (sSeq (sFor (iArg fRng1 (aCons (eVar 2) aNil)) (gtName 6) (sSet 5 (eCall gMax (aCons (eCall gMin (aCons (eVar 5) (aCons (eVar 1) aNil))) (aCons (eBin gSub (eVar 5) (eCall gMax (aCons (eC (.int 1)) (aCons (eBin gDiv (eBin gSub (eVar 5) (eVar 1)) (eC (.int 10))) aNil)))) aNil)))))
  (sPut (eVar 3) (eVar 4) (eEsc (eVar 5))))))
  (sRet (eVar 3)))))
def f_damp_left : FM := fnM 7 m_damp_left
abbrev N_moth_eaten : List Str := ["days", "holes", "here", "day"]
def m_moth_eaten : MS :=
  (sSeq (sAsgT (eTup (aCons (eC (.int 1)) (aCons (eC (.int 0)) aNil))) (gtTup 2 (gtCons (gtName 2) (gtCons (gtName 3) gtNil))))
  (sSeq (sWhile (eTest (eBin gLt (eVar 2) (eVar 1))) (sSeq (sAug 3 gAddI (eC (.int 7)))
  (sSeq (sIf (eTest (eBin gGt (eVar 3) (eVar 0))) (sRaise "NoWay" (eC (.str "not by then"))) sSkip)
  (sAug 2 gMulI (eC (.int 2))))) fuel)
  (sRet (eVar 3))))
def f_moth_eaten : FM := fnM 4 m_moth_eaten
abbrev N__law_dice : List Str := ["cell"]
def m__law_dice : MS :=
  (sSeq (sIf (eTest (eChain gLt gLt (eBin gSub (eC (.int 0)) (eC (.int 10))) (eVar 0) (eC (.int 10)))) (sRet (eLst (aCons (eCall gAbs (aCons (eVar 0) aNil)) (aCons (eC (.int 0)) (aCons (eC (.int 2)) aNil))))) sSkip)
  (sRet (eLst (aCons (eEsc (eVar 0)) (aCons (eEsc (eBin gAdd (eC (.int 1)) (eBin gMod (eCall gInt (aCons (eVar 0) aNil)) (eC (.int 1009))))) (aCons (eCall gInt (aCons (eBin gGe (eVar 0) (eBin gPow (eC (.int 10)) (eC (.int 18)))) aNil)) aNil))))))
def f__law_dice : FM := fnM 1 m__law_dice
abbrev N__law_roll : List Str := ["dice", "many", "found"]
def m__law_roll : MS :=
  (sSeq (sIf (bOr (eTest (eBin gEq (eBin gIx (eVar 0) (eC (.int 2))) (eC (.int 2)))) (bAnd (eTest (eBin gEq (eBin gIx (eVar 0) (eC (.int 2))) (eC (.int 1)))) (eTest (eBin gGt (eBin gIx (eVar 0) (eC (.int 0))) (eC (.int 0)))))) (sSeq (sSet 2 (eBin gMod (eCall gInt (aCons (eBin gIx (eVar 0) (eC (.int 0))) aNil)) (eVar 1)))
  (sSeq (sPut (eVar 0) (eC (.int 0)) (eBin gDiv (eBin gIx (eVar 0) (eC (.int 0))) (eVar 1)))
  (sRet (eVar 2)))) sSkip)
  (sSeq (sPut (eVar 0) (eC (.int 2)) (eC (.int 0)))
  (sSeq (sPut (eVar 0) (eC (.int 0)) (eBin gMod (eCall gInt (aCons (eBin gAdd (eBin gAdd (eBin gMul (eBin gIx (eVar 0) (eC (.int 0))) (eC (.int 48271))) (eBin gMul (eBin gIx (eVar 0) (eC (.int 1))) (eC (.int 69621)))) (eC (.int 11))) aNil)) (eC (.int 2147483647))))
  (sSeq (sPut (eVar 0) (eC (.int 1)) (eEsc (eBin gAdd (eBin gIx (eVar 0) (eC (.int 1))) (eC (.int 1)))))
  (sRet (eBin gMod (eCall gInt (aCons (eBin gAdd (eBin gDiv (eBin gIx (eVar 0) (eC (.int 0))) (eC (.int 7))) (eBin gIx (eVar 0) (eC (.int 0)))) aNil)) (eVar 1)))))))
def f__law_roll : FM := fnM 3 m__law_roll
abbrev N__law_rounds : List Str := ["script", "most", "cells", "cell"]
def m__law_rounds : MS :=
  (sSeq (sSet 2 (eSl (eVar 0) oNone (oSome (eVar 1))))
  (sSeq (sIf (eTest (eBin gEq (eVar 2) (eLst aNil))) (sSet 2 (eLst (aCons (eC (.int 0)) aNil))) sSkip)
  (sRet (eLc (iSeq (eEsc (eVar 2))) [3] (gtName 3) mYes (eBox (eFn 1 f__law_dice (aCons (eEsc (eVar 3)) aNil)))))))
def f__law_rounds : FM := fnM 4 m__law_rounds
abbrev N__law_rest1 : List Str := ["dice", "lent", "loft", "free", "people", "left", "hour", "week", "damp", "air", "hours", "holes", "days", "many", "weeks", "one", "who", "name"]
def m__law_rest1 : MS :=
  (sSeq (sSet 4 (eCall gSorted (aCons (eCall gDict (aCons (eLock (eEsc (eVar 1)) (eLc (iDct keysD' (eBor 1)) [15] (gtName 15) mYes (eTup (aCons (eBin gIx (eBin gIx (eVar 1) (eVar 15)) (eC (.int 0))) (aCons (eC (.int 1)) aNil))))) aNil)) aNil)))
  (sSeq (sIf (bOr (eTest (eBin gNe (eMeth "Loft" "longest_free" 1 f_Loft_longest_free (eVar 2) aNil) (eCall gMax (aCons (eVar 3) aNil)))) (eTest (eBin gNe (eCall gList (aCons (eMeth "Loft" "owed" 1 f_Loft_owed (eVar 2) aNil) aNil)) (eLc (iSeq (eEsc (eVar 4))) [16] (gtName 16) mYes (eTup (aCons (eEsc (eVar 16)) (aCons (eCall gTuple (aCons (eLc (iSeq (eEsc (eCall gSorted (aCons (eVar 1) aNil)))) [15] (gtName 15) (eTest (eBin gEq (eBin gIx (eBin gIx (eVar 1) (eVar 15)) (eC (.int 0))) (eVar 16))) (eEsc (eVar 15))) aNil)) aNil))))))) (sRet (eC (.bl false))) sSkip)
  (sSeq (sAsgT (eTup (aCons (eEsc (eCall gDict (aCons (eLc (iSeq (eEsc (eSl (eLst (aCons (eC (.str "a")) (aCons (eC (.str "b")) (aCons (eC (.str "c")) aNil)))) oNone (oSome (eFn 2 f__law_roll (aCons (eEsc (eVar 0)) (aCons (eC (.int 4)) aNil))))))) [17] (gtName 17) mYes (eTup (aCons (eEsc (eVar 17)) (aCons (eEsc (eFn 2 f__law_roll (aCons (eEsc (eVar 0)) (aCons (eC (.int 60)) aNil)))) aNil)))) aNil))) (aCons (eEsc (eFn 2 f__law_roll (aCons (eEsc (eVar 0)) (aCons (eC (.int 40)) aNil)))) (aCons (eEsc (eFn 2 f__law_roll (aCons (eEsc (eVar 0)) (aCons (eC (.int 9)) aNil)))) aNil)))) (gtTup 3 (gtCons (gtName 8) (gtCons (gtName 9) (gtCons (gtName 10) gtNil)))))
  (sSeq (sSet 5 (eCall gDict (aCons (eVar 8) aNil)))
  (sSeq (sFor (iArg fRng1 (aCons (eVar 10) aNil)) (gtName 6) (sSet 5 (eCall gDict (aCons (eLock (eEsc (eVar 5)) (eLc (iDct keysD' (eBor 5)) [17] (gtName 17) mYes (eTup (aCons (eEsc (eVar 17)) (aCons (eIf (eTest (eBin gLe (eBin gIx (eVar 5) (eVar 17)) (eVar 9))) (eBin gIx (eVar 5) (eVar 17)) (eCall gMax (aCons (eVar 9) (aCons (eBin gSub (eBin gIx (eVar 5) (eVar 17)) (eCall gMax (aCons (eC (.int 1)) (aCons (eBin gDiv (eBin gSub (eBin gIx (eVar 5) (eVar 17)) (eVar 9)) (eC (.int 10))) aNil)))) aNil)))) aNil))))) aNil))))
  (sSeq (sIf (eTest (eBin gNe (eFn 3 f_damp_left (aCons (eEsc (eVar 8)) (aCons (eEsc (eVar 9)) (aCons (eEsc (eVar 10)) aNil)))) (eCall gDict (aCons (eLc (iSeq (eEsc (eCall gSorted (aCons (eVar 5) aNil)))) [17] (gtName 17) mYes (eTup (aCons (eEsc (eVar 17)) (aCons (eBin gIx (eVar 5) (eVar 17)) aNil)))) aNil)))) (sRet (eC (.bl false))) sSkip)
  (sSeq (sAsgT (eTup (aCons (eEsc (eFn 2 f__law_roll (aCons (eEsc (eVar 0)) (aCons (eC (.int 90)) aNil)))) (aCons (eEsc (eFn 2 f__law_roll (aCons (eEsc (eVar 0)) (aCons (eC (.int 60)) aNil)))) (aCons (eC (.int 1)) (aCons (eC (.int 0)) aNil))))) (gtTup 4 (gtCons (gtName 11) (gtCons (gtName 12) (gtCons (gtName 13) (gtCons (gtName 14) gtNil))))))
  (sSeq (sFor (iArg fRng1 (aCons (eC (.int 7)) aNil)) (gtName 7) (sAsgT (eIf (eTest (eBin gLt (eVar 13) (eVar 11))) (eTup (aCons (eEsc (eBin gAdd (eVar 13) (eVar 13))) (aCons (eEsc (eBin gAdd (eVar 14) (eC (.int 1)))) aNil))) (eTup (aCons (eEsc (eVar 13)) (aCons (eEsc (eVar 14)) aNil)))) (gtTup 2 (gtCons (gtName 13) (gtCons (gtName 14) gtNil)))))
  (sSeq (sIf (eTest (eBin gNe (eTold toldL (eFn 2 f_moth_eaten (aCons (eEsc (eVar 12)) (aCons (eEsc (eVar 11)) aNil)))) (eIf (bOr (eTest (eBin gLe (eBin gMul (eC (.int 7)) (eVar 14)) (eVar 12))) (eTest (eBin gEq (eVar 14) (eC (.int 0))))) (eBin gMul (eC (.int 7)) (eVar 14)) (eC (.str "no way"))))) (sRet (eC (.bl false))) sSkip)
  (sSeq (sIf (eTest (eBin gNe (eTold toldL (eMake "Loft" 2 f_Loft___init__ (aCons (eEsc (eLst aNil)) aNil))) (eC (.str "plan")))) (sRet (eC (.bl false))) sSkip)
  (sSeq (sIf (eTest (eBin gNe (eTold toldL (eMeth "Loft" "free" 2 f_Loft_free (eVar 2) (aCons (eC (.int 9)) aNil))) (eC (.str "no such")))) (sRet (eC (.bl false))) sSkip)
  (sSeq (sIf (eTest (eBin gNe (eTold toldL (eMeth "Loft" "put" 3 f_Loft_put (eVar 2) (aCons (eC (.str "")) (aCons (eC (.int 1)) aNil)))) (eC (.str "deed")))) (sRet (eC (.bl false))) sSkip)
  (sSeq (sIf (eTest (eBin gNe (eTold toldL (eFn 3 f_damp_left (aCons (eEsc eDNew) (aCons (eBin gSub (eC (.int 0)) (eC (.int 1))) (aCons (eC (.int 1)) aNil))))) (eC (.str "size")))) (sRet (eC (.bl false))) sSkip)
  (sRet (eC (.bl true))))))))))))))))
def f__law_rest1 : FM := fnM 18 m__law_rest1
abbrev N_law : List Str := ["script", "dice", "loft", "step", "free", "racks", "kept", "lent", "size", "good", "sort", "name", "long", "who", "due", "k", "back", "one"]
def m_law : MS :=
  (sSeq (sFor (iSeq (eEsc (eFn 2 f__law_rounds (aCons (eEsc (eVar 0)) (aCons (eC (.int 1)) aNil))))) (gtName 1) (sSeq (sAsgT (eTup (aCons (eEsc (eLc (iArg fRng1 (aCons (eBin gAdd (eC (.int 1)) (eFn 2 f__law_roll (aCons (eEsc (eVar 1)) (aCons (eC (.int 3)) aNil)))) aNil)) [15] (gtName 15) mYes (eEsc (eBin gAdd (eC (.int 1)) (eFn 2 f__law_roll (aCons (eEsc (eVar 1)) (aCons (eC (.int 20)) aNil))))))) (aCons (eEsc eDNew) (aCons (eEsc eDNew) aNil)))) (gtTup 3 (gtCons (gtName 5) (gtCons (gtName 6) (gtCons (gtName 7) gtNil)))))
  (sSeq (sSet 2 (eMake "Loft" 2 f_Loft___init__ (aCons (eEsc (eVar 5)) aNil)))
  (sSeq (sFor (iArg fRng1 (aCons (eFn 2 f__law_roll (aCons (eEsc (eVar 1)) (aCons (eC (.int 13)) aNil))) aNil)) (gtName 3) (sSeq (sAsgT (eTup (aCons (eEsc (eFn 2 f__law_roll (aCons (eEsc (eVar 1)) (aCons (eC (.int 6)) aNil)))) (aCons (eBin gIx (eC (.str "pqrst")) (eFn 2 f__law_roll (aCons (eEsc (eVar 1)) (aCons (eC (.int 5)) aNil)))) (aCons (eEsc (eFn 2 f__law_roll (aCons (eEsc (eVar 1)) (aCons (eC (.int 12)) aNil)))) (aCons (eBin gIx (eLst (aCons (eC (.str "ann")) (aCons (eC (.str "bo")) (aCons (eC (.str "")) aNil)))) (eBin gDiv (eFn 2 f__law_roll (aCons (eEsc (eVar 1)) (aCons (eC (.int 5)) aNil))) (eC (.int 2)))) aNil))))) (gtTup 4 (gtCons (gtName 10) (gtCons (gtName 11) (gtCons (gtName 12) (gtCons (gtName 13) gtNil))))))
  (sSeq (sSet 4 (eLc (iArg fRng1 (aCons (eCall gLen (aCons (eVar 5) aNil)) aNil)) [15] (gtName 15) mYes (eBin gSub (eBin gIx (eVar 5) (eVar 15)) (eCall gSum (aCons (eLock (eEsc (eVar 6)) (eLc (iDct keysD' (eBor 6)) [17] (gtName 17) (eTest (eBin gEq (eBin gIx (eBin gIx (eVar 6) (eVar 17)) (eC (.int 0))) (eVar 15))) (eBin gIx (eBin gIx (eVar 6) (eVar 17)) (eC (.int 1))))) aNil)))))
  (sSeq (sIf (eTest (eBin gNe (eLc (iArg fRng1 (aCons (eCall gLen (aCons (eVar 5) aNil)) aNil)) [15] (gtName 15) mYes (eEsc (eMeth "Loft" "free" 2 f_Loft_free (eVar 2) (aCons (eEsc (eVar 15)) aNil)))) (eVar 4))) (sRet (eC (.bl false))) sSkip)
  (sSeq (sSet 8 (eIf (eTest (eBin gLt (eVar 10) (eC (.int 3)))) (eVar 12) (eBin gIx (eDGet2 (eVar 7) (eVar 11) (eTup (aCons (eC (.str "")) (aCons (eC (.int 0)) aNil)))) (eC (.int 1)))))
  (sSeq (sSet 9 (eLc (iArg fRng1 (aCons (eCall gLen (aCons (eVar 5) aNil)) aNil)) [15] (gtName 15) (eTest (eBin gGe (eBin gIx (eVar 4) (eVar 15)) (eVar 8))) (eTup (aCons (eBin gIx (eVar 4) (eVar 15)) (aCons (eEsc (eVar 15)) aNil)))))
  (sSeq (sIf (eTest (eBin gLt (eVar 10) (eC (.int 3)))) (sSeq (sSet 14 (eIf (bOr (eTest (eBin gIn1 (eVar 11) (eVar 6))) (eTest (eBin gIn1 (eVar 11) (eVar 7)))) (eC (.str "deed")) (eIf (eTest (eBin gLt (eVar 12) (eC (.int 1)))) (eC (.str "size")) (eC (.str "no room")))))
  (sSeq (sSet 14 (eIf (bAnd (eTest (eBin gEq (eVar 14) (eC (.str "no room")))) (eTest (eBin gNe (eVar 9) (eLst aNil)))) (eBin gIx (eCall gMin (aCons (eVar 9) aNil)) (eC (.int 1))) (eVar 14)))
  (sSeq (sIf (eTest (eBin gNe (eTold toldL (eMeth "Loft" "put" 3 f_Loft_put (eVar 2) (aCons (eEsc (eVar 11)) (aCons (eEsc (eVar 12)) aNil)))) (eVar 14))) (sRet (eC (.bl false))) sSkip)
  (sSet 6 (eCall gDict (aCons (eBin gAdd (eUn gListI (eVar 6)) (eIf (eTest (eBin gNotIn1 (eVar 14) (eLst (aCons (eC (.str "deed")) (aCons (eC (.str "size")) (aCons (eC (.str "no room")) aNil)))))) (eLst (aCons (eTup (aCons (eEsc (eVar 11)) (aCons (eTup (aCons (eEsc (eVar 14)) (aCons (eEsc (eVar 12)) aNil))) aNil))) aNil)) (eLst aNil))) aNil)))))) (sIf (eTest (eBin gEq (eVar 10) (eC (.int 3)))) (sSeq (sSet 14 (eIf (eTest (eBin gNotIn1 (eVar 11) (eVar 6))) (eC (.str "no such")) (eIf (eTest (eBin gEq (eVar 13) (eC (.str "")))) (eC (.str "deed")) (eC .non))))
  (sSeq (sIf (eTest (eBin gNe (eTold toldL (eMeth "Loft" "lend" 3 f_Loft_lend (eVar 2) (aCons (eEsc (eVar 11)) (aCons (eEsc (eVar 13)) aNil)))) (eVar 14))) (sRet (eC (.bl false))) sSkip)
  (sSeq (sSet 7 (eCall gDict (aCons (eBin gAdd (eUn gListI (eVar 7)) (eIf (eTest (eBin gIs (eVar 14) (eC .non))) (eLst (aCons (eTup (aCons (eEsc (eVar 11)) (aCons (eTup (aCons (eEsc (eVar 13)) (aCons (eBin gIx (eBin gIx (eVar 6) (eVar 11)) (eC (.int 1))) aNil))) aNil))) aNil)) (eLst aNil))) aNil)))
  (sSet 6 (eCall gDict (aCons (eLock (eEsc (eVar 6)) (eLc (iDct keysD' (eBor 6)) [17] (gtName 17) (bOr (eTest (eBin gNe (eVar 17) (eVar 11))) (eTest (eBin gIsNot (eVar 14) (eC .non)))) (eTup (aCons (eEsc (eVar 17)) (aCons (eBin gIx (eVar 6) (eVar 17)) aNil))))) aNil)))))) (sSeq (sSet 14 (eIf (eTest (eBin gNotIn1 (eVar 11) (eVar 7))) (eC (.str "no such")) (eIf (eTest (eBin gNe (eVar 9) (eLst aNil))) (eBin gIx (eCall gMin (aCons (eVar 9) aNil)) (eC (.int 1))) (eC (.str "no room")))))
  (sSeq (sIf (eTest (eBin gNe (eTold toldL (eMeth "Loft" "bring" 2 f_Loft_bring (eVar 2) (aCons (eEsc (eVar 11)) aNil))) (eVar 14))) (sRet (eC (.bl false))) sSkip)
  (sSeq (sSet 16 (eBin gNotIn1 (eVar 14) (eLst (aCons (eC (.str "no such")) (aCons (eC (.str "no room")) aNil)))))
  (sSeq (sSet 6 (eCall gDict (aCons (eBin gAdd (eUn gListI (eVar 6)) (eIf (eTru (eVar 16)) (eLst (aCons (eTup (aCons (eEsc (eVar 11)) (aCons (eTup (aCons (eEsc (eVar 14)) (aCons (eEsc (eVar 8)) aNil))) aNil))) aNil)) (eLst aNil))) aNil)))
  (sSet 7 (eCall gDict (aCons (eLock (eEsc (eVar 7)) (eLc (iDct keysD' (eBor 7)) [17] (gtName 17) (bOr (eTest (eBin gNe (eVar 17) (eVar 11))) (bNot (eTru (eVar 16)))) (eTup (aCons (eEsc (eVar 17)) (aCons (eBin gIx (eVar 7) (eVar 17)) aNil))))) aNil)))))))))
  (sIf (eTest (eBin gNe (eMeth "Loft" "shown" 1 f_Loft_shown (eVar 2) aNil) (eTup (aCons (eCall gTuple (aCons (eUn gSortI (eVar 6)) aNil)) (aCons (eCall gTuple (aCons (eUn gSortI (eVar 7)) aNil)) aNil))))) (sRet (eC (.bl false))) sSkip))))))))
  (sSeq (sSet 4 (eLc (iArg fRng1 (aCons (eCall gLen (aCons (eVar 5) aNil)) aNil)) [15] (gtName 15) mYes (eBin gSub (eBin gIx (eVar 5) (eVar 15)) (eCall gSum (aCons (eLock (eEsc (eVar 6)) (eLc (iDct keysD' (eBor 6)) [17] (gtName 17) (eTest (eBin gEq (eBin gIx (eBin gIx (eVar 6) (eVar 17)) (eC (.int 0))) (eVar 15))) (eBin gIx (eBin gIx (eVar 6) (eVar 17)) (eC (.int 1))))) aNil)))))
  (sIf (bNot (eTru (eFn 4 f__law_rest1 (aCons (eEsc (eVar 1)) (aCons (eEsc (eVar 7)) (aCons (eEsc (eVar 2)) (aCons (eEsc (eVar 4)) aNil))))))) (sRet (eC (.bl false))) sSkip))))))
  (sRet (eC (.bl true))))
def f_law : FM := fnM 18 m_law
@[simp] theorem lf_Loft_racks {x0 x1 x2 : D} : lookF ([("racks", x0), ("kites", x1), ("lent", x2)] : List (Str × D)) "racks" = some x0 := Eq.trans rfl rfl
@[simp] theorem pf_Loft_racks {x0 x1 x2 : D} {v : D} : putFD "racks" v ([("racks", x0), ("kites", x1), ("lent", x2)] : List (Str × D)) = ([("racks", v), ("kites", x1), ("lent", x2)] : List (Str × D)) := Eq.trans rfl rfl
@[simp] theorem pi_Loft_racks {v : D} : putFD "racks" v ([] : List (Str × D)) = ([("racks", v)] : List (Str × D)) := Eq.trans rfl rfl
@[simp] theorem okf_Loft_racks : okf "Loft" "racks" = true := Eq.trans rfl rfl
@[simp] theorem lf_Loft_kites {x0 x1 x2 : D} : lookF ([("racks", x0), ("kites", x1), ("lent", x2)] : List (Str × D)) "kites" = some x1 := Eq.trans rfl rfl
@[simp] theorem pf_Loft_kites {x0 x1 x2 : D} {v : D} : putFD "kites" v ([("racks", x0), ("kites", x1), ("lent", x2)] : List (Str × D)) = ([("racks", x0), ("kites", v), ("lent", x2)] : List (Str × D)) := Eq.trans rfl rfl
@[simp] theorem pi_Loft_kites {x0 : D} {v : D} : putFD "kites" v ([("racks", x0)] : List (Str × D)) = ([("racks", x0), ("kites", v)] : List (Str × D)) := Eq.trans rfl rfl
@[simp] theorem okf_Loft_kites : okf "Loft" "kites" = true := Eq.trans rfl rfl
@[simp] theorem lf_Loft_lent {x0 x1 x2 : D} : lookF ([("racks", x0), ("kites", x1), ("lent", x2)] : List (Str × D)) "lent" = some x2 := Eq.trans rfl rfl
@[simp] theorem pf_Loft_lent {x0 x1 x2 : D} {v : D} : putFD "lent" v ([("racks", x0), ("kites", x1), ("lent", x2)] : List (Str × D)) = ([("racks", x0), ("kites", x1), ("lent", v)] : List (Str × D)) := Eq.trans rfl rfl
@[simp] theorem pi_Loft_lent {x0 x1 : D} {v : D} : putFD "lent" v ([("racks", x0), ("kites", x1)] : List (Str × D)) = ([("racks", x0), ("kites", x1), ("lent", v)] : List (Str × D)) := Eq.trans rfl rfl
@[simp] theorem okf_Loft_lent : okf "Loft" "lent" = true := Eq.trans rfl rfl
@[simp] theorem lm_Loft_free {x0 x1 x2 : D} : lookF ([("racks", x0), ("kites", x1), ("lent", x2)] : List (Str × D)) "free" = none := Eq.trans rfl rfl
@[simp] theorem lm_Loft_put {x0 x1 x2 : D} : lookF ([("racks", x0), ("kites", x1), ("lent", x2)] : List (Str × D)) "put" = none := Eq.trans rfl rfl
@[simp] theorem lm_Loft_lend {x0 x1 x2 : D} : lookF ([("racks", x0), ("kites", x1), ("lent", x2)] : List (Str × D)) "lend" = none := Eq.trans rfl rfl
@[simp] theorem lm_Loft_bring {x0 x1 x2 : D} : lookF ([("racks", x0), ("kites", x1), ("lent", x2)] : List (Str × D)) "bring" = none := Eq.trans rfl rfl
@[simp] theorem lm_Loft_owed {x0 x1 x2 : D} : lookF ([("racks", x0), ("kites", x1), ("lent", x2)] : List (Str × D)) "owed" = none := Eq.trans rfl rfl
@[simp] theorem lm_Loft_longest_free {x0 x1 x2 : D} : lookF ([("racks", x0), ("kites", x1), ("lent", x2)] : List (Str × D)) "longest_free" = none := Eq.trans rfl rfl
@[simp] theorem lm_Loft_shown {x0 x1 x2 : D} : lookF ([("racks", x0), ("kites", x1), ("lent", x2)] : List (Str × D)) "shown" = none := Eq.trans rfl rfl
@[simp] theorem tn_BadSize : toldN toldL "BadSize" = some "size" := Eq.trans rfl rfl
@[simp] theorem tn_BadPlan : toldN toldL "BadPlan" = some "plan" := Eq.trans rfl rfl
@[simp] theorem tn_NoSuch : toldN toldL "NoSuch" = some "no such" := Eq.trans rfl rfl
@[simp] theorem tn_NoRoom : toldN toldL "NoRoom" = some "no room" := Eq.trans rfl rfl
@[simp] theorem tn_NoWay : toldN toldL "NoWay" = some "no way" := Eq.trans rfl rfl
@[simp] theorem tn_Snaps : toldN toldL "Snaps" = some "snaps" := Eq.trans rfl rfl
@[simp] theorem tn_BadText : toldN toldL "BadText" = some "text" := Eq.trans rfl rfl
@[simp] theorem tn_BadDeed : toldN toldL "BadDeed" = some "deed" := Eq.trans rfl rfl
@[simp] theorem xm_BadSize : ("BadSize" : Str) ∈ excL := by decide
@[simp] theorem xm_BadPlan : ("BadPlan" : Str) ∈ excL := by decide
@[simp] theorem xm_NoSuch : ("NoSuch" : Str) ∈ excL := by decide
@[simp] theorem xm_NoRoom : ("NoRoom" : Str) ∈ excL := by decide
@[simp] theorem xm_NoWay : ("NoWay" : Str) ∈ excL := by decide
@[simp] theorem xm_Snaps : ("Snaps" : Str) ∈ excL := by decide
@[simp] theorem xm_BadText : ("BadText" : Str) ∈ excL := by decide
@[simp] theorem xm_BadDeed : ("BadDeed" : Str) ∈ excL := by decide
end Lk18
set_option maxHeartbeats 1000000
/-! K18a: the loft's methods computed. -/
namespace Lk18
open PySem PySem.W L2 Rf
open PyProof.Rows hiding St

abbrev KT := Str × Int × Int
abbrev LT := Str × Str × Int
def kV (p : Int × Int) : D := .tup [.int p.1, .int p.2]
def lV (p : Str × Int) : D := .tup [.str p.1, .int p.2]
abbrev loftO (racks : List Int) : Ob := .ins "Loft" [("racks", .tup (racks.map .int)), ("kites", .obj 2), ("lent", .obj 3)]
abbrev ST (o : Ob) (racks : List Int) (K : List KT) (L : List LT) (rest : List Ob) : List Ob := o :: loftO racks :: .dct false (sm kV K) :: .dct false (sm lV L) :: rest
def used (K : List KT) (k : Int) : Int := (K.filterMap fun p => if p.2.1 = k then some p.2.2 else none).sum
def fr (racks : List Int) (K : List KT) (k : Int) : Int := racks.getD k.toNat 0 - used K k
theorem free_eq (o : Ob) (racks : List Int) (K : List KT) (L : List LT) (rest : List Ob) (lk : List Nat) (r : Int) :
    callF f_Loft_free [.obj 1, .int r] (ST o racks K L rest) lk = if 0 ≤ r ∧ r < racks.length then .ok (.sh (.int (fr racks K r))) ⟨[], ST o racks K L rest, lk⟩ else .ex ⟨"NoSuch", none⟩ ⟨[], ST o racks K L rest, lk⟩ := by
  rw [f_Loft_free]
  refine callF_run (env := [some (.sh (.obj 1)), some (.sh (.int r)), none, none]) rfl ?_
  unfold m_Loft_free
  by_cases h : 0 ≤ r ∧ r < racks.length
  · rw [if_pos h]
    have hs : eSumG (iDct valsD (eFld okf (eVar 0) "kites")) [2, 3] (gtTup 2 (gtCons (gtName 2) (gtCons (gtName 3) gtNil))) (eTest (eBin gEq (eVar 2) (eVar 1))) (eEsc (eVar 3)) ⟨[some (.sh (.obj 1)), some (.sh (.int r)), none, none], ST o racks K L rest, 2 :: lk⟩ = .ok (.sh (.int (used K r))) ⟨[some (.sh (.obj 1)), some (.sh (.int r)), none, none], ST o racks K L rest, 2 :: lk⟩ := by
      rw [eSumG_pure (src := .pur) (ds := valsD (sm kV K)) (w1 := ⟨[some (.sh (.obj 1)), some (.sh (.int r)), none, none], ST o racks K L rest, 2 :: lk⟩) (fun d => match d with
        | .tup [.int a, .int l] => if a = r then some l else none
        | _ => none) (by simp) rfl ?_]
      · simp only [restW, restE, wipeW, wipeE]
        simp [used, vals_dm, kV, List.filterMap_map, Function.comp_def, keepSh]
      · intro d hd
        rw [vals_dm] at hd
        obtain ⟨p, hp, rfl⟩ := List.mem_map.mp hd
        by_cases hq : p.2.1 = r
        · exact ⟨some (.int p.2.2), by simp [turnC, wipeW, wipeE, kV, hq], by simp [kV, hq], by simp [kV, hq]⟩
        · exact ⟨none, by simp [turnC, wipeW, wipeE, kV, hq], by simp [kV, hq], by simp [kV, hq]⟩
    simp [h.1, h.2, hs, atI_map D.int racks r 0 h.1 h.2, fr]
  · rw [if_neg h]
    by_cases h0 : 0 ≤ r
    · have h1 : ¬ r < racks.length := fun z => h ⟨h0, z⟩
      simp [h0, h1]
    · simp [h0]
/-- the racks that take it -/
def gd (racks : List Int) (K : List KT) (long : Int) : List (Int × Int) := (List.range racks.length).filterMap fun k => if long ≤ fr racks K (k : Nat) then some (fr racks K (k : Nat), (k : Int)) else none
def gV (p : Int × Int) : D := .tup [.int p.1, .int p.2]
def ungV : D → Int × Int
  | .tup [.int a, .int b] => (a, b)
  | _ => (0, 0)
@[simp] theorem ungV_gV (p : Int × Int) : ungV (gV p) = p := rfl
/-- the least -/
def bst (p : Int × Int) (r : List (Int × Int)) : Int × Int := ungV (minDD (gV p) (r.map gV))
/-- the rack -/
def best : List (Int × Int) → Option Int
  | [] => none
  | p :: r => some (bst p r).2
theorem min_gV (p : Int × Int) (r : List (Int × Int)) : bst p r ∈ p :: r ∧ minDD (gV p) (r.map gV) = gV (bst p r) := by
  have := minDD_mem (gV p) (r.map gV)
  rw [show gV p :: r.map gV = (p :: r).map gV from rfl] at this
  obtain ⟨q, hq, e⟩ := List.mem_map.mp this
  have e2 : bst p r = q := by unfold bst; rw [← e]; rfl
  rw [e2]
  exact ⟨hq, e.symm⟩
theorem gMin_gV (p : Int × Int) (r : List (Int × Int)) : gMin [.lst (gV p :: r.map gV)] = some (.sh (.tup [.int (bst p r).1, .int (bst p r).2])) := by
  rw [gMin_lst, if_pos, (min_gV p r).2]
  · rfl
  · refine cmpOk_of (s := .t [.i, .i]) (by decide) ⟨rfl, trivial⟩ fun d hd => ?_
    rw [show gV p :: r.map gV = (p :: r).map gV from rfl] at hd
    obtain ⟨q, _, rfl⟩ := List.mem_map.mp hd
    rfl
theorem best_lt {racks : List Int} {K : List KT} {long r : Int} (h : best (gd racks K long) = some r) : 0 ≤ r ∧ r < racks.length := by
  cases e : gd racks K long with
  | nil => rw [e] at h; cases h
  | cons p q =>
    rw [e] at h
    have h1 : (bst p q).2 = r := Option.some.inj h
    have h2 := (min_gV p q).1
    rw [← e] at h2
    unfold gd at h2
    obtain ⟨k, hk, z⟩ := List.mem_filterMap.mp h2
    have hk := List.mem_range.mp hk
    split at z
    · have z := Option.some.inj z
      have : (bst p q).2 = (k : Int) := by rw [← z]
      omega
    · cases z
theorem gEq_gd (l : List (Int × Int)) : gEq (.lst (l.map gV)) (.lst []) = some (.sh (.bl (decide (l = [])))) := by
  rw [gEq_pl (n := 2) (m := 1) (by simp [gV]) rfl (by decide) (by decide)]
  cases l <;> simp
theorem lc_good (o : Ob) (racks : List Int) (K : List KT) (L : List LT) (rest : List Ob) (lk : List Nat) (name : Str) (long : Int) (hl : racks.length ≤ 16777216) :
    eLc (iArg fRng1 (aCons (eCall gLen (aCons (eFld okf (eVar 0) "racks") aNil)) aNil)) [4] (gtName 4) (eTest (eBin gGe (eMeth "Loft" "free" 2 f_Loft_free (eVar 0) (aCons (eEsc (eVar 4)) aNil)) (eVar 2))) (eTup (aCons (eEsc (eMeth "Loft" "free" 2 f_Loft_free (eVar 0) (aCons (eEsc (eVar 4)) aNil))) (aCons (eEsc (eVar 4)) aNil)))
      ⟨[some (.sh (.obj 1)), some (.sh (.str name)), some (.sh (.int long)), none, none], ST o racks K L rest, lk⟩ = .ok (.own (.lst ((gd racks K long).map gV))) ⟨[some (.sh (.obj 1)), some (.sh (.str name)), some (.sh (.int long)), none, none], ST o racks K L rest, lk⟩ := by
  rw [eLc_pure (src := .pur) (ds := rangeD 0 racks.length) (w1 := ⟨[some (.sh (.obj 1)), some (.sh (.str name)), some (.sh (.int long)), none, none], ST o racks K L rest, lk⟩) (fun d => match d with
    | .int k => if long ≤ fr racks K k then some (gV (fr racks K k, k)) else none
    | _ => none) ?_ rfl (by simpa [rangeD] using hl) ?_]
  · simp [restW, restE, wipeW, wipeE, keepSh, rangeD_eq, gd, List.filterMap_map, Function.comp_def, List.map_filterMap]
  · simp [fRng1_nat hl]
  · intro d hd
    rw [rangeD_eq] at hd
    obtain ⟨k, hk, rfl⟩ := List.mem_map.mp hd
    have hk' : (0 : Int) ≤ (k : Int) ∧ (k : Int) < racks.length := by
      have := List.mem_range.mp hk
      omega
    have hf := free_eq o racks K L rest lk k
    rw [if_pos hk'] at hf
    by_cases hq : long ≤ fr racks K (k : Int)
    · simp [turnC, wipeW, wipeE, hf, hq, gV]
    · simp [turnC, wipeW, wipeE, hf, hq]
end Lk18
set_option maxHeartbeats 1000000
/-! K18b: put, lend, bring. -/
namespace Lk18
open PySem PySem.W L2 Rf
open PyProof.Rows hiding St

/-- what put comes to -/
def putO (racks : List Int) (K : List KT) (L : List LT) (name : Str) (long : Int) : Str ⊕ Int :=
  if name = "" ∨ (lookL K name).isSome ∨ (lookL L name).isSome then .inl "BadDeed"
  else if long < 1 then .inl "BadSize"
  else match best (gd racks K long) with
    | none => .inl "NoRoom"
    | some r => .inr r
theorem put_eq (o : Ob) (racks : List Int) (K : List KT) (L : List LT) (rest : List Ob) (name : Str) (long : Int) (hn : PyData.strOk name = true) (hl : racks.length ≤ 100) (hK : K.length ≤ 100) :
    callF f_Loft_put [.obj 1, .str name, .int long] (ST o racks K L rest) [] = match putO racks K L name long with
      | .inl x => .ex ⟨x, none⟩ ⟨[], ST o racks K L rest, []⟩
      | .inr r => .ok (.sh (.int r)) ⟨[], ST o racks (K ++ [(name, r, long)]) L rest, []⟩ := by
  rw [f_Loft_put]
  refine callF_run (env := [some (.sh (.obj 1)), some (.sh (.str name)), some (.sh (.int long)), none, none]) rfl ?_
  unfold m_Loft_put putO
  have e0 : gEq (.str name) (.str "") = some (.sh (.bl (decide (name = "")))) := gEq_str hn (by decide +kernel)
  by_cases h1 : name = ""
  · simp [h1, e0]
    subst h1
    simp [e0]
  cases h2 : (lookL K name).isSome with
  | true => simp [h1, e0, h2]
  | false =>
  cases h3 : (lookL L name).isSome with
  | true => simp [h1, e0, h2, h3]
  | false =>
  by_cases h4 : long < 1
  · simp [h1, e0, h2, h3, h4]
  have hg := lc_good o racks K L rest [] name long (by omega)
  rw [seq_nx (w' := ⟨[some (.sh (.obj 1)), some (.sh (.str name)), some (.sh (.int long)), none, none], ST o racks K L rest, []⟩) (by simp [h1, e0, h2, h3]) rfl]
  rw [seq_nx (w' := ⟨[some (.sh (.obj 1)), some (.sh (.str name)), some (.sh (.int long)), none, none], ST o racks K L rest, []⟩) (by simp [h4]) rfl]
  rw [seq_nx (w' := ⟨[some (.sh (.obj 1)), some (.sh (.str name)), some (.sh (.int long)), some (.own (.lst ((gd racks K long).map gV))), none], ST o racks K L rest, []⟩) (by rw [s_set_, hg]; simp) rfl]
  have h5 : lookL K name = none := by simpa using h2
  cases hgd : gd racks K long with
  | nil => simp [h1, h2, h3, h4, best]
  | cons p r =>
    have hq : ¬ ((p :: r : List (Int × Int)) = []) := by simp
    have hp : putD (sm kV K) (.str name) (.tup [.int (bst p r).2, .int long]) = sm kV (K ++ [(name, (bst p r).2, long)]) := by
      rw [← putL_new h5]
      exact putD_sm (g := kV) K name ((bst p r).2, long)
    simp only [List.map_cons]
    have eg : gEq (.lst (gV p :: r.map gV)) (.lst []) = some (.sh (.bl false)) := by
      have := gEq_gd (p :: r)
      simpa using this
    have hK2 : K.length < 16777216 := by omega
    simp [h1, h2, h3, h4, eg, best, gMin_gV, atI, ixN, hp, sizeLt_dec, hK2]
end Lk18
set_option maxHeartbeats 1000000
/-! K18c: lend, bring, shown, the greatest. -/
namespace Lk18
open PySem PySem.W L2 Rf
open PyProof.Rows hiding St

theorem lend_none (o : Ob) (racks : List Int) (K : List KT) (L : List LT) (rest : List Ob) (name who : Str) (h : lookL K name = none) :
    callF f_Loft_lend [.obj 1, .str name, .str who] (ST o racks K L rest) [] = .ex ⟨"NoSuch", none⟩ ⟨[], ST o racks K L rest, []⟩ := by
  rw [f_Loft_lend]
  refine callF_run (env := [some (.sh (.obj 1)), some (.sh (.str name)), some (.sh (.str who))]) rfl ?_
  unfold m_Loft_lend
  simp [h]
theorem lend_who (o : Ob) (racks : List Int) (K : List KT) (L : List LT) (rest : List Ob) (name : Str) {q : Int × Int} (h : lookL K name = some q) :
    callF f_Loft_lend [.obj 1, .str name, .str ""] (ST o racks K L rest) [] = .ex ⟨"BadDeed", none⟩ ⟨[], ST o racks K L rest, []⟩ := by
  rw [f_Loft_lend]
  refine callF_run (env := [some (.sh (.obj 1)), some (.sh (.str name)), some (.sh (.str ""))]) rfl ?_
  unfold m_Loft_lend
  have e : gEq (.str "") (.str "") = some (.sh (.bl true)) := by rw [gEq_str (by decide +kernel) (by decide +kernel)]; simp
  simp [h, e]
theorem lend_ok (o : Ob) (racks : List Int) (K : List KT) (L : List LT) (rest : List Ob) (name who : Str) {q : Int × Int} (h : lookL K name = some q) (hw : PyData.strOk who = true) (hn : who ≠ "") (hl : lookL L name = none) (hL : L.length ≤ 100) :
    callF f_Loft_lend [.obj 1, .str name, .str who] (ST o racks K L rest) [] = .ok (.sh .non) ⟨[], ST o racks (dropL K name) (L ++ [(name, who, q.2)]) rest, []⟩ := by
  rw [f_Loft_lend]
  refine callF_run (env := [some (.sh (.obj 1)), some (.sh (.str name)), some (.sh (.str who))]) rfl ?_
  unfold m_Loft_lend
  have e : gEq (.str who) (.str "") = some (.sh (.bl false)) := by rw [gEq_str hw (by decide +kernel)]; simp [hn]
  have hp : putD (sm lV L) (.str name) (.tup [.str who, .int q.2]) = sm lV (L ++ [(name, who, q.2)]) := by
    rw [← putL_new hl]
    exact putD_sm (g := lV) L name (who, q.2)
  have hL2 : L.length < 16777216 := by omega
  simp [h, e, kV, atI, ixN, hp, sizeLt_dec, hL2]
theorem bring_none (o : Ob) (racks : List Int) (K : List KT) (L : List LT) (rest : List Ob) (name : Str) (h : lookL L name = none) :
    callF f_Loft_bring [.obj 1, .str name] (ST o racks K L rest) [] = .ex ⟨"NoSuch", none⟩ ⟨[], ST o racks K L rest, []⟩ := by
  rw [f_Loft_bring]
  refine callF_run (env := [some (.sh (.obj 1)), some (.sh (.str name)), none, none]) rfl ?_
  unfold m_Loft_bring
  simp [h]
theorem bring_eq (o : Ob) (racks : List Int) (K : List KT) (L : List LT) (rest : List Ob) (name who : Str) (long : Int) (h : lookL L name = some (who, long)) (hk : lookL K name = none) (hn : PyData.strOk name = true) (hne : name ≠ "") (h1 : 1 ≤ long) (hl : racks.length ≤ 100) (hK : K.length ≤ 100) (hL : L.length ≤ 100) :
    callF f_Loft_bring [.obj 1, .str name] (ST o racks K L rest) [] = match best (gd racks K long) with
      | none => .ex ⟨"NoRoom", none⟩ ⟨[], ST o racks K (dropL L name ++ [(name, who, long)]) rest, []⟩
      | some r => .ok (.sh (.int r)) ⟨[], ST o racks (K ++ [(name, r, long)]) (dropL L name) rest, []⟩ := by
  rw [f_Loft_bring]
  refine callF_run (env := [some (.sh (.obj 1)), some (.sh (.str name)), none, none]) rfl ?_
  unfold m_Loft_bring
  have hd : lookL (dropL L name) name = none := by rw [lookL_drop]; simp
  have hput := put_eq o racks K (dropL L name) rest name long hn hl hK
  have h4 : ¬ long < 1 := by omega
  have hp : putD (sm lV (dropL L name)) (.str name) (.tup [.str who, .int long]) = sm lV (dropL L name ++ [(name, who, long)]) := by
    rw [← putL_new hd]
    exact putD_sm (g := lV) (dropL L name) name (who, long)
  have hL2 : (dropL L name).length < 16777216 := by
    have : (dropL L name).length ≤ L.length := List.length_filter_le _ _
    omega
  unfold putO at hput
  rw [if_neg (by simp [hne, hk, hd]), if_neg h4] at hput
  cases hb : best (gd racks K long) with
  | none =>
    rw [hb] at hput
    simp [h, lV, hput, hp, sizeLt_dec, hL2]
  | some r =>
    rw [hb] at hput
    simp [h, lV, hput]
theorem shown_eq (o : Ob) (racks : List Int) (K : List KT) (L : List LT) (rest : List Ob) (hK : sortOk (itemsD (sm kV K)) = true) (hL : sortOk (itemsD (sm lV L)) = true) :
    callF f_Loft_shown [.obj 1] (ST o racks K L rest) [] = .ok (.sh (.tup [.tup (sortD (itemsD (sm kV K))), .tup (sortD (itemsD (sm lV L)))])) ⟨[], ST o racks K L rest, []⟩ := by
  rw [f_Loft_shown]
  refine callF_run (env := [some (.sh (.obj 1))]) rfl ?_
  unfold m_Loft_shown
  simp [hK, hL]
theorem frees_fits (racks : List Int) (K : List KT) : ∀ d ∈ (List.range racks.length).map (fun k => D.int (fr racks K (k : Nat))), fits .i d = true := by
  intro d hd
  obtain ⟨k, _, rfl⟩ := List.mem_map.mp hd
  rfl
theorem longest_eq (o : Ob) (racks : List Int) (K : List KT) (L : List LT) (rest : List Ob) (hl : racks.length ≤ 100) :
    callF f_Loft_longest_free [.obj 1] (ST o racks K L rest) [] = match gMax [.lst ((List.range racks.length).map fun k => D.int (fr racks K (k : Nat)))] with
      | some (.sh (.int i)) => .ok (.sh (.int i)) ⟨[], ST o racks K L rest, []⟩
      | _ => .no := by
  rw [f_Loft_longest_free]
  refine callF_run (env := [some (.sh (.obj 1)), none]) rfl ?_
  unfold m_Loft_longest_free
  have hl2 : racks.length ≤ 16777216 := by omega
  have he : eLc (iArg fRng1 (aCons (eCall gLen (aCons (eFld okf (eVar 0) "racks") aNil)) aNil)) [1] (gtName 1) mYes (eEsc (eMeth "Loft" "free" 2 f_Loft_free (eVar 0) (aCons (eEsc (eVar 1)) aNil))) ⟨[some (.sh (.obj 1)), none], ST o racks K L rest, []⟩ = .ok (.own (.lst ((List.range racks.length).map fun k => D.int (fr racks K (k : Nat))))) ⟨[some (.sh (.obj 1)), none], ST o racks K L rest, []⟩ := by
    rw [eLc_pure (src := .pur) (ds := rangeD 0 racks.length) (w1 := ⟨[some (.sh (.obj 1)), none], ST o racks K L rest, []⟩) (fun d => match d with
      | .int k => some (.int (fr racks K k))
      | _ => none) ?_ rfl (by simpa [rangeD] using hl2) ?_]
    · simp [restW, restE, wipeW, wipeE, keepSh, rangeD_eq, List.filterMap_map, Function.comp_def]
    · simp [fRng1_nat hl2]
    · intro d hd
      rw [rangeD_eq] at hd
      obtain ⟨k, hk, rfl⟩ := List.mem_map.mp hd
      have hk' : (0 : Int) ≤ (k : Int) ∧ (k : Int) < racks.length := by
        have := List.mem_range.mp hk
        omega
      have hf := free_eq o racks K L rest [] k
      rw [if_pos hk'] at hf
      simp [turnC, wipeW, wipeE, hf]
  rw [s_ret_]
  simp only [e_call, a_cons, a_nil, he, bind_ok, dAll_cons, dAll_nil, R_d_own]
  cases hm : gMax [.lst ((List.range racks.length).map fun k => D.int (fr racks K (k : Nat)))] with
  | none => rfl
  | some r =>
    have : ∃ i, r = .sh (.int i) := by
      cases e : (List.range racks.length).map (fun k => D.int (fr racks K (k : Nat))) with
      | nil => rw [e] at hm; cases hm
      | cons d ds =>
        rw [e, gMax_lst] at hm
        split at hm
        · have hm := (Option.some.inj hm).symm
          have h2 := maxDD_mem d ds
          rw [← e] at h2
          obtain ⟨k, _, z⟩ := List.mem_map.mp h2
          exact ⟨_, by rw [hm, ← z]⟩
        · cases hm
    obtain ⟨i, rfl⟩ := this
    rfl
end Lk18
set_option maxHeartbeats 1000000
/-! K18d: what is owed; damp; moths; the loft made. -/
namespace Lk18
open PySem PySem.W L2 Rf
open PyProof.Rows hiding St

def tV (l : List Str) : D := .tup (l.map D.str)
/-- who has it -/
def whoOf (L : List LT) (n : Str) : Str := ((lookL L n).map (·.1)).getD ""
def names (L : List LT) : List Str := L.map (·.1)
theorem keys_sm {β : Type} {g : β → D} (l : List (Str × β)) : keysD' (dm D.str g l) = (l.map (·.1)).map D.str := by
  rw [keys_dm, List.map_map]; rfl
theorem sortOk_strs {l : List Str} (h : ∀ x ∈ l, PyData.strOk x = true) (hl : l.length ≤ 16777216) : sortOk (l.map D.str) = true := sortOk_flat (s := .s) (.inr rfl) (strs_fits h) (by simpa using hl)
/-- the people, in order, with what they have -/
def owedL (L : List LT) : List D := (sortS (ones ((names L).map (whoOf L)) |>.map (·.1))).map fun w => .tup [.str w, tV ((sortS (names L)).filter fun n => decide (whoOf L n = w))]
theorem owed_loop (o : Ob) (racks : List Int) (K : List KT) (L : List LT) (rest : List Ob) (ns : List Str) (hns : ∀ n ∈ ns, n ∈ names L) (hl : ns.length ≤ 100) :
    ∃ x, sForL .pur (gtName 2) (sPut (eVar 1) (eBin gIx (eBin gIx (eFld okf (eVar 0) "lent") (eVar 2)) (eC (.int 0))) (eEsc (eBin gAdd (eDGet2 (eVar 1) (eBin gIx (eBin gIx (eFld okf (eVar 0) "lent") (eVar 2)) (eC (.int 0))) (eTup aNil)) (eTup (aCons (eEsc (eVar 2)) aNil))))) (ns.map D.str)
      ⟨[some (.sh (.obj 1)), some (.own (.dct false [])), none], ST o racks K L rest, []⟩ = .ok .nx ⟨[some (.sh (.obj 1)), some (.own (.dct false (dm D.str tV (group (whoOf L) ns)))), x], ST o racks K L rest, []⟩ := by
  let emb : List (Str × List Str) × Option S → W := fun s => ⟨[some (.sh (.obj 1)), some (.own (.dct false (dm D.str tV s.1))), s.2], ST o racks K L rest, []⟩
  let f : List (Str × List Str) × Option S → D → List (Str × List Str) × Option S := fun s d => match d with
    | .str n => (putL s.1 (whoOf L n) ((lookL s.1 (whoOf L n)).getD [] ++ [n]), some (.sh (.str n)))
    | _ => s
  have key : ∀ (ns : List Str) (acc : List (Str × List Str)) (x : Option S), (∀ n ∈ ns, n ∈ names L) → (∀ p ∈ acc, p.2.length + ns.length ≤ 100) → acc.length + ns.length ≤ 100 → ns.length ≤ 100 → ∃ x', sForL .pur (gtName 2) (sPut (eVar 1) (eBin gIx (eBin gIx (eFld okf (eVar 0) "lent") (eVar 2)) (eC (.int 0))) (eEsc (eBin gAdd (eDGet2 (eVar 1) (eBin gIx (eBin gIx (eFld okf (eVar 0) "lent") (eVar 2)) (eC (.int 0))) (eTup aNil)) (eTup (aCons (eEsc (eVar 2)) aNil))))) (ns.map D.str) (emb (acc, x)) =
      .ok .nx (emb (ns.foldl (fun acc n => putL acc (whoOf L n) ((lookL acc (whoOf L n)).getD [] ++ [n])) acc, x')) := by
    intro ns
    induction ns with
    | nil => intro acc x _ _ _ _; exact ⟨x, sForL_nil rfl⟩
    | cons n r ih =>
      intro acc x h1 h2 h3 h4
      rw [List.map_cons, sForL_cons rfl]
      have hm := h1 n (.head _)
      obtain ⟨q, hq⟩ := Option.isSome_iff_exists.mp ((mem_keys L n).mp hm)
      have hw : whoOf L n = q.1 := by simp [whoOf, hq]
      have hlen : ((lookL acc q.1).getD []).length ≤ 100 := by
        cases e : lookL acc q.1 with
        | none => simp
        | some l =>
          have := h2 _ (lookL_mem e)
          simp at this ⊢
          omega
      have hlen2 : ((lookL acc q.1).getD []).length + 1 ≤ 16777216 := by omega
      have ha : acc.length < 16777216 := by omega
      have hp : putD (dm D.str tV acc) (.str q.1) (.tup (((lookL acc q.1).getD []).map D.str ++ [.str n])) = dm D.str tV (putL acc q.1 ((lookL acc q.1).getD [] ++ [n])) := by
        rw [← putD_sm]
        simp [tV]
      have step : turnF (gtName 2) (sPut (eVar 1) (eBin gIx (eBin gIx (eFld okf (eVar 0) "lent") (eVar 2)) (eC (.int 0))) (eEsc (eBin gAdd (eDGet2 (eVar 1) (eBin gIx (eBin gIx (eFld okf (eVar 0) "lent") (eVar 2)) (eC (.int 0))) (eTup aNil)) (eTup (aCons (eEsc (eVar 2)) aNil))))) (.str n) (emb (acc, x)) = .ok .nx (emb (putL acc (whoOf L n) ((lookL acc (whoOf L n)).getD [] ++ [n]), some (.sh (.str n)))) := by
        rw [hw]
        cases e : lookL acc q.1 with
        | none =>
          rw [e] at hp
          simp at hp
          simp [turnF, emb, hq, lV, atI, ixN, e, hp, sizeLt_dec, ha]
        | some l =>
          rw [e] at hp hlen2
          simp at hp hlen2
          simp [turnF, emb, hq, lV, atI, ixN, e, tV, hp, sizeLt_dec, sizeOk_dec, ha, hlen2]
      rw [step]
      refine ih _ _ (fun m hm => h1 m (.tail _ hm)) (fun p hp => ?_) ?_ (by simp at h4; omega)
      · unfold Rf.putL at hp
        split at hp
        · obtain ⟨p0, hp0, rfl⟩ := List.mem_map.mp hp
          have := h2 p0 hp0
          simp at this
          split
          · rw [hw]; simp; cases e : lookL acc q.1 with
            | none => simp at h4 ⊢; omega
            | some l => have := h2 _ (lookL_mem e); simp at this ⊢; omega
          · omega
        · rcases List.mem_append.mp hp with hp | hp
          · have := h2 p hp; simp at this; omega
          · simp at hp
            rw [hp, hw]
            cases e : lookL acc q.1 with
            | none => simp at h4 ⊢; omega
            | some l => have := h2 _ (lookL_mem e); simp at this ⊢; omega
      · unfold Rf.putL
        split
        · simp at h3 ⊢; omega
        · simp at h3 ⊢; omega
  obtain ⟨x', h⟩ := key ns [] none hns (fun p hp => by cases hp) (by simpa using hl) hl
  exact ⟨x', h⟩
theorem owed_eq (o : Ob) (racks : List Int) (K : List KT) (L : List LT) (rest : List Ob) (hn : (names L).Nodup) (ok : ∀ n ∈ names L, PyData.strOk n = true) (okw : ∀ p ∈ L, PyData.strOk p.2.1 = true) (hl : L.length ≤ 100) :
    callF f_Loft_owed [.obj 1] (ST o racks K L rest) [] = .ok (.sh (.tup (owedL L))) ⟨[], ST o racks K L rest, []⟩ := by
  rw [f_Loft_owed]
  refine callF_run (env := [some (.sh (.obj 1)), none, none]) rfl ?_
  unfold m_Loft_owed
  have hl2 : (names L).length ≤ 100 := by simpa [names] using hl
  have hs : sortOk (keysD' (sm lV L)) = true := by
    rw [keys_sm]; exact sortOk_strs ok (by simpa [names] using Nat.le_trans hl2 (by decide))
  obtain ⟨x, hf⟩ := owed_loop o racks K L rest (sortS (names L)) (fun n h => mem_sortS.mp h) (by simpa using hl2)
  have hg : sortD (itemsD (dm D.str tV (group (whoOf L) (sortS (names L))))) = owedL L := by
    have wok : ∀ w ∈ (names L).map (whoOf L), PyData.strOk w = true := by
      intro w hw
      obtain ⟨n, hn, rfl⟩ := List.mem_map.mp hw
      obtain ⟨q, hq⟩ := Option.isSome_iff_exists.mp ((mem_keys L n).mp hn)
      have := okw _ (lookL_mem hq)
      simpa [whoOf, hq] using this
    refine sort_items (s := .h .s) (ks := (ones ((names L).map (whoOf L))).map (·.1)) (f := fun w => (sortS (names L)).filter fun n => decide (whoOf L n = w)) (group_keys _ _) (fun w => ?_) (ones_keys _) (fun w hw => ?_) (fun w hw => wok w ((ones_mem _ _).mp hw)) fun w hw => ?_
    · rw [group_mem, ones_mem]
      simp only [List.mem_map, mem_sortS]
    · rw [group_look, if_neg]
      intro z
      obtain ⟨n, hn, e⟩ := List.mem_map.mp ((ones_mem _ _).mp hw)
      have := List.filter_eq_nil_iff.mp z n (mem_sortS.mpr hn)
      simp [e] at this
    · refine fitsA_iff.mpr fun d hd => ?_
      obtain ⟨n, hn, rfl⟩ := List.mem_map.mp hd
      exact ok n (mem_sortS.mp (List.mem_filter.mp hn).1)
  have ho : sortOk (itemsD (dm D.str tV (group (whoOf L) (sortS (names L))))) = true := by
    refine sortOk_tup (a := .s) (l := [.h .s]) (by decide) (fun d hd => ?_) ?_
    · rw [← mem_sortD, hg] at hd
      obtain ⟨w, hw, rfl⟩ := List.mem_map.mp hd
      have hw := mem_sortS.mp hw
      obtain ⟨n, hn, e⟩ := List.mem_map.mp ((ones_mem _ _).mp hw)
      obtain ⟨q, hq⟩ := Option.isSome_iff_exists.mp ((mem_keys L n).mp hn)
      have e1 := okw _ (lookL_mem hq)
      have e2 : whoOf L n = q.1 := by simp [whoOf, hq]
      have e3 : fits .s (.str w) = true := by rw [← e, e2]; exact e1
      have e4 : fits (.h .s) (tV ((sortS (names L)).filter fun n => decide (whoOf L n = w))) = true := by
        refine fitsA_iff.mpr fun d hd => ?_
        obtain ⟨n, hn, rfl⟩ := List.mem_map.mp hd
        exact ok n (mem_sortS.mp (List.mem_filter.mp hn).1)
      show (fits .s (.str w) && (fits (.h .s) (tV _) && true)) = true
      rw [e3, e4]; rfl
    · have : (itemsD (dm D.str tV (group (whoOf L) (sortS (names L))))).length = (owedL L).length := by rw [← hg, length_sortD]
      rw [this]
      unfold owedL
      rw [List.length_map, length_sortS, List.length_map]
      have key : ∀ (ws : List Str) (acc : List (Str × Int)), ((ws.map fun w => (w, (1 : Int))).foldl (fun acc p => putL acc p.1 p.2) acc).length ≤ acc.length + ws.length := by
        intro ws
        induction ws with
        | nil => intro acc; simp
        | cons w r ih =>
          intro acc
          rw [List.map_cons, List.foldl_cons]
          refine Nat.le_trans (ih _) ?_
          unfold Rf.putL
          split <;> simp <;> omega
      have := key ((names L).map (whoOf L)) []
      simp only [List.length_nil, List.length_map] at this
      unfold ones mergeL
      omega
  have hk : sortD (keysD' (sm lV L)) = (sortS (names L)).map D.str := by rw [keys_sm]; exact sortS_eq _
  simp [hs, hk, hf, ho, hg]
end Lk18
set_option maxHeartbeats 1000000
/-! K18e: damp; moths; the loft made. -/
namespace Lk18
open PySem PySem.W L2 Rf
open PyProof.Rows hiding St

/-! ### the loft made -/
theorem init_none (st : List Ob) (lk : List Nat) (n : Nat) : callF f_Loft___init__ [.obj n, .lst []] st lk = .ex ⟨"BadPlan", none⟩ ⟨[], st, lk⟩ := by
  rw [f_Loft___init__]
  refine callF_run (env := [some (.sh (.obj n)), some (.sh (.lst []))]) rfl ?_
  unfold m_Loft___init__
  simp
theorem init_eq (o : Ob) (r : Int) (rs : List Int) (h : ∀ x ∈ r :: rs, 1 ≤ x) : callF f_Loft___init__ [.obj 1, .lst ((r :: rs).map .int)] [o, .ins "Loft" []] [] = .ok (.sh .non) ⟨[], ST o (r :: rs) [] [] [], []⟩ := by
  rw [f_Loft___init__]
  refine callF_run (env := [some (.sh (.obj 1)), some (.sh (.lst ((r :: rs).map .int)))]) rfl ?_
  unfold m_Loft___init__
  have hc : cmpOk ((r :: rs).map D.int) = true := cmpOk_of (s := .i) (by decide) ⟨rfl, trivial⟩ fun d hd => by
    obtain ⟨x, _, rfl⟩ := List.mem_map.mp hd
    rfl
  have hm := minDD_mem (.int r) (rs.map D.int)
  rw [show D.int r :: rs.map D.int = (r :: rs).map D.int from rfl] at hm
  obtain ⟨x, hx, e⟩ := List.mem_map.mp hm
  have hx1 := h x hx
  have hg : gMin [.lst (D.int r :: rs.map D.int)] = some (.sh (.int x)) := by
    rw [gMin_lst, if_pos (show cmpOk (D.int r :: rs.map D.int) = true from hc), e]
  have h1 : ¬ x < 1 := by omega
  have h2 : ¬ ((rs.length : Int) + 1 = 0) := by omega
  simp [hg, h1, h2]
/-! ### damp -/
def itN (f : Int → Int) : Nat → Int → Int
  | 0, h => h
  | n + 1, h => itN f n (f h)
def stepL (air h : Int) : Int := if h ≤ air then h else (if h - (if (h - air).fdiv 10 > 1 then (h - air).fdiv 10 else 1) > air then h - (if (h - air).fdiv 10 > 1 then (h - air).fdiv 10 else 1) else air)
theorem stepP_eq (air h : Int) : (let a := if air < h then air else h; let b := h - (if (h - air).fdiv 10 > 1 then (h - air).fdiv 10 else 1); if b > a then b else a) = stepL air h := by
  unfold stepL
  simp only
  generalize (h - air).fdiv 10 = q
  by_cases h1 : h ≤ air
  · have : ¬ air < h := by omega
    rw [if_pos h1, if_neg this]
    by_cases h2 : q > 1
    · rw [if_pos h2, if_neg (by omega)]
    · rw [if_neg h2, if_neg (by omega)]
  · have : air < h := by omega
    rw [if_neg h1, if_pos this]
abbrev DM := List (Str × Int)
theorem damp_inner (M : DM) (air hours : Int) (F : DM) (name : Str) (st : List Ob) (lk : List Nat) : ∀ (ds : List D) (h : Int) (x : Option S), ∃ x', sForL .pur (gtName 6) (sSet 5 (eCall gMax (aCons (eCall gMin (aCons (eVar 5) (aCons (eVar 1) aNil))) (aCons (eBin gSub (eVar 5) (eCall gMax (aCons (eC (.int 1)) (aCons (eBin gDiv (eBin gSub (eVar 5) (eVar 1)) (eC (.int 10))) aNil)))) aNil)))) ds
      ⟨[some (.sh (.dct false (sm D.int M))), some (.sh (.int air)), some (.sh (.int hours)), some (.own (.dct false (sm D.int F))), some (.sh (.str name)), some (.sh (.int h)), x], st, lk⟩ =
    .ok .nx ⟨[some (.sh (.dct false (sm D.int M))), some (.sh (.int air)), some (.sh (.int hours)), some (.own (.dct false (sm D.int F))), some (.sh (.str name)), some (.sh (.int (itN (stepL air) ds.length h))), x'], st, lk⟩
  | [], h, x => ⟨x, sForL_nil rfl⟩
  | d :: ds, h, x => by
    obtain ⟨x', ih⟩ := damp_inner M air hours F name st lk ds (stepL air h) (some (.sh d))
    refine ⟨x', ?_⟩
    rw [sForL_cons rfl]
    have step : turnF (gtName 6) (sSet 5 (eCall gMax (aCons (eCall gMin (aCons (eVar 5) (aCons (eVar 1) aNil))) (aCons (eBin gSub (eVar 5) (eCall gMax (aCons (eC (.int 1)) (aCons (eBin gDiv (eBin gSub (eVar 5) (eVar 1)) (eC (.int 10))) aNil)))) aNil)))) d
      ⟨[some (.sh (.dct false (sm D.int M))), some (.sh (.int air)), some (.sh (.int hours)), some (.own (.dct false (sm D.int F))), some (.sh (.str name)), some (.sh (.int h)), x], st, lk⟩ = .ok .nx ⟨[some (.sh (.dct false (sm D.int M))), some (.sh (.int air)), some (.sh (.int hours)), some (.own (.dct false (sm D.int F))), some (.sh (.str name)), some (.sh (.int (stepL air h))), some (.sh d)], st, lk⟩ := by
      rw [← stepP_eq]
      simp [turnF]
    rw [step]
    exact ih
def dampL (air hours : Int) (M : DM) : DM := (sortS (M.map (·.1))).map fun n => (n, itN (stepL air) hours.toNat ((lookL M n).getD 0))
theorem damp_outer (M : DM) (air hours : Int) (h0 : 0 ≤ hours) (h1 : hours ≤ 100) (st : List Ob) (lk : List Nat) : ∀ (ns : List Str) (F : DM) (x y z : Option S), (∀ n ∈ ns, n ∈ M.map (·.1)) → (F.map (·.1) ++ ns).Nodup → F.length + ns.length ≤ 100 → ∃ x' y' z', sForL .pur (gtName 4) (sSeq (sSet 5 (eBin gIx (eVar 0) (eVar 4)))
  (sSeq (sFor (iArg fRng1 (aCons (eVar 2) aNil)) (gtName 6) (sSet 5 (eCall gMax (aCons (eCall gMin (aCons (eVar 5) (aCons (eVar 1) aNil))) (aCons (eBin gSub (eVar 5) (eCall gMax (aCons (eC (.int 1)) (aCons (eBin gDiv (eBin gSub (eVar 5) (eVar 1)) (eC (.int 10))) aNil)))) aNil)))))
  (sPut (eVar 3) (eVar 4) (eEsc (eVar 5))))) (ns.map D.str)
      ⟨[some (.sh (.dct false (sm D.int M))), some (.sh (.int air)), some (.sh (.int hours)), some (.own (.dct false (sm D.int F))), x, y, z], st, lk⟩ =
    .ok .nx ⟨[some (.sh (.dct false (sm D.int M))), some (.sh (.int air)), some (.sh (.int hours)), some (.own (.dct false (sm D.int (F ++ ns.map fun n => (n, itN (stepL air) hours.toNat ((lookL M n).getD 0)))))), x', y', z'], st, lk⟩
  | [], F, x, y, z, _, _, _ => ⟨x, y, z, by rw [List.map_nil, List.map_nil, List.append_nil]; exact sForL_nil rfl⟩
  | n :: ns, F, x, y, z, hm, hd, hl => by
    obtain ⟨v, hv⟩ := Option.isSome_iff_exists.mp ((mem_keys M n).mp (hm n (.head _)))
    have hnF : lookL F n = none := lookL_none.mpr fun p hp e => by
      rw [List.nodup_append] at hd
      exact hd.2.2 p.1 (List.mem_map.mpr ⟨p, hp, rfl⟩) n (.head _) e
    have hr : fRng1 [.int hours] = some (rangeD 0 hours.toNat) := fRng1_of h0 (by omega)
    obtain ⟨w, hi⟩ := damp_inner M air hours F n st lk (rangeD 0 hours.toNat) v z
    obtain ⟨x', y', z', ih⟩ := damp_outer M air hours h0 h1 st lk ns (F ++ [(n, itN (stepL air) hours.toNat v)]) (some (.sh (.str n))) (some (.sh (.int (itN (stepL air) hours.toNat v)))) w (fun m hm' => hm m (.tail _ hm')) (by simpa using hd) (by simp at hl ⊢; omega)
    refine ⟨x', y', z', ?_⟩
    rw [List.map_cons, sForL_cons rfl]
    have hp : putD (sm D.int F) (.str n) (.int (itN (stepL air) hours.toNat v)) = sm D.int (F ++ [(n, itN (stepL air) hours.toNat v)]) := by
      rw [← putL_new hnF]
      exact putD_sm (g := D.int) F n _
    have hF : F.length < 16777216 := by simp at hl; omega
    have hlen : (rangeD 0 hours.toNat).length = hours.toNat := by simp [rangeD]
    rw [hlen] at hi
    have step : turnF (gtName 4) (sSeq (sSet 5 (eBin gIx (eVar 0) (eVar 4)))
  (sSeq (sFor (iArg fRng1 (aCons (eVar 2) aNil)) (gtName 6) (sSet 5 (eCall gMax (aCons (eCall gMin (aCons (eVar 5) (aCons (eVar 1) aNil))) (aCons (eBin gSub (eVar 5) (eCall gMax (aCons (eC (.int 1)) (aCons (eBin gDiv (eBin gSub (eVar 5) (eVar 1)) (eC (.int 10))) aNil)))) aNil)))))
  (sPut (eVar 3) (eVar 4) (eEsc (eVar 5))))) (.str n) ⟨[some (.sh (.dct false (sm D.int M))), some (.sh (.int air)), some (.sh (.int hours)), some (.own (.dct false (sm D.int F))), x, y, z], st, lk⟩ =
      .ok .nx ⟨[some (.sh (.dct false (sm D.int M))), some (.sh (.int air)), some (.sh (.int hours)), some (.own (.dct false (sm D.int (F ++ [(n, itN (stepL air) hours.toNat v)])))), some (.sh (.str n)), some (.sh (.int (itN (stepL air) hours.toNat v))), w], st, lk⟩ := by
      unfold turnF
      simp only [gt_name, List.set_cons_succ, List.set_cons_zero]
      rw [seq_nx (w' := ⟨[some (.sh (.dct false (sm D.int M))), some (.sh (.int air)), some (.sh (.int hours)), some (.own (.dct false (sm D.int F))), some (.sh (.str n)), some (.sh (.int v)), z], st, lk⟩) (by simp [hv]) rfl]
      rw [seq_nx (w' := ⟨[some (.sh (.dct false (sm D.int M))), some (.sh (.int air)), some (.sh (.int hours)), some (.own (.dct false (sm D.int F))), some (.sh (.str n)), some (.sh (.int (itN (stepL air) hours.toNat v))), w], st, lk⟩) (by rw [s_for_]; simp only [i_arg_, a_cons, a_nil, e_var, bind_ok, dAll_cons, dAll_nil, R_d_sh, deref_int, List.getElem?_cons_succ, List.getElem?_cons_zero, Option.bind_some, hr]; exact hi) rfl]
      simp [hp, sizeLt_dec, hF]
    rw [step]
    simp only
    rw [ih]
    simp [hv]
theorem damp_eq (M : DM) (air hours : Int) (ha : 0 ≤ air) (h0 : 0 ≤ hours) (h1 : hours ≤ 100) (hn : (M.map (·.1)).Nodup) (ok : ∀ n ∈ M.map (·.1), PyData.strOk n = true) (hl : M.length ≤ 100) (st : List Ob) (lk : List Nat) :
    callF f_damp_left [.dct false (sm D.int M), .int air, .int hours] st lk = .ok (.own (.dct false (sm D.int (dampL air hours M)))) ⟨[], st, lk⟩ := by
  rw [f_damp_left]
  refine callF_run (env := [some (.sh (.dct false (sm D.int M))), some (.sh (.int air)), some (.sh (.int hours)), none, none, none, none]) rfl ?_
  unfold m_damp_left
  have hs : sortOk (keysD' (sm D.int M)) = true := by rw [keys_sm]; exact sortOk_strs ok (by simpa using Nat.le_trans hl (by decide))
  have hk : sortD (keysD' (sm D.int M)) = (sortS (M.map (·.1))).map D.str := by rw [keys_sm]; exact sortS_eq _
  obtain ⟨x, y, z, hf⟩ := damp_outer M air hours h0 h1 st lk (sortS (M.map (·.1))) [] none none none (fun n h => mem_sortS.mp h) (by simpa using sortS_nodup hn) (by simpa using hl)
  have e1 : ¬ air < 0 := by omega
  have e2 : ¬ hours < 0 := by omega
  rw [seq_nx (w' := ⟨[some (.sh (.dct false (sm D.int M))), some (.sh (.int air)), some (.sh (.int hours)), none, none, none, none], st, lk⟩) (by simp [e1, e2]) rfl]
  rw [seq_nx (w' := ⟨[some (.sh (.dct false (sm D.int M))), some (.sh (.int air)), some (.sh (.int hours)), some (.own (.dct false [])), none, none, none], st, lk⟩) (by simp) rfl]
  rw [seq_nx (w' := ⟨[some (.sh (.dct false (sm D.int M))), some (.sh (.int air)), some (.sh (.int hours)), some (.own (.dct false (sm D.int (dampL air hours M)))), x, y, z], st, lk⟩) (by rw [s_for_]; simp [hs, hk]; exact hf) rfl]
  simp
theorem damp_size (air hours : Int) (ha : air < 0) (M : List (D × D)) (st : List Ob) (lk : List Nat) : callF f_damp_left [.dct false M, .int air, .int hours] st lk = .ex ⟨"BadSize", none⟩ ⟨[], st, lk⟩ := by
  rw [f_damp_left]
  refine callF_run (env := [some (.sh (.dct false M)), some (.sh (.int air)), some (.sh (.int hours)), none, none, none, none]) rfl ?_
  unfold m_damp_left
  simp [ha]
/-! ### moths -/
def mp : Nat → Int → Int → Int → Int → Option Int
  | 0, _, _, _, day => some day
  | n + 1, days, holes, here, day => if here < holes then (if days < day + 7 then none else mp n days holes (here * 2) (day + 7)) else some day
theorem moth_loop (days holes : Int) (st : List Ob) (lk : List Nat) : ∀ (n f : Nat) (here day : Int), holes ≤ here * 2 ^ n → n < f →
    (∃ h2 d2, mp (n + 1) days holes here day = some d2 ∧ sWhile (eTest (eBin gLt (eVar 2) (eVar 1))) (sSeq (sAug 3 gAddI (eC (.int 7)))
  (sSeq (sIf (eTest (eBin gGt (eVar 3) (eVar 0))) (sRaise "NoWay" (eC (.str "not by then"))) sSkip)
  (sAug 2 gMulI (eC (.int 2))))) f ⟨[some (.sh (.int days)), some (.sh (.int holes)), some (.sh (.int here)), some (.sh (.int day))], st, lk⟩ = .ok .nx ⟨[some (.sh (.int days)), some (.sh (.int holes)), some (.sh (.int h2)), some (.sh (.int d2))], st, lk⟩) ∨
    (mp (n + 1) days holes here day = none ∧ ∃ e, sWhile (eTest (eBin gLt (eVar 2) (eVar 1))) (sSeq (sAug 3 gAddI (eC (.int 7)))
  (sSeq (sIf (eTest (eBin gGt (eVar 3) (eVar 0))) (sRaise "NoWay" (eC (.str "not by then"))) sSkip)
  (sAug 2 gMulI (eC (.int 2))))) f ⟨[some (.sh (.int days)), some (.sh (.int holes)), some (.sh (.int here)), some (.sh (.int day))], st, lk⟩ = .ex ⟨"NoWay", none⟩ ⟨e, st, lk⟩)
  | n, 0, here, day, _, h => absurd h (Nat.not_lt_zero _)
  | n, f + 1, here, day, hh, h => by
    have s2 : smallI 2 = true := by decide
    by_cases h1 : here < holes
    · by_cases h2 : days < day + 7
      · refine .inr ⟨by simp [mp, h1, h2], [some (.sh (.int days)), some (.sh (.int holes)), some (.sh (.int here)), some (.sh (.int (day + 7)))], ?_⟩
        rw [sWhile]
        simp [h1, h2]
      · cases n with
        | zero => simp at hh; omega
        | succ n =>
          have hh2 : holes ≤ (here * 2) * 2 ^ n := by rw [Int.pow_succ] at hh; rw [Int.mul_assoc, Int.mul_comm 2]; exact hh
          have step : ∀ {r : Res Sig}, sWhile (eTest (eBin gLt (eVar 2) (eVar 1))) (sSeq (sAug 3 gAddI (eC (.int 7)))
  (sSeq (sIf (eTest (eBin gGt (eVar 3) (eVar 0))) (sRaise "NoWay" (eC (.str "not by then"))) sSkip)
  (sAug 2 gMulI (eC (.int 2))))) f ⟨[some (.sh (.int days)), some (.sh (.int holes)), some (.sh (.int (here * 2))), some (.sh (.int (day + 7)))], st, lk⟩ = r → sWhile (eTest (eBin gLt (eVar 2) (eVar 1))) (sSeq (sAug 3 gAddI (eC (.int 7)))
  (sSeq (sIf (eTest (eBin gGt (eVar 3) (eVar 0))) (sRaise "NoWay" (eC (.str "not by then"))) sSkip)
  (sAug 2 gMulI (eC (.int 2))))) (f + 1) ⟨[some (.sh (.int days)), some (.sh (.int holes)), some (.sh (.int here)), some (.sh (.int day))], st, lk⟩ = r := fun {r} hr =>
            sWhile_step (w1 := ⟨[some (.sh (.int days)), some (.sh (.int holes)), some (.sh (.int here)), some (.sh (.int day))], st, lk⟩) (by simp [h1]) (.inl (by simp [h2, s2])) hr
          have em : mp (n + 1 + 1) days holes here day = mp (n + 1) days holes (here * 2) (day + 7) := by rw [mp]; simp [h1, h2]
          rcases moth_loop days holes st lk n f (here * 2) (day + 7) hh2 (by omega) with ⟨a, b, e1, e2⟩ | ⟨e1, e, e2⟩
          · exact .inl ⟨a, b, by rw [em]; exact e1, step e2⟩
          · exact .inr ⟨by rw [em]; exact e1, e, step e2⟩
    · exact .inl ⟨here, day, by simp [mp, h1], sWhile_end (by simp [h1])⟩
theorem moth_eq (days holes : Int) (hh : holes ≤ 128) (st : List Ob) (lk : List Nat) : callF f_moth_eaten [.int days, .int holes] st lk = match mp 8 days holes 1 0 with
    | some d => .ok (.sh (.int d)) ⟨[], st, lk⟩
    | none => .ex ⟨"NoWay", none⟩ ⟨[], st, lk⟩ := by
  rw [f_moth_eaten]
  refine callF_run (env := [some (.sh (.int days)), some (.sh (.int holes)), none, none]) rfl ?_
  unfold m_moth_eaten
  rw [seq_nx (w' := ⟨[some (.sh (.int days)), some (.sh (.int holes)), some (.sh (.int 1)), some (.sh (.int 0))], st, lk⟩) (by simp) rfl]
  rcases moth_loop days holes st lk 7 fuel 1 0 (by simpa using hh) (by decide) with ⟨a, b, e1, e2⟩ | ⟨e1, e, e2⟩
  · rw [e1, seq_nx e2 rfl]
    simp
  · rw [e1, seq_ex e2]
    simp
/-- the law's weeks -/
def lw (holes : Int) (p : Int × Int) : Int × Int := if p.1 < holes then (p.1 + p.1, p.2 + 1) else p
def lw7 (holes : Int) : Int × Int := lw holes (lw holes (lw holes (lw holes (lw holes (lw holes (lw holes (1, 0)))))))
theorem moth_fin : ∀ h : Fin 90, ∀ d : Fin 60, mp 8 (d.val : Int) (h.val : Int) 1 0 = if 7 * (lw7 h.val).2 ≤ (d.val : Int) ∨ (lw7 h.val).2 = 0 then some (7 * (lw7 h.val).2) else none := by decide +kernel
theorem moth_law {days holes : Int} (h0 : 0 ≤ holes) (h1 : holes < 90) (d0 : 0 ≤ days) (d1 : days < 60) : mp 8 days holes 1 0 = if 7 * (lw7 holes).2 ≤ days ∨ (lw7 holes).2 = 0 then some (7 * (lw7 holes).2) else none := by
  have := moth_fin ⟨holes.toNat, by omega⟩ ⟨days.toNat, by omega⟩
  simp only [Int.toNat_of_nonneg h0, Int.toNat_of_nonneg d0] at this
  exact this
end Lk18
set_option maxHeartbeats 1000000
/-! K18f: the law's second part. -/
namespace Lk18
open PySem PySem.W L2 Rf
open PyProof.Rows hiding St

theorem roll_st (d : Dice) (racks : List Int) (K : List KT) (L : List LT) (rest : List Ob) (lk : List Nat) (many : Int) (h : 0 < many) (h2 : many < 1073741824) :
    callF f__law_roll [.obj 0, .int many] (ST d.o racks K L rest) lk = .ok (.sh (.int (d.r many))) ⟨[], ST (d.n many).o racks K L rest, lk⟩ := roll_eq d many _ lk h h2
abbrev e1 (L' : List LT) (fs : List Int) (x4 x5 x6 x7 x8 x9 x10 x11 x12 x13 x14 : Option S) : List (Option S) :=
  [some (.sh (.obj 0)), some (.sh (.dct false (sm lV L'))), some (.sh (.obj 1)), some (.sh (.lst (fs.map D.int))), x4, x5, x6, x7, x8, x9, x10, x11, x12, x13, x14, none, none, none]
/-- what the law needs of the lent ones -/
structure LOk (L : List LT) : Prop where
  nd : (names L).Nodup
  ok : ∀ n ∈ names L, PyData.strOk n = true
  okw : ∀ p ∈ L, PyData.strOk p.2.1 = true
  len : L.length ≤ 100
theorem who_of {L : List LT} (h : LOk L) {n : Str} (hn : n ∈ names L) : ∃ q, lookL L n = some q ∧ whoOf L n = q.1 ∧ PyData.strOk q.1 = true := by
  obtain ⟨q, hq⟩ := Option.isSome_iff_exists.mp ((mem_keys L n).mp hn)
  exact ⟨q, hq, by simp [whoOf, hq], h.okw _ (lookL_mem hq)⟩
def people (L : List LT) : List Str := (ones ((names L).map (whoOf L))).map (·.1)
theorem people_ok {L : List LT} (h : LOk L) : ∀ w ∈ people L, PyData.strOk w = true := by
  intro w hw
  obtain ⟨n, hn, rfl⟩ := List.mem_map.mp ((ones_mem _ _).mp hw)
  obtain ⟨q, _, e, o⟩ := who_of h hn
  rw [e]; exact o
theorem people_len {L : List LT} : (people L).length ≤ L.length := by
  have key : ∀ (ws : List Str) (acc : List (Str × Int)), ((ws.map fun w => (w, (1 : Int))).foldl (fun acc p => Rf.putL acc p.1 p.2) acc).length ≤ acc.length + ws.length := by
    intro ws
    induction ws with
    | nil => intro acc; simp
    | cons w r ih =>
      intro acc
      rw [List.map_cons, List.foldl_cons]
      refine Nat.le_trans (ih _) ?_
      unfold Rf.putL
      split <;> simp <;> omega
  have := key ((names L).map (whoOf L)) []
  unfold people ones mergeL
  simpa [names] using this
theorem rest_s1 {L' : List LT} (h : LOk L') (fs : List Int) (st : List Ob) (x4 x5 x6 x7 x8 x9 x10 x11 x12 x13 x14 : Option S) :
    sSet 4 (eCall gSorted (aCons (eCall gDict (aCons (eLock (eEsc (eVar 1)) (eLc (iDct keysD' (eBor 1)) [15] (gtName 15) mYes (eTup (aCons (eBin gIx (eBin gIx (eVar 1) (eVar 15)) (eC (.int 0))) (aCons (eC (.int 1)) aNil))))) aNil)) aNil)) ⟨e1 L' fs x4 x5 x6 x7 x8 x9 x10 x11 x12 x13 x14, st, []⟩ =
    .ok .nx ⟨e1 L' fs (some (.own (.lst ((sortS (people L')).map D.str)))) x5 x6 x7 x8 x9 x10 x11 x12 x13 x14, st, []⟩ := by
  have hlen : L'.length ≤ 16777216 := Nat.le_trans h.len (by decide)
  have hlc : eLc (iDct keysD' (eBor 1)) [15] (gtName 15) mYes (eTup (aCons (eBin gIx (eBin gIx (eVar 1) (eVar 15)) (eC (.int 0))) (aCons (eC (.int 1)) aNil))) ⟨e1 L' fs x4 x5 x6 x7 x8 x9 x10 x11 x12 x13 x14, st, []⟩ = .ok (.own (.lst (((names L').map (whoOf L')).map fun w => D.tup [.str w, .int 1]))) ⟨e1 L' fs x4 x5 x6 x7 x8 x9 x10 x11 x12 x13 x14, st, []⟩ := by
    rw [eLc_pure (src := .pur) (ds := (names L').map D.str) (w1 := ⟨e1 L' fs x4 x5 x6 x7 x8 x9 x10 x11 x12 x13 x14, st, []⟩) (fun d => match d with
      | .str n => some (.tup [.str (whoOf L' n), .int 1])
      | _ => none) (by simp [keys_sm, names]) rfl (by simpa [names] using hlen) ?_]
    · simp [restW, restE, wipeW, wipeE, keepSh, List.filterMap_map, Function.comp_def]
    · intro d hd
      obtain ⟨n, hn, rfl⟩ := List.mem_map.mp hd
      obtain ⟨q, hq, e, _⟩ := who_of h hn
      simp [turnC, wipeW, wipeE, hq, lV, atI, ixN, e]
  have hd : gDict [.lst (((names L').map (whoOf L')).map fun w => D.tup [.str w, .int 1])] = some (.own (.dct false (sm D.int (ones ((names L').map (whoOf L')))))) := by
    have := gDict_sm (g := D.int) (((names L').map (whoOf L')).map fun w => (w, (1 : Int))) (by simpa [names] using hlen)
    rw [List.map_map] at this
    exact this
  have hs : sortOk (keysD' (sm D.int (ones ((names L').map (whoOf L'))))) = true := by
    rw [keys_sm]
    exact sortOk_strs (people_ok h) (Nat.le_trans people_len hlen)
  have hk : sortD (keysD' (sm D.int (ones ((names L').map (whoOf L'))))) = (sortS (people L')).map D.str := by rw [keys_sm]; exact sortS_eq _
  simp only [s_set_, e_call, a_cons, a_nil, e_lock, e_esc, e_var, List.getElem?_cons_succ, List.getElem?_cons_zero, bind_ok, escR_sh, dctOf_dct, Option.isSome_some, if_true, lockW_dct, hlc, dAll_cons, dAll_nil, R_d_own, hd, gSorted_dct, hs, hk]
  rfl
theorem owedL_perm {L L' : List LT} (p : L'.Perm L) (h : LOk L) : owedL L' = owedL L := by
  have hw : ∀ n, whoOf L' n = whoOf L n := fun n => by
    unfold whoOf
    rw [lookL_perm p.symm h.nd n]
  have hnm : (names L').Perm (names L) := p.map _
  have ok' : ∀ x ∈ names L', PyData.strOk x = true := fun x hx => h.ok x (hnm.mem_iff.mp hx)
  have e1 : sortS (names L') = sortS (names L) := sortS_of_perm hnm ok'
  have ew : whoOf L' = whoOf L := funext hw
  have e2 : sortS (people L') = sortS (people L) := by
    refine (sortS_of_perm (perm_of_nodup (ones_keys _) (ones_keys _) fun x => ?_) ?_)
    · show x ∈ (ones _).map (·.1) ↔ x ∈ (ones _).map (·.1)
      rw [ones_mem, ones_mem, ew]
      exact (hnm.map _).mem_iff
    · intro x hx
      obtain ⟨n, hn, rfl⟩ := List.mem_map.mp ((ones_mem _ _).mp hx)
      rw [hw]
      obtain ⟨q, _, e, o⟩ := who_of h (hnm.mem_iff.mp hn)
      rw [e]; exact o
  unfold owedL
  unfold people at e2
  rw [ew] at e2
  rw [e1, ew, e2]
theorem owedL_pl {L : List LT} (h : LOk L) : pl 3 (.lst (owedL L)) = true := by
  refine List.all_eq_true.mpr fun d hd => ?_
  obtain ⟨w, hw, rfl⟩ := List.mem_map.mp hd
  have e0 : pl 1 (.str w) = true := by rw [pl_str]; exact people_ok h w (mem_sortS.mp hw)
  have e1 : pl 1 (tV ((sortS (names L)).filter fun n => decide (whoOf L n = w))) = true := by
    refine List.all_eq_true.mpr fun d hd => ?_
    obtain ⟨n, hn, rfl⟩ := List.mem_map.mp hd
    rw [pl_str]
    exact h.ok n (mem_sortS.mp (List.mem_filter.mp hn).1)
  show (pl 1 (.str w) && (pl 1 (tV _) && true)) = true
  rw [e0, e1]; rfl
theorem rest_owed {L' : List LT} (h : LOk L') (fs : List Int) (st : List Ob) (x5 x6 x7 x8 x9 x10 x11 x12 x13 x14 : Option S) :
    eLc (iSeq (eEsc (eVar 4))) [16] (gtName 16) mYes (eTup (aCons (eEsc (eVar 16)) (aCons (eCall gTuple (aCons (eLc (iSeq (eEsc (eCall gSorted (aCons (eVar 1) aNil)))) [15] (gtName 15) (eTest (eBin gEq (eBin gIx (eBin gIx (eVar 1) (eVar 15)) (eC (.int 0))) (eVar 16))) (eEsc (eVar 15))) aNil)) aNil))) ⟨e1 L' fs (some (.own (.lst ((sortS (people L')).map D.str)))) x5 x6 x7 x8 x9 x10 x11 x12 x13 x14, st, []⟩ =
    .ok (.own (.lst (owedL L'))) ⟨e1 L' fs (some (.sh (.lst ((sortS (people L')).map D.str)))) x5 x6 x7 x8 x9 x10 x11 x12 x13 x14, st, []⟩ := by
  have hlen : L'.length ≤ 16777216 := Nat.le_trans h.len (by decide)
  have hs : sortOk (keysD' (sm lV L')) = true := by rw [keys_sm]; exact sortOk_strs h.ok (by simpa [names] using hlen)
  have hk : sortD (keysD' (sm lV L')) = (sortS (names L')).map D.str := by rw [keys_sm]; exact sortS_eq _
  have inner : ∀ (w : Str) (hw : PyData.strOk w = true), eLc (iSeq (eEsc (eCall gSorted (aCons (eVar 1) aNil)))) [15] (gtName 15) (eTest (eBin gEq (eBin gIx (eBin gIx (eVar 1) (eVar 15)) (eC (.int 0))) (eVar 16))) (eEsc (eVar 15)) ⟨[some (.sh (.obj 0)), some (.sh (.dct false (sm lV L'))), some (.sh (.obj 1)), some (.sh (.lst (fs.map D.int))), some (.sh (.lst ((sortS (people L')).map D.str))), x5, x6, x7, x8, x9, x10, x11, x12, x13, x14, none, some (.sh (.str w)), none], st, []⟩ =
      .ok (.own (.lst (((sortS (names L')).filter fun n => decide (whoOf L' n = w)).map D.str))) ⟨[some (.sh (.obj 0)), some (.sh (.dct false (sm lV L'))), some (.sh (.obj 1)), some (.sh (.lst (fs.map D.int))), some (.sh (.lst ((sortS (people L')).map D.str))), x5, x6, x7, x8, x9, x10, x11, x12, x13, x14, none, some (.sh (.str w)), none], st, []⟩ := by
    intro w hw
    rw [eLc_pure (src := .pur) (ds := (sortS (names L')).map D.str) (w1 := ⟨[some (.sh (.obj 0)), some (.sh (.dct false (sm lV L'))), some (.sh (.obj 1)), some (.sh (.lst (fs.map D.int))), some (.sh (.lst ((sortS (people L')).map D.str))), x5, x6, x7, x8, x9, x10, x11, x12, x13, x14, none, some (.sh (.str w)), none], st, []⟩) (fun d => match d with
      | .str n => if whoOf L' n = w then some (.str n) else none
      | _ => none) (by simp [hs, hk]) rfl (by simpa [names] using hlen) ?_]
    · simp [restW, restE, wipeW, wipeE, keepSh, List.filterMap_map, Function.comp_def]
      induction sortS (names L') with
      | nil => rfl
      | cons n r ih => by_cases e : whoOf L' n = w <;> simp [e, ih]
    · intro d hd
      obtain ⟨n, hn, rfl⟩ := List.mem_map.mp hd
      obtain ⟨q, hq, e, o⟩ := who_of h (mem_sortS.mp hn)
      have eg := gEq_str o hw
      obtain ⟨q1, q2⟩ := q
      simp only at e o eg
      by_cases z : q1 = w
      · subst z
        simp [turnC, wipeW, wipeE, hq, lV, atI, ixN, eg, e]
      · simp [turnC, wipeW, wipeE, hq, lV, atI, ixN, eg, e, z]
  rw [eLc_pure (src := .pur) (ds := (sortS (people L')).map D.str) (w1 := ⟨e1 L' fs (some (.sh (.lst ((sortS (people L')).map D.str)))) x5 x6 x7 x8 x9 x10 x11 x12 x13 x14, st, []⟩) (fun d => match d with
    | .str w => some (.tup [.str w, tV ((sortS (names L')).filter fun n => decide (whoOf L' n = w))])
    | _ => none) (by simp) rfl (by simpa using Nat.le_trans people_len hlen) ?_]
  · simp [restW, restE, wipeW, wipeE, keepSh, List.filterMap_map, Function.comp_def]
    rfl
  · intro d hd
    obtain ⟨w, hw, rfl⟩ := List.mem_map.mp hd
    have hi := inner w (people_ok h w (mem_sortS.mp hw))
    simp only [turnC, gt_name, m_yes, e_tup, a_cons, a_nil, e_call, e_esc, wipeW, wipeE]
    simp [hi, tV, wipeE]
end Lk18
set_option maxHeartbeats 1000000
/-! K18g: the law's second part, on. -/
namespace Lk18
open PySem PySem.W L2 Rf
open PyProof.Rows hiding St

abbrev abc : List Str := ["a", "b", "c"]
/-- a drawn dict of names -/
structure MOk (M : DM) : Prop where
  nd : (M.map (·.1)).Nodup
  ok : ∀ n ∈ M.map (·.1), PyData.strOk n = true
  len : M.length ≤ 3
theorem damp_draw {L' : List LT} (fs : List Int) (racks : List Int) (K : List KT) (L : List LT) (x4 x5 x6 x7 x8 x9 x10 x11 x12 x13 x14 : Option S) : ∀ (ns : List Str) (d : Dice), ∃ (vs : List Int) (d' : Dice), vs.length = ns.length ∧
    lcL [17] .pur (gtName 17) mYes (eTup (aCons (eEsc (eVar 17)) (aCons (eEsc (eFn 2 f__law_roll (aCons (eEsc (eVar 0)) (aCons (eC (.int 60)) aNil)))) aNil))) (ns.map D.str) ⟨e1 L' fs x4 x5 x6 x7 x8 x9 x10 x11 x12 x13 x14, ST d.o racks K L [], []⟩ =
      .ok ((ns.zip vs).map fun p => D.tup [.str p.1, .int p.2]) ⟨e1 L' fs x4 x5 x6 x7 x8 x9 x10 x11 x12 x13 x14, ST d'.o racks K L [], []⟩
  | [], d => ⟨[], d, rfl, lcL_nil rfl⟩
  | n :: ns, d => by
    obtain ⟨vs, d', hl, h⟩ := damp_draw (L' := L') fs racks K L x4 x5 x6 x7 x8 x9 x10 x11 x12 x13 x14 ns (d.n 60)
    refine ⟨d.r 60 :: vs, d', by simp [hl], ?_⟩
    refine (lcL_cons (o := some (.tup [.str n, .int (d.r 60)])) (w2 := ⟨e1 L' fs x4 x5 x6 x7 x8 x9 x10 x11 x12 x13 x14, ST (d.n 60).o racks K L [], []⟩) rfl ?_ h).trans ?_
    · simp [turnC, roll_st]
    · rfl
theorem take_abc (k : Nat) : (abc.take k).Nodup ∧ (∀ n ∈ abc.take k, PyData.strOk n = true) ∧ (abc.take k).length ≤ 3 := by
  refine ⟨List.Nodup.sublist (List.take_sublist k abc) (by decide), fun n hn => ?_, ?_⟩
  · have := List.mem_of_mem_take hn
    have ok : ∀ n ∈ abc, PyData.strOk n = true := by decide +kernel
    exact ok n this
  · rw [List.length_take]; exact Nat.min_le_right _ _
theorem rest_s3 {L' : List LT} (fs : List Int) (racks : List Int) (K : List KT) (L : List LT) (x4 x5 x6 x7 x8 x9 x10 x11 x12 x13 x14 : Option S) (d : Dice) : ∃ (M : DM) (air hours : Int) (d' : Dice), MOk M ∧ 0 ≤ air ∧ 0 ≤ hours ∧ hours < 9 ∧
    sAsgT (eTup (aCons (eEsc (eCall gDict (aCons (eLc (iSeq (eEsc (eSl (eLst (aCons (eC (.str "a")) (aCons (eC (.str "b")) (aCons (eC (.str "c")) aNil)))) oNone (oSome (eFn 2 f__law_roll (aCons (eEsc (eVar 0)) (aCons (eC (.int 4)) aNil))))))) [17] (gtName 17) mYes (eTup (aCons (eEsc (eVar 17)) (aCons (eEsc (eFn 2 f__law_roll (aCons (eEsc (eVar 0)) (aCons (eC (.int 60)) aNil)))) aNil)))) aNil))) (aCons (eEsc (eFn 2 f__law_roll (aCons (eEsc (eVar 0)) (aCons (eC (.int 40)) aNil)))) (aCons (eEsc (eFn 2 f__law_roll (aCons (eEsc (eVar 0)) (aCons (eC (.int 9)) aNil)))) aNil)))) (gtTup 3 (gtCons (gtName 8) (gtCons (gtName 9) (gtCons (gtName 10) gtNil))))
      ⟨e1 L' fs x4 x5 x6 x7 x8 x9 x10 x11 x12 x13 x14, ST d.o racks K L [], []⟩ = .ok .nx ⟨e1 L' fs x4 x5 x6 x7 (some (.sh (.dct false (sm D.int M)))) (some (.sh (.int air))) (some (.sh (.int hours))) x11 x12 x13 x14, ST d'.o racks K L [], []⟩ := by
  obtain ⟨vs, d', hl, h⟩ := damp_draw (L' := L') fs racks K L x4 x5 x6 x7 x8 x9 x10 x11 x12 x13 x14 (abc.take (d.r 4).toNat) (d.n 4)
  obtain ⟨t1, t2, t3⟩ := take_abc (d.r 4).toNat
  have hz : ((abc.take (d.r 4).toNat).zip vs).map (·.1) = abc.take (d.r 4).toNat := List.map_fst_zip (by omega)
  have hM : MOk ((abc.take (d.r 4).toNat).zip vs) := ⟨by rw [hz]; exact t1, by rw [hz]; exact t2, by rw [List.length_zip]; omega⟩
  refine ⟨(abc.take (d.r 4).toNat).zip vs, d'.r 40, (d'.n 40).r 9, (d'.n 40).n 9, hM, d'.r_lo (by decide), Dice.r_lo _ (by decide), Dice.r_hi _ (by decide), ?_⟩
  have h0 := d.r_lo (many := 4) (by decide)
  have h4 := d.r_hi (many := 4) (by decide)
  have hc : Rf.cutD [D.str "a", D.str "b", D.str "c"] none (some (d.r 4)) = (abc.take (d.r 4).toNat).map D.str := by
    have : ¬ d.r 4 < 0 := by omega
    have h3 : min (d.r 4).toNat 3 = (d.r 4).toNat := by omega
    simp only [Rf.cutD, HT.sIx, if_neg this]
    simp only [List.length_cons, List.length_nil, h3, Nat.sub_zero, List.drop_zero]
    rw [List.map_take]
    rfl
  have hlc : eLc (iSeq (eEsc (eSl (eLst (aCons (eC (.str "a")) (aCons (eC (.str "b")) (aCons (eC (.str "c")) aNil)))) oNone (oSome (eFn 2 f__law_roll (aCons (eEsc (eVar 0)) (aCons (eC (.int 4)) aNil))))))) [17] (gtName 17) mYes (eTup (aCons (eEsc (eVar 17)) (aCons (eEsc (eFn 2 f__law_roll (aCons (eEsc (eVar 0)) (aCons (eC (.int 60)) aNil)))) aNil))) ⟨e1 L' fs x4 x5 x6 x7 x8 x9 x10 x11 x12 x13 x14, ST d.o racks K L [], []⟩ =
      .ok (.own (.lst (((abc.take (d.r 4).toNat).zip vs).map fun p => D.tup [.str p.1, .int p.2]))) ⟨e1 L' fs x4 x5 x6 x7 x8 x9 x10 x11 x12 x13 x14, ST d'.o racks K L [], []⟩ := by
    rw [eLc_of (src := .pur) (ds := (abc.take (d.r 4).toNat).map D.str) (w1 := ⟨e1 L' fs x4 x5 x6 x7 x8 x9 x10 x11 x12 x13 x14, ST (d.n 4).o racks K L [], []⟩) (by simp [roll_st, hc]) (by simp; omega) h]
    simp
  have hd : gDict [.lst (((abc.take (d.r 4).toNat).zip vs).map fun p => D.tup [.str p.1, .int p.2])] = some (.own (.dct false (sm D.int ((abc.take (d.r 4).toNat).zip vs)))) := by
    have := gDict_sm (g := D.int) ((abc.take (d.r 4).toNat).zip vs) (Nat.le_trans hM.len (by decide))
    rw [mergeL_nil hM.nd] at this
    exact this
  simp only [s_asgT, e_tup, a_cons, a_nil, e_esc, e_call, hlc, bind_ok, dAll_cons, dAll_nil, R_d_own, hd, escR_own]
  simp [roll_st]
theorem damp_law_turn {L' : List LT} (fs : List Int) (st : List Ob) (x4 x6 x7 x8 x10 x11 x12 x13 x14 : Option S) (air : Int) (M : DM) (hM : MOk M) (c : D) :
    ∃ x6', turnF (gtName 6) (sSet 5 (eCall gDict (aCons (eLock (eEsc (eVar 5)) (eLc (iDct keysD' (eBor 5)) [17] (gtName 17) mYes (eTup (aCons (eEsc (eVar 17)) (aCons (eIf (eTest (eBin gLe (eBin gIx (eVar 5) (eVar 17)) (eVar 9))) (eBin gIx (eVar 5) (eVar 17)) (eCall gMax (aCons (eVar 9) (aCons (eBin gSub (eBin gIx (eVar 5) (eVar 17)) (eCall gMax (aCons (eC (.int 1)) (aCons (eBin gDiv (eBin gSub (eBin gIx (eVar 5) (eVar 17)) (eVar 9)) (eC (.int 10))) aNil)))) aNil)))) aNil))))) aNil))) c
      ⟨e1 L' fs x4 (some (.own (.dct false (sm D.int M)))) x6 x7 x8 (some (.sh (.int air))) x10 x11 x12 x13 x14, st, []⟩ = .ok .nx ⟨e1 L' fs x4 (some (.own (.dct false (sm D.int (M.map fun p => (p.1, stepL air p.2)))))) x6' x7 x8 (some (.sh (.int air))) x10 x11 x12 x13 x14, st, []⟩ := by
  refine ⟨some (.sh c), ?_⟩
  have hlc : eLc (iDct keysD' (eBor 5)) [17] (gtName 17) mYes (eTup (aCons (eEsc (eVar 17)) (aCons (eIf (eTest (eBin gLe (eBin gIx (eVar 5) (eVar 17)) (eVar 9))) (eBin gIx (eVar 5) (eVar 17)) (eCall gMax (aCons (eVar 9) (aCons (eBin gSub (eBin gIx (eVar 5) (eVar 17)) (eCall gMax (aCons (eC (.int 1)) (aCons (eBin gDiv (eBin gSub (eBin gIx (eVar 5) (eVar 17)) (eVar 9)) (eC (.int 10))) aNil)))) aNil)))) aNil))) ⟨e1 L' fs x4 (some (.sh (.dct false (sm D.int M)))) (some (.sh c)) x7 x8 (some (.sh (.int air))) x10 x11 x12 x13 x14, st, []⟩ =
      .ok (.own (.lst ((M.map fun p => (p.1, stepL air p.2)).map fun p => D.tup [.str p.1, .int p.2]))) ⟨e1 L' fs x4 (some (.sh (.dct false (sm D.int M)))) (some (.sh c)) x7 x8 (some (.sh (.int air))) x10 x11 x12 x13 x14, st, []⟩ := by
    have hlen : M.length ≤ 16777216 := Nat.le_trans hM.len (by decide)
    rw [eLc_pure (src := .pur) (ds := (M.map (·.1)).map D.str) (w1 := ⟨e1 L' fs x4 (some (.sh (.dct false (sm D.int M)))) (some (.sh c)) x7 x8 (some (.sh (.int air))) x10 x11 x12 x13 x14, st, []⟩) (fun d => match d with
      | .str n => some (.tup [.str n, .int (stepL air ((lookL M n).getD 0))])
      | _ => none) (by simp [keys_sm]) rfl (by simpa using hlen) ?_]
    · simp [List.filterMap_map, Function.comp_def]
      intro a b hab
      rw [lookL_of_mem hM.nd hab]; rfl
    · intro d hd
      obtain ⟨n, hn, rfl⟩ := List.mem_map.mp hd
      obtain ⟨v, hv⟩ := Option.isSome_iff_exists.mp ((mem_keys M n).mp hn)
      by_cases h : v ≤ air
      · simp [turnC, hv, stepL, h]
      · simp [turnC, hv, stepL, h]
  have hd : gDict [.lst ((M.map fun p => (p.1, stepL air p.2)).map fun p => D.tup [.str p.1, .int p.2])] = some (.own (.dct false (sm D.int (M.map fun p => (p.1, stepL air p.2))))) := by
    have := gDict_sm (g := D.int) (M.map fun p => (p.1, stepL air p.2)) (by simpa using Nat.le_trans hM.len (by decide))
    rw [mergeL_nil (by simpa [Function.comp_def] using hM.nd)] at this
    exact this
  simp only [turnF, gt_name, s_set_, e_call, a_cons, a_nil, e_lock, e_esc, e_var, List.getElem?_cons_succ, List.getElem?_cons_zero, List.set_cons_succ, List.set_cons_zero, bind_ok, escR_bor, dctOf_dct, Option.isSome_some, if_true, lockW_dct, hlc, dAll_cons, dAll_nil, R_d_own, hd, putR_own]
theorem MOk.step {M : DM} (h : MOk M) (f : Int → Int) : MOk (M.map fun p => (p.1, f p.2)) := ⟨by simpa [Function.comp_def] using h.nd, by simpa using h.ok, by simpa using h.len⟩
theorem damp_law {L' : List LT} (fs : List Int) (st : List Ob) (x4 x7 x8 x10 x11 x12 x13 x14 : Option S) (air : Int) : ∀ (ds : List D) (M : DM) (x6 : Option S), MOk M →
    ∃ x6', sForL .pur (gtName 6) (sSet 5 (eCall gDict (aCons (eLock (eEsc (eVar 5)) (eLc (iDct keysD' (eBor 5)) [17] (gtName 17) mYes (eTup (aCons (eEsc (eVar 17)) (aCons (eIf (eTest (eBin gLe (eBin gIx (eVar 5) (eVar 17)) (eVar 9))) (eBin gIx (eVar 5) (eVar 17)) (eCall gMax (aCons (eVar 9) (aCons (eBin gSub (eBin gIx (eVar 5) (eVar 17)) (eCall gMax (aCons (eC (.int 1)) (aCons (eBin gDiv (eBin gSub (eBin gIx (eVar 5) (eVar 17)) (eVar 9)) (eC (.int 10))) aNil)))) aNil)))) aNil))))) aNil))) ds
      ⟨e1 L' fs x4 (some (.own (.dct false (sm D.int M)))) x6 x7 x8 (some (.sh (.int air))) x10 x11 x12 x13 x14, st, []⟩ = .ok .nx ⟨e1 L' fs x4 (some (.own (.dct false (sm D.int (M.map fun p => (p.1, itN (stepL air) ds.length p.2)))))) x6' x7 x8 (some (.sh (.int air))) x10 x11 x12 x13 x14, st, []⟩
  | [], M, x6, hM => ⟨x6, by
      rw [sForL_nil rfl]
      simp [itN]⟩
  | d :: ds, M, x6, hM => by
    obtain ⟨x6', e⟩ := damp_law_turn (L' := L') fs st x4 x6 x7 x8 x10 x11 x12 x13 x14 air M hM d
    obtain ⟨x6'', ih⟩ := damp_law (L' := L') fs st x4 x7 x8 x10 x11 x12 x13 x14 air ds (M.map fun p => (p.1, stepL air p.2)) x6' (hM.step _)
    refine ⟨x6'', ?_⟩
    rw [sForL_cons rfl, e]
    simp only
    rw [ih, List.map_map]
    rfl
end Lk18
set_option maxHeartbeats 1000000
/-! K18h: the law's second part, whole. -/
namespace Lk18
open PySem PySem.W L2 Rf
open PyProof.Rows hiding St

abbrev frs (racks : List Int) (K : List KT) : List Int := (List.range racks.length).map fun k => fr racks K (k : Nat)
theorem rest_s2 {L' L : List LT} (h : LOk L) (h' : LOk L') (p : L'.Perm L) (racks : List Int) (K : List KT) (o : Ob) (hr : racks ≠ []) (hl : racks.length ≤ 100) (x5 x6 x7 x8 x9 x10 x11 x12 x13 x14 : Option S) :
    sIf (bOr (eTest (eBin gNe (eMeth "Loft" "longest_free" 1 f_Loft_longest_free (eVar 2) aNil) (eCall gMax (aCons (eVar 3) aNil)))) (eTest (eBin gNe (eCall gList (aCons (eMeth "Loft" "owed" 1 f_Loft_owed (eVar 2) aNil) aNil)) (eLc (iSeq (eEsc (eVar 4))) [16] (gtName 16) mYes (eTup (aCons (eEsc (eVar 16)) (aCons (eCall gTuple (aCons (eLc (iSeq (eEsc (eCall gSorted (aCons (eVar 1) aNil)))) [15] (gtName 15) (eTest (eBin gEq (eBin gIx (eBin gIx (eVar 1) (eVar 15)) (eC (.int 0))) (eVar 16))) (eEsc (eVar 15))) aNil)) aNil))))))) (sRet (eC (.bl false))) sSkip
      ⟨e1 L' (frs racks K) (some (.own (.lst ((sortS (people L')).map D.str)))) x5 x6 x7 x8 x9 x10 x11 x12 x13 x14, ST o racks K L [], []⟩ =
    .ok .nx ⟨e1 L' (frs racks K) (some (.sh (.lst ((sortS (people L')).map D.str)))) x5 x6 x7 x8 x9 x10 x11 x12 x13 x14, ST o racks K L [], []⟩ := by
  have hne : frs racks K ≠ [] := by
    cases racks with
    | nil => exact (hr rfl).elim
    | cons a r => simp [List.range_succ]
  obtain ⟨i, _, hi⟩ := gMax_ints hne
  have hlo := longest_eq o racks K L [] hl
  have hi2 : gMax [.lst ((List.range racks.length).map fun k => D.int (fr racks K (k : Nat)))] = some (.sh (.int i)) := by
    rw [← hi, List.map_map]; rfl
  rw [hi2] at hlo
  simp only at hlo
  have how := owed_eq o racks K L [] h.nd h.ok h.okw h.len
  have hr := rest_owed h' (frs racks K) (ST o racks K L []) x5 x6 x7 x8 x9 x10 x11 x12 x13 x14
  rw [owedL_perm p h] at hr
  have hn : gNe (.lst (owedL L)) (.lst (owedL L)) = some (.sh (.bl false)) := gNe_self (owedL_pl h) (by decide)
  have hf : gNe (.int i) (.int i) = some (.sh (.bl false)) := by simp
  rw [if_f (w' := ⟨e1 L' (frs racks K) (some (.sh (.lst ((sortS (people L')).map D.str)))) x5 x6 x7 x8 x9 x10 x11 x12 x13 x14, ST o racks K L [], []⟩) ?_ rfl]
  · rfl
  · have t1 : eTest (eBin gNe (eMeth "Loft" "longest_free" 1 f_Loft_longest_free (eVar 2) aNil) (eCall gMax (aCons (eVar 3) aNil))) ⟨e1 L' (frs racks K) (some (.own (.lst ((sortS (people L')).map D.str)))) x5 x6 x7 x8 x9 x10 x11 x12 x13 x14, ST o racks K L [], []⟩ = .ok false ⟨e1 L' (frs racks K) (some (.own (.lst ((sortS (people L')).map D.str)))) x5 x6 x7 x8 x9 x10 x11 x12 x13 x14, ST o racks K L [], []⟩ := by
      simp [hlo]
      have hi3 := hi
      simp only [frs, List.map_map] at hi3
      simp [hi3]
    have t2 : eTest (eBin gNe (eCall gList (aCons (eMeth "Loft" "owed" 1 f_Loft_owed (eVar 2) aNil) aNil)) (eLc (iSeq (eEsc (eVar 4))) [16] (gtName 16) mYes (eTup (aCons (eEsc (eVar 16)) (aCons (eCall gTuple (aCons (eLc (iSeq (eEsc (eCall gSorted (aCons (eVar 1) aNil)))) [15] (gtName 15) (eTest (eBin gEq (eBin gIx (eBin gIx (eVar 1) (eVar 15)) (eC (.int 0))) (eVar 16))) (eEsc (eVar 15))) aNil)) aNil))))) ⟨e1 L' (frs racks K) (some (.own (.lst ((sortS (people L')).map D.str)))) x5 x6 x7 x8 x9 x10 x11 x12 x13 x14, ST o racks K L [], []⟩ = .ok false ⟨e1 L' (frs racks K) (some (.sh (.lst ((sortS (people L')).map D.str)))) x5 x6 x7 x8 x9 x10 x11 x12 x13 x14, ST o racks K L [], []⟩ := by
      rw [e_test, e_bin, e_call]
      have : (aCons (eMeth "Loft" "owed" 1 f_Loft_owed (eVar 2) aNil) aNil) ⟨e1 L' (frs racks K) (some (.own (.lst ((sortS (people L')).map D.str)))) x5 x6 x7 x8 x9 x10 x11 x12 x13 x14, ST o racks K L [], []⟩ = .ok [.sh (.tup (owedL L))] ⟨e1 L' (frs racks K) (some (.own (.lst ((sortS (people L')).map D.str)))) x5 x6 x7 x8 x9 x10 x11 x12 x13 x14, ST o racks K L [], []⟩ := by
        simp [how]
      rw [this]
      simp only [bind_ok, dAll_cons, dAll_nil, R_d_sh, deref_tup, gList_tup, hr, R_d_own, hn]
    rw [b_or, t1, bind_ok]
    simp only [Bool.false_eq_true, if_false]
    exact t2
theorem week_loop {L' : List LT} (fs : List Int) (st : List Ob) (x4 x5 x6 x8 x9 x10 x12 : Option S) (holes : Int) : ∀ (ds : List D) (q : Int × Int) (x7 : Option S), ∃ x7', sForL .pur (gtName 7) (sAsgT (eIf (eTest (eBin gLt (eVar 13) (eVar 11))) (eTup (aCons (eEsc (eBin gAdd (eVar 13) (eVar 13))) (aCons (eEsc (eBin gAdd (eVar 14) (eC (.int 1)))) aNil))) (eTup (aCons (eEsc (eVar 13)) (aCons (eEsc (eVar 14)) aNil)))) (gtTup 2 (gtCons (gtName 13) (gtCons (gtName 14) gtNil)))) ds
      ⟨e1 L' fs x4 x5 x6 x7 x8 x9 x10 (some (.sh (.int holes))) x12 (some (.sh (.int q.1))) (some (.sh (.int q.2))), st, []⟩ =
    .ok .nx ⟨e1 L' fs x4 x5 x6 x7' x8 x9 x10 (some (.sh (.int holes))) x12 (some (.sh (.int (ds.foldl (fun q _ => lw holes q) q).1))) (some (.sh (.int (ds.foldl (fun q _ => lw holes q) q).2))), st, []⟩
  | [], q, x7 => ⟨x7, sForL_nil rfl⟩
  | d :: ds, q, x7 => by
    obtain ⟨x7', ih⟩ := week_loop (L' := L') fs st x4 x5 x6 x8 x9 x10 x12 holes ds (lw holes q) (some (.sh d))
    refine ⟨x7', ?_⟩
    rw [sForL_cons rfl]
    have step : turnF (gtName 7) (sAsgT (eIf (eTest (eBin gLt (eVar 13) (eVar 11))) (eTup (aCons (eEsc (eBin gAdd (eVar 13) (eVar 13))) (aCons (eEsc (eBin gAdd (eVar 14) (eC (.int 1)))) aNil))) (eTup (aCons (eEsc (eVar 13)) (aCons (eEsc (eVar 14)) aNil)))) (gtTup 2 (gtCons (gtName 13) (gtCons (gtName 14) gtNil)))) d
      ⟨e1 L' fs x4 x5 x6 x7 x8 x9 x10 (some (.sh (.int holes))) x12 (some (.sh (.int q.1))) (some (.sh (.int q.2))), st, []⟩ = .ok .nx ⟨e1 L' fs x4 x5 x6 (some (.sh d)) x8 x9 x10 (some (.sh (.int holes))) x12 (some (.sh (.int (lw holes q).1))) (some (.sh (.int (lw holes q).2))), st, []⟩ := by
      by_cases h : q.1 < holes
      · simp [turnF, h, lw]
      · simp [turnF, h, lw]
    rw [step]
    exact ih
theorem rest_eq {L' L : List LT} (h : LOk L) (h' : LOk L') (p : L'.Perm L) (racks : List Int) (K : List KT) (d : Dice) (hr : racks ≠ []) (hl : racks.length ≤ 3) (hK : K.length ≤ 100) :
    ∃ st' lk', callF f__law_rest1 [.obj 0, .dct false (sm lV L'), .obj 1, .lst ((frs racks K).map D.int)] (ST d.o racks K L []) [] = .ok (.sh (.bl true)) ⟨[], st', lk'⟩ := by
  have hl1 : racks.length ≤ 100 := by omega
  suffices hh : TrueR (m__law_rest1 ⟨e1 L' (frs racks K) none none none none none none none none none none none, ST d.o racks K L [], []⟩) by
    obtain ⟨w', e⟩ := hh
    refine ⟨w'.st, w'.lk, ?_⟩
    rw [f__law_rest1]
    refine callF_run (env := e1 L' (frs racks K) none none none none none none none none none none none) rfl ?_
    rw [e]; rfl
  unfold m__law_rest1
  obtain ⟨M, air, hours, d3, hM, ha, hh0, hh9, s3⟩ := rest_s3 (L' := L') (frs racks K) racks K L (some (.sh (.lst ((sortS (people L')).map D.str)))) none none none none none none none none none none d
  have hrng : fRng1 [.int hours] = some (rangeD 0 hours.toNat) := fRng1_of hh0 (by omega)
  obtain ⟨x6, s5⟩ := damp_law (L' := L') (frs racks K) (ST d3.o racks K L []) (some (.sh (.lst ((sortS (people L')).map D.str)))) none (some (.sh (.dct false (sm D.int M)))) (some (.sh (.int hours))) none none none none air (rangeD 0 hours.toNat) M none hM
  have hlen : (rangeD 0 hours.toNat).length = hours.toNat := by simp [rangeD]
  rw [hlen] at s5
  obtain ⟨x7, s8⟩ := week_loop (L' := L') (frs racks K) (ST ((d3.n 90).n 60).o racks K L []) (some (.sh (.lst ((sortS (people L')).map D.str)))) (some (.own (.dct false (sm D.int (M.map fun p => (p.1, itN (stepL air) hours.toNat p.2)))))) x6 (some (.sh (.dct false (sm D.int M)))) (some (.sh (.int air))) (some (.sh (.int hours))) (some (.sh (.int ((d3.n 90).r 60)))) (d3.r 90) (rangeD 0 7) (1, 0) none
  have hlw : (rangeD 0 7).foldl (fun q _ => lw (d3.r 90) q) (1, 0) = lw7 (d3.r 90) := rfl
  rw [hlw] at s8
  have hM2 : MOk (M.map fun p => (p.1, itN (stepL air) hours.toNat p.2)) := hM.step _
  -- the sorted dict of the law
  have hkeys : ((M.map fun p => (p.1, itN (stepL air) hours.toNat p.2)).map (·.1)) = M.map (·.1) := by rw [List.map_map]; rfl
  have hs : sortOk (keysD' (sm D.int (M.map fun p => (p.1, itN (stepL air) hours.toNat p.2)))) = true := by rw [keys_sm]; exact sortOk_strs hM2.ok (by simpa using Nat.le_trans hM.len (by decide))
  have hk : sortD (keysD' (sm D.int (M.map fun p => (p.1, itN (stepL air) hours.toNat p.2)))) = (sortS (M.map (·.1))).map D.str := by rw [keys_sm, hkeys]; exact sortS_eq _
  have hlook : ∀ n ∈ M.map (·.1), lookL (M.map fun p => (p.1, itN (stepL air) hours.toNat p.2)) n = some (itN (stepL air) hours.toNat ((lookL M n).getD 0)) := by
    intro n hn
    obtain ⟨v, hv⟩ := Option.isSome_iff_exists.mp ((mem_keys M n).mp hn)
    rw [hv]
    exact lookL_of_mem hM2.nd (List.mem_map.mpr ⟨_, lookL_mem hv, rfl⟩)
  have hdnd : ((dampL air hours M).map (·.1)).Nodup := by
    unfold dampL
    rw [List.map_map]
    have : (sortS (M.map (·.1))).map ((·.1) ∘ fun n => (n, itN (stepL air) hours.toNat ((lookL M n).getD 0))) = sortS (M.map (·.1)) := by
      exact List.map_id _
    rw [this]
    exact sortS_nodup hM.nd
  have s6 : eLc (iSeq (eEsc (eCall gSorted (aCons (eVar 5) aNil)))) [17] (gtName 17) mYes (eTup (aCons (eEsc (eVar 17)) (aCons (eBin gIx (eVar 5) (eVar 17)) aNil))) ⟨e1 L' (frs racks K) (some (.sh (.lst ((sortS (people L')).map D.str)))) (some (.own (.dct false (sm D.int (M.map fun p => (p.1, itN (stepL air) hours.toNat p.2)))))) x6 none (some (.sh (.dct false (sm D.int M)))) (some (.sh (.int air))) (some (.sh (.int hours))) none none none none, ST d3.o racks K L [], []⟩ =
      .ok (.own (.lst ((dampL air hours M).map fun p => D.tup [.str p.1, .int p.2]))) ⟨e1 L' (frs racks K) (some (.sh (.lst ((sortS (people L')).map D.str)))) (some (.own (.dct false (sm D.int (M.map fun p => (p.1, itN (stepL air) hours.toNat p.2)))))) x6 none (some (.sh (.dct false (sm D.int M)))) (some (.sh (.int air))) (some (.sh (.int hours))) none none none none, ST d3.o racks K L [], []⟩ := by
    rw [eLc_pure (src := .pur) (ds := (sortS (M.map (·.1))).map D.str) (w1 := ⟨e1 L' (frs racks K) (some (.sh (.lst ((sortS (people L')).map D.str)))) (some (.own (.dct false (sm D.int (M.map fun p => (p.1, itN (stepL air) hours.toNat p.2)))))) x6 none (some (.sh (.dct false (sm D.int M)))) (some (.sh (.int air))) (some (.sh (.int hours))) none none none none, ST d3.o racks K L [], []⟩) (fun d => match d with
      | .str n => some (.tup [.str n, .int (itN (stepL air) hours.toNat ((lookL M n).getD 0))])
      | _ => none) (by simp [hs, hk]) rfl (by simpa using Nat.le_trans hM.len (by decide)) ?_]
    · simp [List.filterMap_map, Function.comp_def, dampL]
    · intro d hd
      obtain ⟨n, hn, rfl⟩ := List.mem_map.mp hd
      have := hlook n (mem_sortS.mp hn)
      simp [turnC, this]
  have hdd : gDict [.lst ((dampL air hours M).map fun p => D.tup [.str p.1, .int p.2])] = some (.own (.dct false (sm D.int (dampL air hours M)))) := by
    have := gDict_sm (g := D.int) (dampL air hours M) (by unfold dampL; simpa using Nat.le_trans hM.len (by decide))
    rw [mergeL_nil hdnd] at this
    exact this
  have hdamp := damp_eq M air hours ha hh0 (by omega) hM.nd hM.ok (Nat.le_trans hM.len (by decide)) (ST d3.o racks K L []) []
  have hneq : gNe (.dct false (sm D.int (dampL air hours M))) (.dct false (sm D.int (dampL air hours M))) = some (.sh (.bl false)) := by
    show (eqDct _ _).map _ = _
    rw [eqDct_self hdnd (fun _ _ => rfl)]
    rfl
  -- the moths
  have hmoth := moth_eq ((d3.n 90).r 60) (d3.r 90) (by have := d3.r_hi (many := 90) (by decide); omega) (ST ((d3.n 90).n 60).o racks K L []) []
  rw [moth_law (d3.r_lo (by decide)) (d3.r_hi (by decide)) (Dice.r_lo _ (by decide)) (Dice.r_hi _ (by decide))] at hmoth
  -- refused
  have hf9 := free_eq ((d3.n 90).n 60).o racks K L [.ins "Loft" []] [] 9
  rw [if_neg (by omega)] at hf9
  have hput := put_eq ((d3.n 90).n 60).o racks K L [.ins "Loft" []] "" 1 (by decide +kernel) hl1 hK
  unfold putO at hput
  rw [if_pos (.inl rfl)] at hput
  have hds := damp_size (-1) 1 (by decide) [] (ST ((d3.n 90).n 60).o racks K L [.ins "Loft" []]) []
  have g1 : gNe (.str "plan") (.str "plan") = some (.sh (.bl false)) := gNe_self (n := 0) (by decide +kernel) (by decide)
  have g2 : gNe (.str "no such") (.str "no such") = some (.sh (.bl false)) := gNe_self (n := 0) (by decide +kernel) (by decide)
  have g3 : gNe (.str "deed") (.str "deed") = some (.sh (.bl false)) := gNe_self (n := 0) (by decide +kernel) (by decide)
  have g4 : gNe (.str "size") (.str "size") = some (.sh (.bl false)) := gNe_self (n := 0) (by decide +kernel) (by decide)
  have g5 : gNe (.str "no way") (.str "no way") = some (.sh (.bl false)) := gNe_self (n := 0) (by decide +kernel) (by decide)
  have s7 : smallI 7 = true := by decide
  refine .seq _ (rest_s1 h' _ _ _ _ _ _ _ _ _ _ _ _ _) ?_
  refine .seq _ (rest_s2 h h' p racks K d.o hr hl1 _ _ _ _ _ _ _ _ _ _) ?_
  refine .seq _ s3 ?_
  refine .seq ⟨e1 L' (frs racks K) (some (.sh (.lst ((sortS (people L')).map D.str)))) (some (.own (.dct false (sm D.int M)))) none none (some (.sh (.dct false (sm D.int M)))) (some (.sh (.int air))) (some (.sh (.int hours))) none none none none, ST d3.o racks K L [], []⟩ (by simp) ?_
  refine .seq ⟨e1 L' (frs racks K) (some (.sh (.lst ((sortS (people L')).map D.str)))) (some (.own (.dct false (sm D.int (M.map fun p => (p.1, itN (stepL air) hours.toNat p.2)))))) x6 none (some (.sh (.dct false (sm D.int M)))) (some (.sh (.int air))) (some (.sh (.int hours))) none none none none, ST d3.o racks K L [], []⟩ (by rw [s_for_]; simp only [i_arg_, a_cons, a_nil, e_var, bind_ok, dAll_cons, dAll_nil, R_d_sh, deref_int, List.getElem?_cons_succ, List.getElem?_cons_zero, Option.bind_some, hrng]; exact s5) ?_
  refine .seq ⟨e1 L' (frs racks K) (some (.sh (.lst ((sortS (people L')).map D.str)))) (some (.own (.dct false (sm D.int (M.map fun p => (p.1, itN (stepL air) hours.toNat p.2)))))) x6 none (some (.sh (.dct false (sm D.int M)))) (some (.sh (.int air))) (some (.sh (.int hours))) none none none none, ST d3.o racks K L [], []⟩ ?s6 ?_
  case s6 =>
    refine if_f (w' := ⟨e1 L' (frs racks K) (some (.sh (.lst ((sortS (people L')).map D.str)))) (some (.own (.dct false (sm D.int (M.map fun p => (p.1, itN (stepL air) hours.toNat p.2)))))) x6 none (some (.sh (.dct false (sm D.int M)))) (some (.sh (.int air))) (some (.sh (.int hours))) none none none none, ST d3.o racks K L [], []⟩) ?_ rfl
    have t : eCall gDict (aCons (eLc (iSeq (eEsc (eCall gSorted (aCons (eVar 5) aNil)))) [17] (gtName 17) mYes (eTup (aCons (eEsc (eVar 17)) (aCons (eBin gIx (eVar 5) (eVar 17)) aNil)))) aNil) ⟨e1 L' (frs racks K) (some (.sh (.lst ((sortS (people L')).map D.str)))) (some (.own (.dct false (sm D.int (M.map fun p => (p.1, itN (stepL air) hours.toNat p.2)))))) x6 none (some (.sh (.dct false (sm D.int M)))) (some (.sh (.int air))) (some (.sh (.int hours))) none none none none, ST d3.o racks K L [], []⟩ = .ok (.own (.dct false (sm D.int (dampL air hours M)))) ⟨e1 L' (frs racks K) (some (.sh (.lst ((sortS (people L')).map D.str)))) (some (.own (.dct false (sm D.int (M.map fun p => (p.1, itN (stepL air) hours.toNat p.2)))))) x6 none (some (.sh (.dct false (sm D.int M)))) (some (.sh (.int air))) (some (.sh (.int hours))) none none none none, ST d3.o racks K L [], []⟩ := by
      simp only [e_call, a_cons, a_nil, s6, bind_ok, dAll_cons, dAll_nil, R_d_own, hdd]
    have t2 : eFn 3 f_damp_left (aCons (eEsc (eVar 8)) (aCons (eEsc (eVar 9)) (aCons (eEsc (eVar 10)) aNil))) ⟨e1 L' (frs racks K) (some (.sh (.lst ((sortS (people L')).map D.str)))) (some (.own (.dct false (sm D.int (M.map fun p => (p.1, itN (stepL air) hours.toNat p.2)))))) x6 none (some (.sh (.dct false (sm D.int M)))) (some (.sh (.int air))) (some (.sh (.int hours))) none none none none, ST d3.o racks K L [], []⟩ = .ok (.own (.dct false (sm D.int (dampL air hours M)))) ⟨e1 L' (frs racks K) (some (.sh (.lst ((sortS (people L')).map D.str)))) (some (.own (.dct false (sm D.int (M.map fun p => (p.1, itN (stepL air) hours.toNat p.2)))))) x6 none (some (.sh (.dct false (sm D.int M)))) (some (.sh (.int air))) (some (.sh (.int hours))) none none none none, ST d3.o racks K L [], []⟩ := by
      simp [hdamp]
    simp only [e_test, e_bin, t2, t, bind_ok, R_d_own, hneq]
  refine .seq ⟨e1 L' (frs racks K) (some (.sh (.lst ((sortS (people L')).map D.str)))) (some (.own (.dct false (sm D.int (M.map fun p => (p.1, itN (stepL air) hours.toNat p.2)))))) x6 none (some (.sh (.dct false (sm D.int M)))) (some (.sh (.int air))) (some (.sh (.int hours))) (some (.sh (.int (d3.r 90)))) (some (.sh (.int ((d3.n 90).r 60)))) (some (.sh (.int 1))) (some (.sh (.int 0))), ST ((d3.n 90).n 60).o racks K L [], []⟩ (by simp [roll_st]) ?_
  refine .seq ⟨e1 L' (frs racks K) (some (.sh (.lst ((sortS (people L')).map D.str)))) (some (.own (.dct false (sm D.int (M.map fun p => (p.1, itN (stepL air) hours.toNat p.2)))))) x6 x7 (some (.sh (.dct false (sm D.int M)))) (some (.sh (.int air))) (some (.sh (.int hours))) (some (.sh (.int (d3.r 90)))) (some (.sh (.int ((d3.n 90).r 60)))) (some (.sh (.int (lw7 (d3.r 90)).1))) (some (.sh (.int (lw7 (d3.r 90)).2))), ST ((d3.n 90).n 60).o racks K L [], []⟩ (by rw [s_for_]; simp only [i_arg_, a_cons, a_nil, e_c, bind_ok, dAll_cons, dAll_nil, R_d_sh, deref_int, Option.bind_some]; rw [fRng1_of (by decide) (by decide)]; exact s8) ?_
  refine .seq ⟨e1 L' (frs racks K) (some (.sh (.lst ((sortS (people L')).map D.str)))) (some (.own (.dct false (sm D.int (M.map fun p => (p.1, itN (stepL air) hours.toNat p.2)))))) x6 x7 (some (.sh (.dct false (sm D.int M)))) (some (.sh (.int air))) (some (.sh (.int hours))) (some (.sh (.int (d3.r 90)))) (some (.sh (.int ((d3.n 90).r 60)))) (some (.sh (.int (lw7 (d3.r 90)).1))) (some (.sh (.int (lw7 (d3.r 90)).2))), ST ((d3.n 90).n 60).o racks K L [], []⟩ ?_ ?_
  · by_cases hc : 7 * (lw7 (d3.r 90)).2 ≤ (d3.n 90).r 60 ∨ (lw7 (d3.r 90)).2 = 0
    · rw [if_pos hc] at hmoth
      rcases hc with hc | hc
      · simp [hmoth, hc, s7]
      · by_cases hc2 : 7 * (lw7 (d3.r 90)).2 ≤ (d3.n 90).r 60
        · simp [hmoth, hc2, s7]
        · simp [hmoth, hc2, hc, s7]
    · rw [if_neg hc] at hmoth
      have hc1 : ¬ 7 * (lw7 (d3.r 90)).2 ≤ (d3.n 90).r 60 := fun z => hc (.inl z)
      have hc2 : ¬ (lw7 (d3.r 90)).2 = 0 := fun z => hc (.inr z)
      simp [hmoth, hc1, hc2, s7, g5]
  refine .seq ⟨e1 L' (frs racks K) (some (.sh (.lst ((sortS (people L')).map D.str)))) (some (.own (.dct false (sm D.int (M.map fun p => (p.1, itN (stepL air) hours.toNat p.2)))))) x6 x7 (some (.sh (.dct false (sm D.int M)))) (some (.sh (.int air))) (some (.sh (.int hours))) (some (.sh (.int (d3.r 90)))) (some (.sh (.int ((d3.n 90).r 60)))) (some (.sh (.int (lw7 (d3.r 90)).1))) (some (.sh (.int (lw7 (d3.r 90)).2))), ST ((d3.n 90).n 60).o racks K L [.ins "Loft" []], []⟩ (by simp [init_none, g1]) ?_
  refine .seq ⟨e1 L' (frs racks K) (some (.sh (.lst ((sortS (people L')).map D.str)))) (some (.own (.dct false (sm D.int (M.map fun p => (p.1, itN (stepL air) hours.toNat p.2)))))) x6 x7 (some (.sh (.dct false (sm D.int M)))) (some (.sh (.int air))) (some (.sh (.int hours))) (some (.sh (.int (d3.r 90)))) (some (.sh (.int ((d3.n 90).r 60)))) (some (.sh (.int (lw7 (d3.r 90)).1))) (some (.sh (.int (lw7 (d3.r 90)).2))), ST ((d3.n 90).n 60).o racks K L [.ins "Loft" []], []⟩ (by simp [hf9, g2]) ?_
  refine .seq ⟨e1 L' (frs racks K) (some (.sh (.lst ((sortS (people L')).map D.str)))) (some (.own (.dct false (sm D.int (M.map fun p => (p.1, itN (stepL air) hours.toNat p.2)))))) x6 x7 (some (.sh (.dct false (sm D.int M)))) (some (.sh (.int air))) (some (.sh (.int hours))) (some (.sh (.int (d3.r 90)))) (some (.sh (.int ((d3.n 90).r 60)))) (some (.sh (.int (lw7 (d3.r 90)).1))) (some (.sh (.int (lw7 (d3.r 90)).2))), ST ((d3.n 90).n 60).o racks K L [.ins "Loft" []], []⟩ (by simp [hput, g3]) ?_
  refine .seq ⟨e1 L' (frs racks K) (some (.sh (.lst ((sortS (people L')).map D.str)))) (some (.own (.dct false (sm D.int (M.map fun p => (p.1, itN (stepL air) hours.toNat p.2)))))) x6 x7 (some (.sh (.dct false (sm D.int M)))) (some (.sh (.int air))) (some (.sh (.int hours))) (some (.sh (.int (d3.r 90)))) (some (.sh (.int ((d3.n 90).r 60)))) (some (.sh (.int (lw7 (d3.r 90)).1))) (some (.sh (.int (lw7 (d3.r 90)).2))), ST ((d3.n 90).n 60).o racks K L [.ins "Loft" []], []⟩ (by simp [hds, g4]) ?_
  exact .end_ _
end Lk18
set_option maxHeartbeats 1000000
/-! K18i: the law's turn, piece by piece. -/
namespace Lk18
open PySem PySem.W L2 Rf
open PyProof.Rows hiding St

/-- a container in a slot: own, or shared -/
def sl (b : Bool) (d : D) : Option S := if b = true then some (.own d) else some (.sh d)
@[simp] theorem sl_t (d : D) : sl true d = some (.own d) := rfl
@[simp] theorem sl_f (d : D) : sl false d = some (.sh d) := rfl
abbrev ef (s0 x3 x4 : Option S) (racks : List Int) (x6 x7 x8 x9 x10 x11 x12 x13 x14 x16 : Option S) : List (Option S) :=
  [s0, some (.sh (.obj 0)), some (.sh (.obj 1)), x3, x4, some (.sh (.lst (racks.map D.int))), x6, x7, x8, x9, x10, x11, x12, x13, x14, none, x16, none]
abbrev kDc (K : List KT) : D := .dct false (sm kV K)
abbrev lDc (L : List LT) : D := .dct false (sm lV L)
theorem used_eq {K : List KT} (h : (K.map (·.1)).Nodup) (k : Int) : (K.map (·.1)).filterMap (fun n => match lookL K n with
    | some q => if q.1 = k then some q.2 else none
    | none => none) = K.filterMap fun p => if p.2.1 = k then some p.2.2 else none := by
  rw [List.filterMap_map]
  refine filterMap_congr' fun p hp => ?_
  simp only [Function.comp, lookL_of_mem h (b := p.2) hp]
theorem inner_used {K : List KT} (hn : (K.map (·.1)).Nodup) (hl : K.length ≤ 100) (b : Bool) (k : Int) (s0 x3 x4 x7 x8 x9 x10 x11 x12 x13 x14 x16 : Option S) (racks : List Int) (st : List Ob) :
    eLock (eEsc (eVar 6)) (eLc (iDct keysD' (eBor 6)) [17] (gtName 17) (eTest (eBin gEq (eBin gIx (eBin gIx (eVar 6) (eVar 17)) (eC (.int 0))) (eVar 15))) (eBin gIx (eBin gIx (eVar 6) (eVar 17)) (eC (.int 1)))) ⟨[s0, some (.sh (.obj 0)), some (.sh (.obj 1)), x3, x4, some (.sh (.lst (racks.map D.int))), sl b (kDc K), x7, x8, x9, x10, x11, x12, x13, x14, some (.sh (.int k)), x16, none], st, []⟩ =
      .ok (.own (.lst ((K.filterMap fun p => if p.2.1 = k then some p.2.2 else none).map D.int))) ⟨[s0, some (.sh (.obj 0)), some (.sh (.obj 1)), x3, x4, some (.sh (.lst (racks.map D.int))), sl false (kDc K), x7, x8, x9, x10, x11, x12, x13, x14, some (.sh (.int k)), x16, none], st, []⟩ := by
  have hlc : eLc (iDct keysD' (eBor 6)) [17] (gtName 17) (eTest (eBin gEq (eBin gIx (eBin gIx (eVar 6) (eVar 17)) (eC (.int 0))) (eVar 15))) (eBin gIx (eBin gIx (eVar 6) (eVar 17)) (eC (.int 1))) ⟨[s0, some (.sh (.obj 0)), some (.sh (.obj 1)), x3, x4, some (.sh (.lst (racks.map D.int))), some (.sh (kDc K)), x7, x8, x9, x10, x11, x12, x13, x14, some (.sh (.int k)), x16, none], st, []⟩ =
      .ok (.own (.lst ((K.filterMap fun p => if p.2.1 = k then some p.2.2 else none).map D.int))) ⟨[s0, some (.sh (.obj 0)), some (.sh (.obj 1)), x3, x4, some (.sh (.lst (racks.map D.int))), some (.sh (kDc K)), x7, x8, x9, x10, x11, x12, x13, x14, some (.sh (.int k)), x16, none], st, []⟩ := by
    rw [eLc_pure (src := .pur) (ds := (K.map (·.1)).map D.str) (w1 := ⟨[s0, some (.sh (.obj 0)), some (.sh (.obj 1)), x3, x4, some (.sh (.lst (racks.map D.int))), some (.sh (kDc K)), x7, x8, x9, x10, x11, x12, x13, x14, some (.sh (.int k)), x16, none], st, []⟩) (fun d => match d with
      | .str n => (match lookL K n with
        | some q => if q.1 = k then some (.int q.2) else none
        | none => none)
      | _ => none) (by simp [keys_sm]) rfl (by simpa using Nat.le_trans hl (by decide)) ?_]
    · have e : ((K.map (·.1)).map D.str).filterMap (fun d => match d with
        | .str n => (match lookL K n with
          | some q => if q.1 = k then some (D.int q.2) else none
          | none => none)
        | _ => none) = (K.filterMap fun p => if p.2.1 = k then some p.2.2 else none).map D.int := by
        rw [← used_eq hn k, List.filterMap_map, List.map_filterMap]
        congr 1
        funext n
        simp only [Function.comp]
        cases lookL K n with
        | none => rfl
        | some q =>
          simp only
          split <;> rfl
      rw [e]
      simp
    · intro d hd
      obtain ⟨n, hn, rfl⟩ := List.mem_map.mp hd
      obtain ⟨q, hq⟩ := Option.isSome_iff_exists.mp ((mem_keys K n).mp hn)
      by_cases h : q.1 = k
      · simp [turnC, hq, kV, atI, ixN, h]
      · simp [turnC, hq, kV, atI, ixN, h]
  cases b with
  | true =>
    simp only [e_lock, e_esc, e_var, List.getElem?_cons_succ, List.getElem?_cons_zero, sl_t, bind_ok, escR_bor, List.set_cons_succ, List.set_cons_zero, dctOf_dct, Option.isSome_some, if_true, lockW_dct, hlc, sl_f]
  | false =>
    simp only [e_lock, e_esc, e_var, List.getElem?_cons_succ, List.getElem?_cons_zero, sl_f, bind_ok, escR_sh, dctOf_dct, Option.isSome_some, if_true, lockW_dct, hlc]
theorem frees_loop {K : List KT} (hn : (K.map (·.1)).Nodup) (hl : K.length ≤ 100) (s0 x3 x4 x7 x8 x9 x10 x11 x12 x13 x14 x16 : Option S) (racks : List Int) (st : List Ob) : ∀ (ks : List Nat) (b : Bool), (∀ k ∈ ks, k < racks.length) → ∃ b', lcL [15] .pur (gtName 15) mYes (eBin gSub (eBin gIx (eVar 5) (eVar 15)) (eCall gSum (aCons (eLock (eEsc (eVar 6)) (eLc (iDct keysD' (eBor 6)) [17] (gtName 17) (eTest (eBin gEq (eBin gIx (eBin gIx (eVar 6) (eVar 17)) (eC (.int 0))) (eVar 15))) (eBin gIx (eBin gIx (eVar 6) (eVar 17)) (eC (.int 1))))) aNil))) (ks.map fun k => D.int (k : Nat)) ⟨ef s0 x3 x4 racks (sl b (kDc K)) x7 x8 x9 x10 x11 x12 x13 x14 x16, st, []⟩ =
      .ok ((ks.map fun k => fr racks K (k : Nat)).map D.int) ⟨ef s0 x3 x4 racks (sl b' (kDc K)) x7 x8 x9 x10 x11 x12 x13 x14 x16, st, []⟩
  | [], b, _ => ⟨b, lcL_nil rfl⟩
  | k :: ks, b, hk => by
    obtain ⟨b', ih⟩ := frees_loop hn hl s0 x3 x4 x7 x8 x9 x10 x11 x12 x13 x14 x16 racks st ks false (fun j hj => hk j (.tail _ hj))
    refine ⟨b', ?_⟩
    have hk0 := hk k (.head _)
    have hi := inner_used hn hl b (k : Int) s0 x3 x4 x7 x8 x9 x10 x11 x12 x13 x14 x16 racks st
    refine (lcL_cons (o := some (.int (fr racks K (k : Nat)))) (w2 := ⟨ef s0 x3 x4 racks (sl false (kDc K)) x7 x8 x9 x10 x11 x12 x13 x14 x16, st, []⟩) rfl ?_ ih).trans ?_
    · have ha := atI_map D.int racks (k : Int) 0 (by omega) (by omega)
      simp only [turnC, gt_name, m_yes, e_bin, e_var, List.getElem?_cons_succ, List.getElem?_cons_zero, List.set_cons_succ, List.set_cons_zero, bind_ok, R_d_sh, deref_lst, deref_int, gIx_lst, ha, Option.map_some, e_call, a_cons, a_nil, if_true, hi, dAll_cons, dAll_nil, R_d_own, gSum_lst, intsD_map, gSub_int]
      simp [fr, used]
    · rfl
theorem b_free {K : List KT} (hn : (K.map (·.1)).Nodup) (hl : K.length ≤ 100) (s0 x3 x4 x7 x8 x9 x10 x11 x12 x13 x14 x16 : Option S) (racks : List Int) (st : List Ob) (b : Bool) (hr : racks.length ≤ 100) : ∃ b', sSet 4 (eLc (iArg fRng1 (aCons (eCall gLen (aCons (eVar 5) aNil)) aNil)) [15] (gtName 15) mYes (eBin gSub (eBin gIx (eVar 5) (eVar 15)) (eCall gSum (aCons (eLock (eEsc (eVar 6)) (eLc (iDct keysD' (eBor 6)) [17] (gtName 17) (eTest (eBin gEq (eBin gIx (eBin gIx (eVar 6) (eVar 17)) (eC (.int 0))) (eVar 15))) (eBin gIx (eBin gIx (eVar 6) (eVar 17)) (eC (.int 1))))) aNil)))) ⟨ef s0 x3 x4 racks (sl b (kDc K)) x7 x8 x9 x10 x11 x12 x13 x14 x16, st, []⟩ =
      .ok .nx ⟨ef s0 x3 (some (.own (.lst ((frs racks K).map D.int)))) racks (sl b' (kDc K)) x7 x8 x9 x10 x11 x12 x13 x14 x16, st, []⟩ := by
  obtain ⟨b', h⟩ := frees_loop hn hl s0 x3 x4 x7 x8 x9 x10 x11 x12 x13 x14 x16 racks st (List.range racks.length) b (fun k hk => List.mem_range.mp hk)
  refine ⟨b', ?_⟩
  have hl2 : racks.length ≤ 16777216 := by omega
  rw [s_set_, eLc_of (src := .pur) (ds := (List.range racks.length).map fun k => D.int (k : Nat)) (w1 := ⟨ef s0 x3 x4 racks (sl b (kDc K)) x7 x8 x9 x10 x11 x12 x13 x14 x16, st, []⟩) (by simp [fRng1_nat hl2, rangeD_eq]) (by simpa using hl2) h]
  simp
theorem b_check {K : List KT} (L : List LT) (o : Ob) (s0 x3 x7 x8 x9 x10 x11 x12 x13 x14 x16 : Option S) (racks : List Int) (x6 : Option S) (hr : racks.length ≤ 100) : sIf (eTest (eBin gNe (eLc (iArg fRng1 (aCons (eCall gLen (aCons (eVar 5) aNil)) aNil)) [15] (gtName 15) mYes (eEsc (eMeth "Loft" "free" 2 f_Loft_free (eVar 2) (aCons (eEsc (eVar 15)) aNil)))) (eVar 4))) (sRet (eC (.bl false))) sSkip
    ⟨ef s0 x3 (some (.own (.lst ((frs racks K).map D.int)))) racks x6 x7 x8 x9 x10 x11 x12 x13 x14 x16, ST o racks K L [], []⟩ = .ok .nx ⟨ef s0 x3 (some (.own (.lst ((frs racks K).map D.int)))) racks x6 x7 x8 x9 x10 x11 x12 x13 x14 x16, ST o racks K L [], []⟩ := by
  have hl2 : racks.length ≤ 16777216 := by omega
  have hlc : eLc (iArg fRng1 (aCons (eCall gLen (aCons (eVar 5) aNil)) aNil)) [15] (gtName 15) mYes (eEsc (eMeth "Loft" "free" 2 f_Loft_free (eVar 2) (aCons (eEsc (eVar 15)) aNil))) ⟨ef s0 x3 (some (.own (.lst ((frs racks K).map D.int)))) racks x6 x7 x8 x9 x10 x11 x12 x13 x14 x16, ST o racks K L [], []⟩ =
      .ok (.own (.lst ((frs racks K).map D.int))) ⟨ef s0 x3 (some (.own (.lst ((frs racks K).map D.int)))) racks x6 x7 x8 x9 x10 x11 x12 x13 x14 x16, ST o racks K L [], []⟩ := by
    rw [eLc_pure (src := .pur) (ds := rangeD 0 racks.length) (w1 := ⟨ef s0 x3 (some (.own (.lst ((frs racks K).map D.int)))) racks x6 x7 x8 x9 x10 x11 x12 x13 x14 x16, ST o racks K L [], []⟩) (fun d => match d with
      | .int k => some (.int (fr racks K k))
      | _ => none) ?_ rfl (by simpa [rangeD] using hl2) ?_]
    · simp [rangeD_eq, List.filterMap_map, Function.comp_def, frs]
    · simp [fRng1_nat hl2]
    · intro d hd
      rw [rangeD_eq] at hd
      obtain ⟨k, hk, rfl⟩ := List.mem_map.mp hd
      have hk' : (0 : Int) ≤ (k : Int) ∧ (k : Int) < racks.length := by
        have := List.mem_range.mp hk
        omega
      have hf := free_eq o racks K L [] [] k
      rw [if_pos hk'] at hf
      simp [turnC, hf]
  have hne : gNe (.lst ((frs racks K).map D.int)) (.lst ((frs racks K).map D.int)) = some (.sh (.bl false)) := gNe_self (n := 1) (by simp) (by decide)
  refine if_f (w' := ⟨ef s0 x3 (some (.own (.lst ((frs racks K).map D.int)))) racks x6 x7 x8 x9 x10 x11 x12 x13 x14 x16, ST o racks K L [], []⟩) ?_ rfl
  simp only [e_test, e_bin, hlc, bind_ok, e_var, List.getElem?_cons_succ, List.getElem?_cons_zero, R_d_own, R_d_bor, hne]
theorem b_good {K : List KT} (s0 x3 x6 x7 x10 x11 x12 x13 x14 x16 : Option S) (racks : List Int) (x9 : Option S) (size : Int) (st : List Ob) (hr : racks.length ≤ 100) : sSet 9 (eLc (iArg fRng1 (aCons (eCall gLen (aCons (eVar 5) aNil)) aNil)) [15] (gtName 15) (eTest (eBin gGe (eBin gIx (eVar 4) (eVar 15)) (eVar 8))) (eTup (aCons (eBin gIx (eVar 4) (eVar 15)) (aCons (eEsc (eVar 15)) aNil))))
    ⟨ef s0 x3 (some (.own (.lst ((frs racks K).map D.int)))) racks x6 x7 (some (.sh (.int size))) x9 x10 x11 x12 x13 x14 x16, st, []⟩ = .ok .nx ⟨ef s0 x3 (some (.own (.lst ((frs racks K).map D.int)))) racks x6 x7 (some (.sh (.int size))) (some (.own (.lst ((gd racks K size).map gV)))) x10 x11 x12 x13 x14 x16, st, []⟩ := by
  have hl2 : racks.length ≤ 16777216 := by omega
  rw [s_set_, eLc_pure (src := .pur) (ds := rangeD 0 racks.length) (w1 := ⟨ef s0 x3 (some (.own (.lst ((frs racks K).map D.int)))) racks x6 x7 (some (.sh (.int size))) x9 x10 x11 x12 x13 x14 x16, st, []⟩) (fun d => match d with
    | .int k => if size ≤ fr racks K k then some (gV (fr racks K k, k)) else none
    | _ => none) ?_ rfl (by simpa [rangeD] using hl2) ?_]
  · have e : (rangeD 0 racks.length).filterMap (fun d => match d with
      | .int k => if size ≤ fr racks K k then some (gV (fr racks K k, k)) else none
      | _ => none) = (gd racks K size).map gV := by
      simp [rangeD_eq, gd, List.filterMap_map, Function.comp_def, List.map_filterMap]
    rw [e]
    simp
  · simp [fRng1_nat hl2]
  · intro d hd
    rw [rangeD_eq] at hd
    obtain ⟨k, hk, rfl⟩ := List.mem_map.mp hd
    have hk := List.mem_range.mp hk
    have ha : atI ((frs racks K).map D.int) (k : Int) = some (.int (fr racks K (k : Nat))) := by
      rw [atI_map D.int (frs racks K) (k : Int) 0 (by omega) (by simp [frs]; omega)]
      simp [frs, hk]
    generalize frs racks K = F at ha
    by_cases h : size ≤ fr racks K (k : Int)
    · simp only [turnC]
      simp [ha, h, gV]
    · simp only [turnC]
      simp [ha, h]
end Lk18
set_option maxHeartbeats 2000000
/-! K18j: a turn's branches. -/
namespace Lk18
open PySem PySem.W L2 Rf
open PyProof.Rows hiding St

structure Inv (racks : List Int) (K : List KT) (L L' : List LT) (n : Nat) : Prop where
  kn : (K.map (·.1)).Nodup
  ln : (names L).Nodup
  p : L'.Perm L
  dj : ∀ x ∈ K.map (·.1), lookL L x = none
  kok : ∀ x ∈ K.map (·.1), PyData.strOk x = true
  lok : ∀ x ∈ names L, PyData.strOk x = true ∧ x ≠ ""
  low : ∀ q ∈ L, PyData.strOk q.2.1 = true
  kpos : ∀ q ∈ K, 1 ≤ q.2.2
  lpos : ∀ q ∈ L, 1 ≤ q.2.2
  sz : K.length + L.length + n ≤ 100
theorem Inv.lk {racks : List Int} {K : List KT} {L L' : List LT} {n : Nat} (h : Inv racks K L L' n) (x : Str) : lookL L' x = lookL L x := (lookL_perm h.p.symm h.ln x).symm
theorem Inv.l'n {racks : List Int} {K : List KT} {L L' : List LT} {n : Nat} (h : Inv racks K L L' n) : (L'.map (·.1)).Nodup := (h.p.map _).nodup_iff.mpr h.ln
theorem Inv.l'l {racks : List Int} {K : List KT} {L L' : List LT} {n : Nat} (h : Inv racks K L L' n) : L'.length = L.length := h.p.length_eq
theorem Inv.mono {racks : List Int} {K : List KT} {L L' : List LT} {n : Nat} (h : Inv racks K L L' (n + 1)) : Inv racks K L L' n := ⟨h.kn, h.ln, h.p, h.dj, h.kok, h.lok, h.low, h.kpos, h.lpos, by have := h.sz; omega⟩
theorem name_ok {r : Int} (h0 : 0 ≤ r) (h1 : r < 5) : ∃ n, gIx (.str "pqrst") (.int r) = some (.sh (.str n)) ∧ PyData.strOk n = true ∧ n ≠ "" := by
  have : r = 0 ∨ r = 1 ∨ r = 2 ∨ r = 3 ∨ r = 4 := by omega
  rcases this with rfl | rfl | rfl | rfl | rfl
  · exact ⟨"p", by rfl, by decide +kernel, by decide +kernel⟩
  · exact ⟨"q", by rfl, by decide +kernel, by decide +kernel⟩
  · exact ⟨"r", by rfl, by decide +kernel, by decide +kernel⟩
  · exact ⟨"s", by rfl, by decide +kernel, by decide +kernel⟩
  · exact ⟨"t", by rfl, by decide +kernel, by decide +kernel⟩
theorem who_ok {r : Int} (h0 : 0 ≤ r) (h1 : r < 5) : ∃ n, atI [D.str "ann", .str "bo", .str ""] (r.fdiv 2) = some (.str n) ∧ PyData.strOk n = true := by
  have : r = 0 ∨ r = 1 ∨ r = 2 ∨ r = 3 ∨ r = 4 := by omega
  rcases this with rfl | rfl | rfl | rfl | rfl
  · exact ⟨"ann", by rfl, by decide +kernel⟩
  · exact ⟨"ann", by rfl, by decide +kernel⟩
  · exact ⟨"bo", by rfl, by decide +kernel⟩
  · exact ⟨"bo", by rfl, by decide +kernel⟩
  · exact ⟨"", by rfl, by decide +kernel⟩
theorem b_draw (d : Dice) (K : List KT) (L : List LT) (s0 x3 x4 x6 x7 x8 x9 x10 x11 x12 x13 x14 x16 : Option S) (racks : List Int) : ∃ (sort long : Int) (name who : Str) (d' : Dice), PyData.strOk name = true ∧ name ≠ "" ∧ PyData.strOk who = true ∧
    (sAsgT (eTup (aCons (eEsc (eFn 2 f__law_roll (aCons (eEsc (eVar 1)) (aCons (eC (.int 6)) aNil)))) (aCons (eBin gIx (eC (.str "pqrst")) (eFn 2 f__law_roll (aCons (eEsc (eVar 1)) (aCons (eC (.int 5)) aNil)))) (aCons (eEsc (eFn 2 f__law_roll (aCons (eEsc (eVar 1)) (aCons (eC (.int 12)) aNil)))) (aCons (eBin gIx (eLst (aCons (eC (.str "ann")) (aCons (eC (.str "bo")) (aCons (eC (.str "")) aNil)))) (eBin gDiv (eFn 2 f__law_roll (aCons (eEsc (eVar 1)) (aCons (eC (.int 5)) aNil))) (eC (.int 2)))) aNil))))) (gtTup 4 (gtCons (gtName 10) (gtCons (gtName 11) (gtCons (gtName 12) (gtCons (gtName 13) gtNil)))))) ⟨ef s0 x3 x4 racks x6 x7 x8 x9 x10 x11 x12 x13 x14 x16, ST d.o racks K L [], []⟩ = .ok .nx ⟨ef s0 x3 x4 racks x6 x7 x8 x9 (some (.sh (.int sort))) (some (.sh (.str name))) (some (.sh (.int long))) (some (.sh (.str who))) x14 x16, ST d'.o racks K L [], []⟩ := by
  obtain ⟨n, e1, e2, e3⟩ := name_ok (Dice.r_lo (d.n 6) (many := 5) (by decide)) (Dice.r_hi (d.n 6) (by decide))
  obtain ⟨q, f1, f2⟩ := who_ok (Dice.r_lo (((d.n 6).n 5).n 12) (many := 5) (by decide)) (Dice.r_hi (((d.n 6).n 5).n 12) (by decide))
  refine ⟨d.r 6, ((d.n 6).n 5).r 12, n, q, (((d.n 6).n 5).n 12).n 5, e2, e3, f2, ?_⟩
  simp [roll_st, e1, f1]
theorem in_deed : gInB (.str "deed") (.lst [.str "deed", .str "size", .str "no room"]) = some true := by
  rw [gIn_lst (n := 0) (m := 0) (by decide +kernel) (by decide +kernel) (by decide) (by decide)]; simp
theorem in_size : gInB (.str "size") (.lst [.str "deed", .str "size", .str "no room"]) = some true := by
  rw [gIn_lst (n := 0) (m := 0) (by decide +kernel) (by decide +kernel) (by decide) (by decide)]; simp
theorem in_room : gInB (.str "no room") (.lst [.str "deed", .str "size", .str "no room"]) = some true := by
  rw [gIn_lst (n := 0) (m := 0) (by decide +kernel) (by decide +kernel) (by decide) (by decide)]; simp
theorem in_int (r : Int) : gInB (.int r) (.lst [.str "deed", .str "size", .str "no room"]) = some false := by
  rw [gIn_lst (n := 0) (m := 0) (by decide +kernel) (by simp) (by decide) (by decide)]; simp
theorem eq_dr : gEq (.str "deed") (.str "no room") = some (.sh (.bl false)) := by
  rw [gEq_str (by decide +kernel) (by decide +kernel)]
  exact congrArg (fun b => some (R.sh (.bl b))) (by decide +kernel)
theorem eq_sr : gEq (.str "size") (.str "no room") = some (.sh (.bl false)) := by
  rw [gEq_str (by decide +kernel) (by decide +kernel)]
  exact congrArg (fun b => some (R.sh (.bl b))) (by decide +kernel)
theorem eq_rr : gEq (.str "no room") (.str "no room") = some (.sh (.bl true)) := by
  rw [gEq_str (by decide +kernel) (by decide +kernel)]; simp
theorem ne_dd : gNe (.str "deed") (.str "deed") = some (.sh (.bl false)) := gNe_self (n := 0) (by decide +kernel) (by decide)
theorem ne_ss : gNe (.str "size") (.str "size") = some (.sh (.bl false)) := gNe_self (n := 0) (by decide +kernel) (by decide)
theorem ne_rr : gNe (.str "no room") (.str "no room") = some (.sh (.bl false)) := gNe_self (n := 0) (by decide +kernel) (by decide)
theorem ne_uu : gNe (.str "no such") (.str "no such") = some (.sh (.bl false)) := gNe_self (n := 0) (by decide +kernel) (by decide)
theorem gNe_gd (l : List (Int × Int)) : gNe (.lst (l.map gV)) (.lst []) = some (.sh (.bl (!decide (l = [])))) := by
  rw [gNe_pl (n := 2) (m := 1) (by simp [gV]) rfl (by decide) (by decide)]
  cases l <;> simp
theorem br_put {racks : List Int} {K : List KT} {L L' : List LT} {n : Nat} (h : Inv racks K L L' (n + 1)) (o : Ob) (b6 b7 : Bool) (s0 x3 x4 x13 x14 x16 : Option S) (sort long : Int) (name : Str) (hn : PyData.strOk name = true) (hne : name ≠ "") (hl : racks.length ≤ 3) :
    ∃ K2 x14', Inv racks K2 L L' n ∧ (sSeq (sSet 14 (eIf (bOr (eTest (eBin gIn1 (eVar 11) (eVar 6))) (eTest (eBin gIn1 (eVar 11) (eVar 7)))) (eC (.str "deed")) (eIf (eTest (eBin gLt (eVar 12) (eC (.int 1)))) (eC (.str "size")) (eC (.str "no room"))))) (sSeq (sSet 14 (eIf (bAnd (eTest (eBin gEq (eVar 14) (eC (.str "no room")))) (eTest (eBin gNe (eVar 9) (eLst aNil)))) (eBin gIx (eCall gMin (aCons (eVar 9) aNil)) (eC (.int 1))) (eVar 14))) (sSeq (sIf (eTest (eBin gNe (eTold toldL (eMeth "Loft" "put" 3 f_Loft_put (eVar 2) (aCons (eEsc (eVar 11)) (aCons (eEsc (eVar 12)) aNil)))) (eVar 14))) (sRet (eC (.bl false))) sSkip) (sSet 6 (eCall gDict (aCons (eBin gAdd (eUn gListI (eVar 6)) (eIf (eTest (eBin gNotIn1 (eVar 14) (eLst (aCons (eC (.str "deed")) (aCons (eC (.str "size")) (aCons (eC (.str "no room")) aNil)))))) (eLst (aCons (eTup (aCons (eEsc (eVar 11)) (aCons (eTup (aCons (eEsc (eVar 14)) (aCons (eEsc (eVar 12)) aNil))) aNil))) aNil)) (eLst aNil))) aNil)))))) ⟨ef s0 x3 x4 racks (sl b6 (kDc K)) (sl b7 (lDc L')) (some (.sh (.int long))) (some (.own (.lst ((gd racks K long).map gV)))) (some (.sh (.int sort))) (some (.sh (.str name))) (some (.sh (.int long))) x13 x14 x16, ST o racks K L [], []⟩ =
      .ok .nx ⟨ef s0 x3 x4 racks (sl true (kDc K2)) (sl b7 (lDc L')) (some (.sh (.int long))) (some (.own (.lst ((gd racks K long).map gV)))) (some (.sh (.int sort))) (some (.sh (.str name))) (some (.sh (.int long))) x13 x14' x16, ST o racks K2 L [], []⟩ := by
  have hsz := h.sz
  have hK : K.length ≤ 100 := by omega
  have hKs : K.length ≤ 16777216 := by omega
  have hput := put_eq o racks K L [] name long hn (by omega) hK
  have hdi := gDict_items (g := kV) h.kn (by omega)
  have hil : (itemsD (sm kV K)).length = K.length := by simp [itemsD]
  by_cases h1 : (lookL K name).isSome = true ∨ (lookL L name).isSome = true
  · refine ⟨K, some (.sh (.str "deed")), h.mono, ?_⟩
    unfold putO at hput
    rw [if_pos (.inr h1)] at hput
    have hlk := h.lk name
    rcases h1 with h1 | h1
    · cases b6 <;> cases b7 <;> simp [h1, hput, eq_dr, ne_dd, in_deed, hKs, hil, hdi]
    · by_cases h2 : (lookL K name).isSome = true
      · cases b6 <;> cases b7 <;> simp [h2, hput, eq_dr, ne_dd, in_deed, hKs, hil, hdi]
      · cases b6 <;> cases b7 <;> simp [h2, hlk, h1, hput, eq_dr, ne_dd, in_deed, hKs, hil, hdi]
  · have h2 : ¬ (lookL K name).isSome = true := fun z => h1 (.inl z)
    have h3 : ¬ (lookL L name).isSome = true := fun z => h1 (.inr z)
    have hlk := h.lk name
    unfold putO at hput
    rw [if_neg (fun z => z.elim hne fun z => z.elim h2 h3)] at hput
    by_cases h4 : long < 1
    · rw [if_pos h4] at hput
      refine ⟨K, some (.sh (.str "size")), h.mono, ?_⟩
      cases b6 <;> cases b7 <;> simp [h2, h3, hlk, h4, hput, eq_sr, ne_ss, in_size, hKs, hil, hdi]
    · rw [if_neg h4] at hput
      cases hg : gd racks K long with
      | nil =>
        rw [hg] at hput
        refine ⟨K, some (.sh (.str "no room")), h.mono, ?_⟩
        cases b6 <;> cases b7 <;> simp [h2, h3, hlk, h4, hput, best, eq_rr, ne_rr, in_room, hKs, hil, hdi]
      | cons q r =>
        rw [hg] at hput
        have hbest : best (gd racks K long) = some (bst q r).2 := by rw [hg]; rfl
        have hk0 : lookL K name = none := by simpa using h2
        have hds := gDict_snoc (g := kV) h.kn (by omega) name ((bst q r).2, long)
        rw [putL_new hk0] at hds
        refine ⟨K ++ [(name, (bst q r).2, long)], some (.sh (.int (bst q r).2)), ?_, ?_⟩
        · refine ⟨?_, h.ln, h.p, fun x hx => ?_, fun x hx => ?_, h.lok, h.low, fun z hz => ?_, h.lpos, by simp; omega⟩
          · rw [List.map_append, List.nodup_append]
            refine ⟨h.kn, by simp, fun a ha c hc e => ?_⟩
            simp at hc
            obtain ⟨z, hz, rfl⟩ := List.mem_map.mp ha
            exact lookL_none.mp hk0 z hz (e.trans hc)
          · rw [List.map_append] at hx
            rcases List.mem_append.mp hx with hx | hx
            · exact h.dj x hx
            · simp at hx; rw [hx]; simpa using h3
          · rw [List.map_append] at hx
            rcases List.mem_append.mp hx with hx | hx
            · exact h.kok x hx
            · simp at hx; rw [hx]; exact hn
          · rcases List.mem_append.mp hz with hz | hz
            · exact h.kpos z hz
            · simp at hz; rw [hz]; show 1 ≤ long; omega
        · have eg := gNe_gd (q :: r)
          simp at eg
          have hi1 : K.length ≤ 16777215 := by omega
          simp only [kV] at hds
          cases b6 <;> cases b7 <;> simp [h2, h3, hlk, h4, hput, best, eq_rr, in_int, hKs, hil, hi1, hds, eg, gMin_gV, atI, ixN]
end Lk18
set_option maxHeartbeats 2000000
/-! K18k: lend and bring, in the law. -/
namespace Lk18
open PySem PySem.W L2 Rf
open PyProof.Rows hiding St

theorem drop_perm {β : Type} {l : List (Str × β)} {x : Str} {v : β} (hn : (l.map (·.1)).Nodup) (h : lookL l x = some v) : (dropL l x ++ [(x, v)]).Perm l := by
  refine List.perm_append_comm.trans ?_
  induction l with
  | nil => cases h
  | cons p r ih =>
    obtain ⟨a, b⟩ := p
    rw [List.map_cons, List.nodup_cons] at hn
    unfold dropL at ih ⊢
    by_cases e : a = x
    · rw [List.filter_cons_of_neg (by simp [e])]
      have : r.filter (fun p => decide (p.1 ≠ x)) = r := List.filter_eq_self.mpr fun q hq => by
        simp only [decide_eq_true_eq]
        intro z
        exact hn.1 (List.mem_map.mpr ⟨q, hq, z.trans e.symm⟩)
      rw [this]
      rw [lookL_cons, if_pos e] at h
      cases h
      rw [e]
      exact List.Perm.refl _
    · rw [List.filter_cons_of_pos (by simp [e])]
      rw [lookL_cons, if_neg e] at h
      exact (List.Perm.swap _ _ _).trans ((ih hn.2 h).cons _)
theorem keep_lc {β : Type} {g : β → D} (l : List (Str × β)) (hn : (l.map (·.1)).Nodup) (t : Str → Bool) : ((l.map (·.1)).map D.str).filterMap (fun d => match d with
    | .str n => if t n = true then (lookL l n).map (fun v => D.tup [.str n, g v]) else none
    | _ => none) = itemsD (dm D.str g (l.filter fun p => t p.1)) := by
  rw [items_dm, List.map_map, List.filterMap_map, ← List.filterMap_eq_map, List.filterMap_filter]
  refine filterMap_congr' fun p hp => ?_
  simp only [Function.comp, lookL_of_mem hn (b := p.2) hp]
  rfl
theorem keep_k {K : List KT} (hn : (K.map (·.1)).Nodup) (hok : ∀ x ∈ K.map (·.1), PyData.strOk x = true) (hl : K.length ≤ 100) (b : Bool) (due : D) (name : Str) (ho : PyData.strOk name = true) (s0 x3 x4 x7 x8 x9 x10 x12 x13 x16 : Option S) (racks : List Int) (st : List Ob) :
    eLock (eEsc (eVar 6)) (eLc (iDct keysD' (eBor 6)) [17] (gtName 17) (bOr (eTest (eBin gNe (eVar 17) (eVar 11))) (eTest (eBin gIsNot (eVar 14) (eC .non)))) (eTup (aCons (eEsc (eVar 17)) (aCons (eBin gIx (eVar 6) (eVar 17)) aNil)))) ⟨ef s0 x3 x4 racks (sl b (kDc K)) x7 x8 x9 x10 (some (.sh (.str name))) x12 x13 (some (.sh due)) x16, st, []⟩ =
      .ok (.own (.lst (itemsD (sm kV (K.filter fun p => !decide (p.1 = name) || !decide (due = .non)))))) ⟨ef s0 x3 x4 racks (sl false (kDc K)) x7 x8 x9 x10 (some (.sh (.str name))) x12 x13 (some (.sh due)) x16, st, []⟩ ∨ ∃ n, due = .obj n := by
  by_cases hd : ∃ n, due = .obj n
  · exact .inr hd
  refine .inl ?_
  have hder : ∀ w : W, deref w due = due := fun w => by
    cases due with
    | obj n => exact (hd ⟨n, rfl⟩).elim
    | _ => rfl
  have hlc : eLc (iDct keysD' (eBor 6)) [17] (gtName 17) (bOr (eTest (eBin gNe (eVar 17) (eVar 11))) (eTest (eBin gIsNot (eVar 14) (eC .non)))) (eTup (aCons (eEsc (eVar 17)) (aCons (eBin gIx (eVar 6) (eVar 17)) aNil))) ⟨ef s0 x3 x4 racks (some (.sh (kDc K))) x7 x8 x9 x10 (some (.sh (.str name))) x12 x13 (some (.sh due)) x16, st, []⟩ =
      .ok (.own (.lst (itemsD (sm kV (K.filter fun p => !decide (p.1 = name) || !decide (due = .non)))))) ⟨ef s0 x3 x4 racks (some (.sh (kDc K))) x7 x8 x9 x10 (some (.sh (.str name))) x12 x13 (some (.sh due)) x16, st, []⟩ := by
    rw [eLc_pure (src := .pur) (ds := (K.map (·.1)).map D.str) (w1 := ⟨ef s0 x3 x4 racks (some (.sh (kDc K))) x7 x8 x9 x10 (some (.sh (.str name))) x12 x13 (some (.sh due)) x16, st, []⟩) (fun d => match d with
      | .str n => if (!decide (n = name) || !decide (due = .non)) = true then (lookL K n).map (fun v => D.tup [.str n, kV v]) else none
      | _ => none) (by simp [keys_sm]) rfl (by simpa using Nat.le_trans hl (by decide)) ?_]
    · rw [keep_lc K hn (fun n => !decide (n = name) || !decide (due = .non))]
      simp
    · intro d hd
      obtain ⟨n, hm, rfl⟩ := List.mem_map.mp hd
      obtain ⟨q, hq⟩ := Option.isSome_iff_exists.mp ((mem_keys K n).mp hm)
      have en := gNe_str (hok n hm) ho
      by_cases h1 : n = name
      · subst h1
        have en2 : gNe (.str n) (.str n) = some (.sh (.bl false)) := by rw [en]; simp
        by_cases h2 : due = .non
        · subst h2
          simp [turnC, en2]
        · simp [turnC, en2, h2, hder, hq]
      · simp [turnC, en, h1, hq]
  cases b with
  | true =>
    simp only [e_lock, e_esc, e_var, List.getElem?_cons_succ, List.getElem?_cons_zero, sl_t, bind_ok, escR_bor, List.set_cons_succ, List.set_cons_zero, dctOf_dct, Option.isSome_some, if_true, lockW_dct, hlc, sl_f]
  | false =>
    simp only [e_lock, e_esc, e_var, List.getElem?_cons_succ, List.getElem?_cons_zero, sl_f, bind_ok, escR_sh, dctOf_dct, Option.isSome_some, if_true, lockW_dct, hlc]
theorem ne_nn : gNe .non .non = some (.sh (.bl false)) := gNe_self (n := 0) rfl (by decide)
theorem filter_all {α : Type} {l : List α} {t : α → Bool} (h : ∀ x ∈ l, t x = true) : l.filter t = l := List.filter_eq_self.mpr h
theorem Inv.same {racks : List Int} {K : List KT} {L L' : List LT} {n : Nat} (h : Inv racks K L L' n) {L2 : List LT} (p : L2.Perm L) : Inv racks K L2 L' n := by
  have pm := p.map (·.1)
  have ln : (names L2).Nodup := pm.nodup_iff.mpr h.ln
  exact ⟨h.kn, ln, h.p.trans p.symm, fun x hx => by rw [lookL_perm p ln]; exact h.dj x hx, h.kok, fun x hx => h.lok x (pm.mem_iff.mp hx), fun q hq => h.low q (p.mem_iff.mp hq), h.kpos, fun q hq => h.lpos q (p.mem_iff.mp hq), by rw [p.length_eq]; exact h.sz⟩
theorem br_lend {racks : List Int} {K : List KT} {L L' : List LT} {n : Nat} (h : Inv racks K L L' (n + 1)) (o : Ob) (b6 b7 : Bool) (s0 x3 x4 x8 x9 x10 x12 x14 x16 : Option S) (name who : Str) (hn : PyData.strOk name = true) (hne : name ≠ "") (hw : PyData.strOk who = true) :
    ∃ K2 L2 L2' x14', Inv racks K2 L2 L2' n ∧ (sSeq (sSet 14 (eIf (eTest (eBin gNotIn1 (eVar 11) (eVar 6))) (eC (.str "no such")) (eIf (eTest (eBin gEq (eVar 13) (eC (.str "")))) (eC (.str "deed")) (eC .non)))) (sSeq (sIf (eTest (eBin gNe (eTold toldL (eMeth "Loft" "lend" 3 f_Loft_lend (eVar 2) (aCons (eEsc (eVar 11)) (aCons (eEsc (eVar 13)) aNil)))) (eVar 14))) (sRet (eC (.bl false))) sSkip) (sSeq (sSet 7 (eCall gDict (aCons (eBin gAdd (eUn gListI (eVar 7)) (eIf (eTest (eBin gIs (eVar 14) (eC .non))) (eLst (aCons (eTup (aCons (eEsc (eVar 11)) (aCons (eTup (aCons (eEsc (eVar 13)) (aCons (eBin gIx (eBin gIx (eVar 6) (eVar 11)) (eC (.int 1))) aNil))) aNil))) aNil)) (eLst aNil))) aNil))) (sSet 6 (eCall gDict (aCons (eLock (eEsc (eVar 6)) (eLc (iDct keysD' (eBor 6)) [17] (gtName 17) (bOr (eTest (eBin gNe (eVar 17) (eVar 11))) (eTest (eBin gIsNot (eVar 14) (eC .non)))) (eTup (aCons (eEsc (eVar 17)) (aCons (eBin gIx (eVar 6) (eVar 17)) aNil))))) aNil)))))) ⟨ef s0 x3 x4 racks (sl b6 (kDc K)) (sl b7 (lDc L')) x8 x9 x10 (some (.sh (.str name))) x12 (some (.sh (.str who))) x14 x16, ST o racks K L [], []⟩ =
      .ok .nx ⟨ef s0 x3 x4 racks (sl true (kDc K2)) (sl true (lDc L2')) x8 x9 x10 (some (.sh (.str name))) x12 (some (.sh (.str who))) x14' x16, ST o racks K2 L2 [], []⟩ := by
  have hsz := h.sz
  have hK : K.length ≤ 100 := by omega
  have hL : L.length ≤ 100 := by omega
  have hLs : L'.length ≤ 16777216 := by rw [h.l'l]; omega
  have hil : (itemsD (sm lV L')).length = L'.length := by simp [itemsD]
  have hdl := gDict_items (g := lV) h.l'n hLs
  have hdk := gDict_items (g := kV) h.kn (by omega)
  have ew : gEq (.str who) (.str "") = some (.sh (.bl (decide (who = "")))) := gEq_str hw (by decide +kernel)
  cases hk : lookL K name with
  | none =>
    have hlend := lend_none o racks K L [] name who hk
    refine ⟨K, L, L', some (.sh (.str "no such")), h.mono, ?_⟩
    have hkeep := (keep_k h.kn h.kok hK b6 (.str "no such") name hn s0 x3 x4 (sl true (lDc L')) x8 x9 x10 x12 (some (.sh (.str who))) x16 racks (ST o racks K L [])).resolve_right (by rintro ⟨n, z⟩; cases z)
    rw [filter_all (by intro x hx; simp)] at hkeep
    refine seq_nx (w' := ⟨ef s0 x3 x4 racks (sl b6 (kDc K)) (sl b7 (lDc L')) x8 x9 x10 (some (.sh (.str name))) x12 (some (.sh (.str who))) (some (.sh (.str "no such"))) x16, ST o racks K L [], []⟩) (by cases b6 <;> simp [hk]) ?_
    refine seq_nx (w' := ⟨ef s0 x3 x4 racks (sl b6 (kDc K)) (sl b7 (lDc L')) x8 x9 x10 (some (.sh (.str name))) x12 (some (.sh (.str who))) (some (.sh (.str "no such"))) x16, ST o racks K L [], []⟩) (by simp [hlend, ne_uu]) ?_
    refine seq_nx (w' := ⟨ef s0 x3 x4 racks (sl b6 (kDc K)) (sl true (lDc L')) x8 x9 x10 (some (.sh (.str name))) x12 (some (.sh (.str who))) (some (.sh (.str "no such"))) x16, ST o racks K L [], []⟩) (by cases b7 <;> simp [hLs, hil, hdl]) ?_
    rw [s_set_, e_call, a_cons, hkeep]
    simp [hdk]
  | some q =>
    by_cases hwe : who = ""
    · subst hwe
      have hlend := lend_who o racks K L [] name hk
      refine ⟨K, L, L', some (.sh (.str "deed")), h.mono, ?_⟩
      have hkeep := (keep_k h.kn h.kok hK b6 (.str "deed") name hn s0 x3 x4 (sl true (lDc L')) x8 x9 x10 x12 (some (.sh (.str ""))) x16 racks (ST o racks K L [])).resolve_right (by rintro ⟨n, z⟩; cases z)
      rw [filter_all (by intro x hx; simp)] at hkeep
      refine seq_nx (w' := ⟨ef s0 x3 x4 racks (sl b6 (kDc K)) (sl b7 (lDc L')) x8 x9 x10 (some (.sh (.str name))) x12 (some (.sh (.str ""))) (some (.sh (.str "deed"))) x16, ST o racks K L [], []⟩) (by cases b6 <;> simp [hk, ew]) ?_
      refine seq_nx (w' := ⟨ef s0 x3 x4 racks (sl b6 (kDc K)) (sl b7 (lDc L')) x8 x9 x10 (some (.sh (.str name))) x12 (some (.sh (.str ""))) (some (.sh (.str "deed"))) x16, ST o racks K L [], []⟩) (by simp [hlend, ne_dd]) ?_
      refine seq_nx (w' := ⟨ef s0 x3 x4 racks (sl b6 (kDc K)) (sl true (lDc L')) x8 x9 x10 (some (.sh (.str name))) x12 (some (.sh (.str ""))) (some (.sh (.str "deed"))) x16, ST o racks K L [], []⟩) (by cases b7 <;> simp [hLs, hil, hdl]) ?_
      rw [s_set_, e_call, a_cons, hkeep]
      simp [hdk]
    · have hl0 : lookL L name = none := h.dj name (List.mem_map.mpr ⟨_, lookL_mem hk, rfl⟩)
      have hl0' : lookL L' name = none := by rw [h.lk]; exact hl0
      have hlend := lend_ok o racks K L [] name who hk hw hwe hl0 hL
      have hL1 : L'.length ≤ 16777215 := by rw [h.l'l]; omega
      have hds := gDict_snoc (g := lV) h.l'n (by omega) name (who, q.2)
      rw [putL_new hl0'] at hds
      simp only [lV] at hds
      have hkeep := (keep_k h.kn h.kok hK b6 .non name hn s0 x3 x4 (sl true (lDc (L' ++ [(name, who, q.2)]))) x8 x9 x10 x12 (some (.sh (.str who))) x16 racks (ST o racks (dropL K name) (L ++ [(name, who, q.2)]) [])).resolve_right (by rintro ⟨n, z⟩; cases z)
      have hfl : (K.filter fun p => !decide (p.1 = name) || !decide (D.non = .non)) = dropL K name := by
        unfold dropL
        congr 1
        funext p
        simp
      rw [hfl] at hkeep
      have hdk2 := gDict_items (g := kV) (dropL_keys (x := name) h.kn) (by have : (dropL K name).length ≤ K.length := List.length_filter_le _ _; omega)
      refine ⟨dropL K name, L ++ [(name, who, q.2)], L' ++ [(name, who, q.2)], some (.sh .non), ?_, ?_⟩
      · have hmem : ∀ x, x ∈ (dropL K name).map (·.1) → x ∈ K.map (·.1) ∧ x ≠ name := fun x hx => by
          obtain ⟨p, hp, rfl⟩ := List.mem_map.mp hx
          have := List.mem_filter.mp hp
          exact ⟨List.mem_map.mpr ⟨p, this.1, rfl⟩, by simpa using this.2⟩
        refine ⟨dropL_keys h.kn, ?_, h.p.append_right _, fun x hx => ?_, fun x hx => h.kok x (hmem x hx).1, fun x hx => ?_, fun z hz => ?_, fun z hz => h.kpos z (List.mem_filter.mp hz).1, fun z hz => ?_, ?_⟩
        · unfold names
          rw [List.map_append, List.nodup_append]
          refine ⟨h.ln, by simp, fun a ha c hc e => ?_⟩
          simp at hc
          obtain ⟨z, hz, rfl⟩ := List.mem_map.mp ha
          exact lookL_none.mp hl0 z hz (e.trans hc)
        · rw [lookL_append, h.dj x (hmem x hx).1]
          simp [Ne.symm (hmem x hx).2]
        · unfold names at hx
          rw [List.map_append] at hx
          rcases List.mem_append.mp hx with hx | hx
          · exact h.lok x hx
          · simp at hx; rw [hx]; exact ⟨hn, hne⟩
        · rcases List.mem_append.mp hz with hz | hz
          · exact h.low z hz
          · simp at hz; rw [hz]; exact hw
        · rcases List.mem_append.mp hz with hz | hz
          · exact h.lpos z hz
          · simp at hz; rw [hz]; exact h.kpos _ (lookL_mem hk)
        · have : (dropL K name).length ≤ K.length := List.length_filter_le _ _
          simp; omega
      · refine seq_nx (w' := ⟨ef s0 x3 x4 racks (sl b6 (kDc K)) (sl b7 (lDc L')) x8 x9 x10 (some (.sh (.str name))) x12 (some (.sh (.str who))) (some (.sh .non)) x16, ST o racks K L [], []⟩) (by cases b6 <;> simp [hk, ew, hwe]) ?_
        refine seq_nx (w' := ⟨ef s0 x3 x4 racks (sl b6 (kDc K)) (sl b7 (lDc L')) x8 x9 x10 (some (.sh (.str name))) x12 (some (.sh (.str who))) (some (.sh .non)) x16, ST o racks (dropL K name) (L ++ [(name, who, q.2)]) [], []⟩) (by simp [hlend, ne_nn]) ?_
        refine seq_nx (w' := ⟨ef s0 x3 x4 racks (sl b6 (kDc K)) (sl true (lDc (L' ++ [(name, who, q.2)]))) x8 x9 x10 (some (.sh (.str name))) x12 (some (.sh (.str who))) (some (.sh .non)) x16, ST o racks (dropL K name) (L ++ [(name, who, q.2)]) [], []⟩) (by cases b6 <;> cases b7 <;> simp [hLs, hL1, hil, hds, hk, kV, atI, ixN]) ?_
        rw [s_set_, e_call, a_cons, hkeep]
        simp [hdk2]
end Lk18
set_option maxHeartbeats 2000000
/-! K18l: bring in the law; what is shown; a turn; the law. -/
namespace Lk18
open PySem PySem.W L2 Rf
open PyProof.Rows hiding St

theorem keep_l {L' : List LT} (hn : (L'.map (·.1)).Nodup) (hok : ∀ x ∈ L'.map (·.1), PyData.strOk x = true) (hl : L'.length ≤ 100) (b back : Bool) (name : Str) (ho : PyData.strOk name = true) (s0 x3 x4 x6 x8 x9 x10 x12 x13 x14 : Option S) (racks : List Int) (st : List Ob) :
    eLock (eEsc (eVar 7)) (eLc (iDct keysD' (eBor 7)) [17] (gtName 17) (bOr (eTest (eBin gNe (eVar 17) (eVar 11))) (bNot (eTru (eVar 16)))) (eTup (aCons (eEsc (eVar 17)) (aCons (eBin gIx (eVar 7) (eVar 17)) aNil)))) ⟨ef s0 x3 x4 racks x6 (sl b (lDc L')) x8 x9 x10 (some (.sh (.str name))) x12 x13 x14 (some (.sh (.bl back))), st, []⟩ =
      .ok (.own (.lst (itemsD (sm lV (L'.filter fun p => !decide (p.1 = name) || !back))))) ⟨ef s0 x3 x4 racks x6 (sl false (lDc L')) x8 x9 x10 (some (.sh (.str name))) x12 x13 x14 (some (.sh (.bl back))), st, []⟩ := by
  have hlc : eLc (iDct keysD' (eBor 7)) [17] (gtName 17) (bOr (eTest (eBin gNe (eVar 17) (eVar 11))) (bNot (eTru (eVar 16)))) (eTup (aCons (eEsc (eVar 17)) (aCons (eBin gIx (eVar 7) (eVar 17)) aNil))) ⟨ef s0 x3 x4 racks x6 (some (.sh (lDc L'))) x8 x9 x10 (some (.sh (.str name))) x12 x13 x14 (some (.sh (.bl back))), st, []⟩ =
      .ok (.own (.lst (itemsD (sm lV (L'.filter fun p => !decide (p.1 = name) || !back))))) ⟨ef s0 x3 x4 racks x6 (some (.sh (lDc L'))) x8 x9 x10 (some (.sh (.str name))) x12 x13 x14 (some (.sh (.bl back))), st, []⟩ := by
    rw [eLc_pure (src := .pur) (ds := (L'.map (·.1)).map D.str) (w1 := ⟨ef s0 x3 x4 racks x6 (some (.sh (lDc L'))) x8 x9 x10 (some (.sh (.str name))) x12 x13 x14 (some (.sh (.bl back))), st, []⟩) (fun d => match d with
      | .str n => if (!decide (n = name) || !back) = true then (lookL L' n).map (fun v => D.tup [.str n, lV v]) else none
      | _ => none) (by simp [keys_sm]) rfl (by simpa using Nat.le_trans hl (by decide)) ?_]
    · refine Eq.trans (congrArg (fun l => Res.ok (R.own (D.lst l)) _) (keep_lc (g := lV) L' hn (fun n => !decide (n = name) || !back))) ?_
      simp
    · intro d hd
      obtain ⟨n, hm, rfl⟩ := List.mem_map.mp hd
      obtain ⟨q, hq⟩ := Option.isSome_iff_exists.mp ((mem_keys L' n).mp hm)
      have en := gNe_str (hok n hm) ho
      by_cases h1 : n = name
      · subst h1
        have en2 : gNe (.str n) (.str n) = some (.sh (.bl false)) := by rw [en]; simp
        cases back with
        | true => simp [turnC, en2]
        | false => simp [turnC, en2, hq]
      · simp [turnC, en, h1, hq]
  cases b with
  | true =>
    simp only [e_lock, e_esc, e_var, List.getElem?_cons_succ, List.getElem?_cons_zero, sl_t, bind_ok, escR_bor, List.set_cons_succ, List.set_cons_zero, dctOf_dct, Option.isSome_some, if_true, lockW_dct, hlc, sl_f]
  | false =>
    simp only [e_lock, e_esc, e_var, List.getElem?_cons_succ, List.getElem?_cons_zero, sl_f, bind_ok, escR_sh, dctOf_dct, Option.isSome_some, if_true, lockW_dct, hlc]
theorem in2_such : gInB (.str "no such") (.lst [.str "no such", .str "no room"]) = some true := by
  rw [gIn_lst (n := 0) (m := 0) (by decide +kernel) (by decide +kernel) (by decide) (by decide)]; simp
theorem in2_room : gInB (.str "no room") (.lst [.str "no such", .str "no room"]) = some true := by
  rw [gIn_lst (n := 0) (m := 0) (by decide +kernel) (by decide +kernel) (by decide) (by decide)]; simp
theorem in2_int (r : Int) : gInB (.int r) (.lst [.str "no such", .str "no room"]) = some false := by
  rw [gIn_lst (n := 0) (m := 0) (by decide +kernel) (by simp) (by decide) (by decide)]; simp
theorem Inv.l'ok {racks : List Int} {K : List KT} {L L' : List LT} {n : Nat} (h : Inv racks K L L' n) : ∀ x ∈ L'.map (·.1), PyData.strOk x = true := fun x hx => (h.lok x ((h.p.map _).mem_iff.mp hx)).1
/-- the size asked for -/
def sizeOf' (L : List LT) (name : Str) : Int := match lookL L name with
  | some q => q.2
  | none => 0
theorem br_bring {racks : List Int} {K : List KT} {L L' : List LT} {n : Nat} (h : Inv racks K L L' (n + 1)) (o : Ob) (b6 b7 : Bool) (s0 x3 x4 x10 x12 x13 x14 x16 : Option S) (name : Str) (hn : PyData.strOk name = true) (hne : name ≠ "") (hr : racks.length ≤ 3) :
    ∃ K2 L2 L2' x14' x16', Inv racks K2 L2 L2' n ∧ (sSeq (sSet 14 (eIf (eTest (eBin gNotIn1 (eVar 11) (eVar 7))) (eC (.str "no such")) (eIf (eTest (eBin gNe (eVar 9) (eLst aNil))) (eBin gIx (eCall gMin (aCons (eVar 9) aNil)) (eC (.int 1))) (eC (.str "no room"))))) (sSeq (sIf (eTest (eBin gNe (eTold toldL (eMeth "Loft" "bring" 2 f_Loft_bring (eVar 2) (aCons (eEsc (eVar 11)) aNil))) (eVar 14))) (sRet (eC (.bl false))) sSkip) (sSeq (sSet 16 (eBin gNotIn1 (eVar 14) (eLst (aCons (eC (.str "no such")) (aCons (eC (.str "no room")) aNil))))) (sSeq (sSet 6 (eCall gDict (aCons (eBin gAdd (eUn gListI (eVar 6)) (eIf (eTru (eVar 16)) (eLst (aCons (eTup (aCons (eEsc (eVar 11)) (aCons (eTup (aCons (eEsc (eVar 14)) (aCons (eEsc (eVar 8)) aNil))) aNil))) aNil)) (eLst aNil))) aNil))) (sSet 7 (eCall gDict (aCons (eLock (eEsc (eVar 7)) (eLc (iDct keysD' (eBor 7)) [17] (gtName 17) (bOr (eTest (eBin gNe (eVar 17) (eVar 11))) (bNot (eTru (eVar 16)))) (eTup (aCons (eEsc (eVar 17)) (aCons (eBin gIx (eVar 7) (eVar 17)) aNil))))) aNil))))))) ⟨ef s0 x3 x4 racks (sl b6 (kDc K)) (sl b7 (lDc L')) (some (.sh (.int (sizeOf' L name)))) (some (.own (.lst ((gd racks K (sizeOf' L name)).map gV)))) x10 (some (.sh (.str name))) x12 x13 x14 x16, ST o racks K L [], []⟩ =
      .ok .nx ⟨ef s0 x3 x4 racks (sl true (kDc K2)) (sl true (lDc L2')) (some (.sh (.int (sizeOf' L name)))) (some (.own (.lst ((gd racks K (sizeOf' L name)).map gV)))) x10 (some (.sh (.str name))) x12 x13 x14' x16', ST o racks K2 L2 [], []⟩ := by
  have hsz := h.sz
  have hK : K.length ≤ 100 := by omega
  have hL : L.length ≤ 100 := by omega
  have hL' : L'.length ≤ 100 := by rw [h.l'l]; omega
  have hKs : K.length ≤ 16777216 := by omega
  have hilk : (itemsD (sm kV K)).length = K.length := by simp [itemsD]
  have hdl := gDict_items (g := lV) h.l'n (by omega)
  have hdk := gDict_items (g := kV) h.kn (by omega)
  have hlk := h.lk name
  cases hl : lookL L name with
  | none =>
    rw [hl] at hlk
    have hb := bring_none o racks K L [] name hl
    refine ⟨K, L, L', some (.sh (.str "no such")), some (.sh (.bl false)), h.mono, ?_⟩
    have hkeep := keep_l h.l'n h.l'ok hL' b7 false name hn s0 x3 x4 (sl true (kDc K)) (some (.sh (.int (sizeOf' L name)))) (some (.own (.lst ((gd racks K (sizeOf' L name)).map gV)))) x10 x12 x13 (some (.sh (.str "no such"))) racks (ST o racks K L [])
    rw [filter_all (by intro x hx; simp)] at hkeep
    refine seq_nx (w' := ⟨ef s0 x3 x4 racks (sl b6 (kDc K)) (sl b7 (lDc L')) (some (.sh (.int (sizeOf' L name)))) (some (.own (.lst ((gd racks K (sizeOf' L name)).map gV)))) x10 (some (.sh (.str name))) x12 x13 (some (.sh (.str "no such"))) x16, ST o racks K L [], []⟩) (by cases b7 <;> simp [hlk]) ?_
    refine seq_nx (w' := ⟨ef s0 x3 x4 racks (sl b6 (kDc K)) (sl b7 (lDc L')) (some (.sh (.int (sizeOf' L name)))) (some (.own (.lst ((gd racks K (sizeOf' L name)).map gV)))) x10 (some (.sh (.str name))) x12 x13 (some (.sh (.str "no such"))) x16, ST o racks K L [], []⟩) (by simp [hb, ne_uu]) ?_
    refine seq_nx (w' := ⟨ef s0 x3 x4 racks (sl b6 (kDc K)) (sl b7 (lDc L')) (some (.sh (.int (sizeOf' L name)))) (some (.own (.lst ((gd racks K (sizeOf' L name)).map gV)))) x10 (some (.sh (.str name))) x12 x13 (some (.sh (.str "no such"))) (some (.sh (.bl false))), ST o racks K L [], []⟩) (by simp [in2_such]) ?_
    refine seq_nx (w' := ⟨ef s0 x3 x4 racks (sl true (kDc K)) (sl b7 (lDc L')) (some (.sh (.int (sizeOf' L name)))) (some (.own (.lst ((gd racks K (sizeOf' L name)).map gV)))) x10 (some (.sh (.str name))) x12 x13 (some (.sh (.str "no such"))) (some (.sh (.bl false))), ST o racks K L [], []⟩) (by cases b6 <;> simp [hKs, hilk, hdk]) ?_
    rw [s_set_, e_call, a_cons, hkeep]
    simp [hdl]
  | some q =>
    obtain ⟨who, long⟩ := q
    rw [hl] at hlk
    have hs : sizeOf' L name = long := by unfold sizeOf'; rw [hl]
    have hmem := lookL_mem hl
    have h1 : 1 ≤ long := h.lpos _ hmem
    have hk0 : lookL K name = none := by
      cases e : lookL K name with
      | none => rfl
      | some v =>
        have := h.dj name (List.mem_map.mpr ⟨_, lookL_mem e, rfl⟩)
        rw [hl] at this; cases this
    have hb := bring_eq o racks K L [] name who long hl hk0 hn hne h1 (by omega) hK hL
    have hpm := drop_perm h.ln hl
    have hdn := dropL_keys (x := name) h.ln
    rw [hs]
    cases hg : gd racks K long with
    | nil =>
      have hbest : best (gd racks K long) = none := by rw [hg]; rfl
      rw [hbest] at hb
      refine ⟨K, dropL L name ++ [(name, who, long)], L', some (.sh (.str "no room")), some (.sh (.bl false)), (h.same hpm).mono, ?_⟩
      have hkeep := keep_l h.l'n h.l'ok hL' b7 false name hn s0 x3 x4 (sl true (kDc K)) (some (.sh (.int long))) (some (.own (.lst []))) x10 x12 x13 (some (.sh (.str "no room"))) racks (ST o racks K (dropL L name ++ [(name, who, long)]) [])
      rw [filter_all (by intro x hx; simp)] at hkeep
      refine seq_nx (w' := ⟨ef s0 x3 x4 racks (sl b6 (kDc K)) (sl b7 (lDc L')) (some (.sh (.int long))) (some (.own (.lst []))) x10 (some (.sh (.str name))) x12 x13 (some (.sh (.str "no room"))) x16, ST o racks K L [], []⟩) (by cases b7 <;> simp [hlk]) ?_
      refine seq_nx (w' := ⟨ef s0 x3 x4 racks (sl b6 (kDc K)) (sl b7 (lDc L')) (some (.sh (.int long))) (some (.own (.lst []))) x10 (some (.sh (.str name))) x12 x13 (some (.sh (.str "no room"))) x16, ST o racks K (dropL L name ++ [(name, who, long)]) [], []⟩) (by simp [hb, ne_rr]) ?_
      refine seq_nx (w' := ⟨ef s0 x3 x4 racks (sl b6 (kDc K)) (sl b7 (lDc L')) (some (.sh (.int long))) (some (.own (.lst []))) x10 (some (.sh (.str name))) x12 x13 (some (.sh (.str "no room"))) (some (.sh (.bl false))), ST o racks K (dropL L name ++ [(name, who, long)]) [], []⟩) (by simp [in2_room]) ?_
      refine seq_nx (w' := ⟨ef s0 x3 x4 racks (sl true (kDc K)) (sl b7 (lDc L')) (some (.sh (.int long))) (some (.own (.lst []))) x10 (some (.sh (.str name))) x12 x13 (some (.sh (.str "no room"))) (some (.sh (.bl false))), ST o racks K (dropL L name ++ [(name, who, long)]) [], []⟩) (by cases b6 <;> simp [hKs, hilk, hdk]) ?_
      rw [s_set_, e_call, a_cons, hkeep]
      simp [hdl]
    | cons q r =>
      have hbest : best (gd racks K long) = some (bst q r).2 := by rw [hg]; rfl
      rw [hbest] at hb
      have hK1 : K.length ≤ 16777215 := by omega
      have hds := gDict_snoc (g := kV) h.kn (by omega) name ((bst q r).2, long)
      rw [putL_new hk0] at hds
      simp only [kV] at hds
      have eg := gNe_gd (q :: r)
      simp at eg
      have hfl : (L'.filter fun p => !decide (p.1 = name) || !true) = dropL L' name := by
        unfold dropL
        congr 1
        funext p
        simp
      have hkeep := keep_l h.l'n h.l'ok hL' b7 true name hn s0 x3 x4 (sl true (kDc (K ++ [(name, (bst q r).2, long)]))) (some (.sh (.int long))) (some (.own (.lst (gV q :: r.map gV)))) x10 x12 x13 (some (.sh (.int (bst q r).2))) racks (ST o racks (K ++ [(name, (bst q r).2, long)]) (dropL L name) [])
      rw [hfl] at hkeep
      have hdl2 := gDict_items (g := lV) (dropL_keys (x := name) h.l'n) (by have : (dropL L' name).length ≤ L'.length := List.length_filter_le _ _; omega)
      refine ⟨K ++ [(name, (bst q r).2, long)], dropL L name, dropL L' name, some (.sh (.int (bst q r).2)), some (.sh (.bl true)), ?_, ?_⟩
      · have hm : ∀ z ∈ dropL L name, z ∈ L ∧ z.1 ≠ name := fun z hz => by
          have := List.mem_filter.mp hz
          exact ⟨this.1, by simpa using this.2⟩
        refine ⟨?_, hdn, h.p.filter _, fun x hx => ?_, fun x hx => ?_, fun x hx => ?_, fun z hz => h.low z (hm z hz).1, fun z hz => ?_, fun z hz => h.lpos z (hm z hz).1, ?_⟩
        · rw [List.map_append, List.nodup_append]
          refine ⟨h.kn, by simp, fun a ha c hc e => ?_⟩
          simp at hc
          obtain ⟨z, hz, rfl⟩ := List.mem_map.mp ha
          exact lookL_none.mp hk0 z hz (e.trans hc)
        · rw [lookL_drop]
          rw [List.map_append] at hx
          rcases List.mem_append.mp hx with hx | hx
          · split
            · rfl
            · exact h.dj x hx
          · simp at hx; simp [hx]
        · rw [List.map_append] at hx
          rcases List.mem_append.mp hx with hx | hx
          · exact h.kok x hx
          · simp at hx; rw [hx]; exact hn
        · obtain ⟨z, hz, rfl⟩ := List.mem_map.mp hx
          exact h.lok _ (List.mem_map.mpr ⟨z, (hm z hz).1, rfl⟩)
        · rcases List.mem_append.mp hz with hz | hz
          · exact h.kpos z hz
          · simp at hz; rw [hz]; exact h1
        · have : (dropL L name).length ≤ L.length := List.length_filter_le _ _
          simp; omega
      · simp only [List.map_cons]
        refine seq_nx (w' := ⟨ef s0 x3 x4 racks (sl b6 (kDc K)) (sl b7 (lDc L')) (some (.sh (.int long))) (some (.own (.lst (gV q :: r.map gV)))) x10 (some (.sh (.str name))) x12 x13 (some (.sh (.int (bst q r).2))) x16, ST o racks K L [], []⟩) (by cases b7 <;> simp [hlk, eg, gMin_gV, atI, ixN]) ?_
        refine seq_nx (w' := ⟨ef s0 x3 x4 racks (sl b6 (kDc K)) (sl b7 (lDc L')) (some (.sh (.int long))) (some (.own (.lst (gV q :: r.map gV)))) x10 (some (.sh (.str name))) x12 x13 (some (.sh (.int (bst q r).2))) x16, ST o racks (K ++ [(name, (bst q r).2, long)]) (dropL L name) [], []⟩) (by simp [hb]) ?_
        refine seq_nx (w' := ⟨ef s0 x3 x4 racks (sl b6 (kDc K)) (sl b7 (lDc L')) (some (.sh (.int long))) (some (.own (.lst (gV q :: r.map gV)))) x10 (some (.sh (.str name))) x12 x13 (some (.sh (.int (bst q r).2))) (some (.sh (.bl true))), ST o racks (K ++ [(name, (bst q r).2, long)]) (dropL L name) [], []⟩) (by simp [in2_int]) ?_
        refine seq_nx (w' := ⟨ef s0 x3 x4 racks (sl true (kDc (K ++ [(name, (bst q r).2, long)]))) (sl b7 (lDc L')) (some (.sh (.int long))) (some (.own (.lst (gV q :: r.map gV)))) x10 (some (.sh (.str name))) x12 x13 (some (.sh (.int (bst q r).2))) (some (.sh (.bl true))), ST o racks (K ++ [(name, (bst q r).2, long)]) (dropL L name) [], []⟩) (by cases b6 <;> simp [hKs, hK1, hilk, hds]) ?_
        rw [s_set_, e_call, a_cons, hkeep]
        simp [hdl2]
theorem kfit {K : List KT} (hok : ∀ x ∈ K.map (·.1), PyData.strOk x = true) : ∀ d ∈ itemsD (sm kV K), fits (.t [.s, .t [.i, .i]]) d = true := by
  intro d hd
  rw [items_dm] at hd
  obtain ⟨p, hp, rfl⟩ := List.mem_map.mp hd
  have := hok p.1 (List.mem_map.mpr ⟨p, hp, rfl⟩)
  show (fits .s (.str p.1) && true) = true
  rw [show fits .s (.str p.1) = true from this]; rfl
theorem lfit {L : List LT} (hok : ∀ x ∈ names L, PyData.strOk x = true) (hw : ∀ q ∈ L, PyData.strOk q.2.1 = true) : ∀ d ∈ itemsD (sm lV L), fits (.t [.s, .t [.s, .i]]) d = true := by
  intro d hd
  rw [items_dm] at hd
  obtain ⟨p, hp, rfl⟩ := List.mem_map.mp hd
  have e1 := hok p.1 (List.mem_map.mpr ⟨p, hp, rfl⟩)
  have e2 := hw p hp
  show (fits .s (.str p.1) && ((fits .s (.str p.2.1) && true) && true)) = true
  rw [show fits .s (.str p.1) = true from e1, show fits .s (.str p.2.1) = true from e2]; rfl
theorem b_shown {racks : List Int} {K : List KT} {L L' : List LT} {n : Nat} (h : Inv racks K L L' n) (o : Ob) (b6 b7 : Bool) (s0 x3 x4 x8 x9 x10 x11 x12 x13 x14 x16 : Option S) :
    (sIf (eTest (eBin gNe (eMeth "Loft" "shown" 1 f_Loft_shown (eVar 2) aNil) (eTup (aCons (eCall gTuple (aCons (eUn gSortI (eVar 6)) aNil)) (aCons (eCall gTuple (aCons (eUn gSortI (eVar 7)) aNil)) aNil))))) (sRet (eC (.bl false))) sSkip) ⟨ef s0 x3 x4 racks (sl b6 (kDc K)) (sl b7 (lDc L')) x8 x9 x10 x11 x12 x13 x14 x16, ST o racks K L [], []⟩ = .ok .nx ⟨ef s0 x3 x4 racks (sl b6 (kDc K)) (sl b7 (lDc L')) x8 x9 x10 x11 x12 x13 x14 x16, ST o racks K L [], []⟩ := by
  have hsz := h.sz
  have lok : ∀ x ∈ names L, PyData.strOk x = true := fun x hx => (h.lok x hx).1
  have hk := kfit h.kok
  have hl := lfit lok h.low
  have pm : (itemsD (sm lV L')).Perm (itemsD (sm lV L)) := by
    rw [items_dm, items_dm]; exact h.p.map _
  have hl' : ∀ d ∈ itemsD (sm lV L'), fits (.t [.s, .t [.s, .i]]) d = true := fun d hd => hl d (pm.mem_iff.mp hd)
  have sk : sortOk (itemsD (sm kV K)) = true := sortOk_tup (a := .s) (l := [.t [.i, .i]]) (by decide) hk (by simp [itemsD]; omega)
  have sL : sortOk (itemsD (sm lV L)) = true := sortOk_tup (a := .s) (l := [.t [.s, .i]]) (by decide) hl (by simp [itemsD]; omega)
  have sL' : sortOk (itemsD (sm lV L')) = true := sortOk_tup (a := .s) (l := [.t [.s, .i]]) (by decide) hl' (by rw [pm.length_eq]; simp [itemsD]; omega)
  have es : sortD (itemsD (sm lV L')) = sortD (itemsD (sm lV L)) := sortD_fits pm hl'
  have hsh := shown_eq o racks K L [] sk sL
  have hne : gNe (.tup [.tup (sortD (itemsD (sm kV K))), .tup (sortD (itemsD (sm lV L)))]) (.tup [.tup (sortD (itemsD (sm kV K))), .tup (sortD (itemsD (sm lV L)))]) = some (.sh (.bl false)) := by
    refine gNe_self (n := 4) ?_ (by decide)
    have a : pl 3 (.tup (sortD (itemsD (sm kV K)))) = true := List.all_eq_true.mpr fun d hd => fits_pl _ d (hk d (mem_sortD.mp hd))
    have b : pl 3 (.tup (sortD (itemsD (sm lV L)))) = true := List.all_eq_true.mpr fun d hd => fits_pl _ d (hl d (mem_sortD.mp hd))
    show (pl 3 _ && (pl 3 _ && true)) = true
    rw [a, b]; rfl
  cases b6 <;> cases b7 <;> simp [hsh, sk, sL', es, hne]
theorem b_size {racks : List Int} {K : List KT} {L L' : List LT} {n : Nat} (h : Inv racks K L L' n) (b7 : Bool) (s0 x3 x4 x6 x8 x9 x13 x14 x16 : Option S) (sort long : Int) (name : Str) (st : List Ob) :
    (sSet 8 (eIf (eTest (eBin gLt (eVar 10) (eC (.int 3)))) (eVar 12) (eBin gIx (eDGet2 (eVar 7) (eVar 11) (eTup (aCons (eC (.str "")) (aCons (eC (.int 0)) aNil)))) (eC (.int 1))))) ⟨ef s0 x3 x4 racks x6 (sl b7 (lDc L')) x8 x9 (some (.sh (.int sort))) (some (.sh (.str name))) (some (.sh (.int long))) x13 x14 x16, st, []⟩ = .ok .nx ⟨ef s0 x3 x4 racks x6 (sl b7 (lDc L')) (some (.sh (.int (if sort < 3 then long else sizeOf' L name)))) x9 (some (.sh (.int sort))) (some (.sh (.str name))) (some (.sh (.int long))) x13 x14 x16, st, []⟩ := by
  have hlk := h.lk name
  by_cases hs : sort < 3
  · simp [hs]
  · unfold sizeOf'
    cases hl : lookL L name with
    | none =>
      rw [hl] at hlk
      cases b7 <;> simp [hs, hlk, atI, ixN]
    | some q =>
      rw [hl] at hlk
      cases b7 <;> simp [hs, hlk, lV, atI, ixN]
theorem turn {racks : List Int} {K : List KT} {L L' : List LT} {n : Nat} (h : Inv racks K L L' (n + 1)) (d : Dice) (b6 b7 : Bool) (hr : racks.length ≤ 3) (s0 x3 x4 x8 x9 x10 x11 x12 x13 x14 x16 : Option S) (c : D) :
    ∃ K2 L2 L2' d2 c6 c7 x4' x8' x9' x10' x11' x12' x13' x14' x16', Inv racks K2 L2 L2' n ∧ turnF (gtName 3) (sSeq (sAsgT (eTup (aCons (eEsc (eFn 2 f__law_roll (aCons (eEsc (eVar 1)) (aCons (eC (.int 6)) aNil)))) (aCons (eBin gIx (eC (.str "pqrst")) (eFn 2 f__law_roll (aCons (eEsc (eVar 1)) (aCons (eC (.int 5)) aNil)))) (aCons (eEsc (eFn 2 f__law_roll (aCons (eEsc (eVar 1)) (aCons (eC (.int 12)) aNil)))) (aCons (eBin gIx (eLst (aCons (eC (.str "ann")) (aCons (eC (.str "bo")) (aCons (eC (.str "")) aNil)))) (eBin gDiv (eFn 2 f__law_roll (aCons (eEsc (eVar 1)) (aCons (eC (.int 5)) aNil))) (eC (.int 2)))) aNil))))) (gtTup 4 (gtCons (gtName 10) (gtCons (gtName 11) (gtCons (gtName 12) (gtCons (gtName 13) gtNil)))))) (sSeq (sSet 4 (eLc (iArg fRng1 (aCons (eCall gLen (aCons (eVar 5) aNil)) aNil)) [15] (gtName 15) mYes (eBin gSub (eBin gIx (eVar 5) (eVar 15)) (eCall gSum (aCons (eLock (eEsc (eVar 6)) (eLc (iDct keysD' (eBor 6)) [17] (gtName 17) (eTest (eBin gEq (eBin gIx (eBin gIx (eVar 6) (eVar 17)) (eC (.int 0))) (eVar 15))) (eBin gIx (eBin gIx (eVar 6) (eVar 17)) (eC (.int 1))))) aNil))))) (sSeq (sIf (eTest (eBin gNe (eLc (iArg fRng1 (aCons (eCall gLen (aCons (eVar 5) aNil)) aNil)) [15] (gtName 15) mYes (eEsc (eMeth "Loft" "free" 2 f_Loft_free (eVar 2) (aCons (eEsc (eVar 15)) aNil)))) (eVar 4))) (sRet (eC (.bl false))) sSkip) (sSeq (sSet 8 (eIf (eTest (eBin gLt (eVar 10) (eC (.int 3)))) (eVar 12) (eBin gIx (eDGet2 (eVar 7) (eVar 11) (eTup (aCons (eC (.str "")) (aCons (eC (.int 0)) aNil)))) (eC (.int 1))))) (sSeq (sSet 9 (eLc (iArg fRng1 (aCons (eCall gLen (aCons (eVar 5) aNil)) aNil)) [15] (gtName 15) (eTest (eBin gGe (eBin gIx (eVar 4) (eVar 15)) (eVar 8))) (eTup (aCons (eBin gIx (eVar 4) (eVar 15)) (aCons (eEsc (eVar 15)) aNil))))) (sSeq (sIf (eTest (eBin gLt (eVar 10) (eC (.int 3)))) (sSeq (sSet 14 (eIf (bOr (eTest (eBin gIn1 (eVar 11) (eVar 6))) (eTest (eBin gIn1 (eVar 11) (eVar 7)))) (eC (.str "deed")) (eIf (eTest (eBin gLt (eVar 12) (eC (.int 1)))) (eC (.str "size")) (eC (.str "no room"))))) (sSeq (sSet 14 (eIf (bAnd (eTest (eBin gEq (eVar 14) (eC (.str "no room")))) (eTest (eBin gNe (eVar 9) (eLst aNil)))) (eBin gIx (eCall gMin (aCons (eVar 9) aNil)) (eC (.int 1))) (eVar 14))) (sSeq (sIf (eTest (eBin gNe (eTold toldL (eMeth "Loft" "put" 3 f_Loft_put (eVar 2) (aCons (eEsc (eVar 11)) (aCons (eEsc (eVar 12)) aNil)))) (eVar 14))) (sRet (eC (.bl false))) sSkip) (sSet 6 (eCall gDict (aCons (eBin gAdd (eUn gListI (eVar 6)) (eIf (eTest (eBin gNotIn1 (eVar 14) (eLst (aCons (eC (.str "deed")) (aCons (eC (.str "size")) (aCons (eC (.str "no room")) aNil)))))) (eLst (aCons (eTup (aCons (eEsc (eVar 11)) (aCons (eTup (aCons (eEsc (eVar 14)) (aCons (eEsc (eVar 12)) aNil))) aNil))) aNil)) (eLst aNil))) aNil)))))) (sIf (eTest (eBin gEq (eVar 10) (eC (.int 3)))) (sSeq (sSet 14 (eIf (eTest (eBin gNotIn1 (eVar 11) (eVar 6))) (eC (.str "no such")) (eIf (eTest (eBin gEq (eVar 13) (eC (.str "")))) (eC (.str "deed")) (eC .non)))) (sSeq (sIf (eTest (eBin gNe (eTold toldL (eMeth "Loft" "lend" 3 f_Loft_lend (eVar 2) (aCons (eEsc (eVar 11)) (aCons (eEsc (eVar 13)) aNil)))) (eVar 14))) (sRet (eC (.bl false))) sSkip) (sSeq (sSet 7 (eCall gDict (aCons (eBin gAdd (eUn gListI (eVar 7)) (eIf (eTest (eBin gIs (eVar 14) (eC .non))) (eLst (aCons (eTup (aCons (eEsc (eVar 11)) (aCons (eTup (aCons (eEsc (eVar 13)) (aCons (eBin gIx (eBin gIx (eVar 6) (eVar 11)) (eC (.int 1))) aNil))) aNil))) aNil)) (eLst aNil))) aNil))) (sSet 6 (eCall gDict (aCons (eLock (eEsc (eVar 6)) (eLc (iDct keysD' (eBor 6)) [17] (gtName 17) (bOr (eTest (eBin gNe (eVar 17) (eVar 11))) (eTest (eBin gIsNot (eVar 14) (eC .non)))) (eTup (aCons (eEsc (eVar 17)) (aCons (eBin gIx (eVar 6) (eVar 17)) aNil))))) aNil)))))) (sSeq (sSet 14 (eIf (eTest (eBin gNotIn1 (eVar 11) (eVar 7))) (eC (.str "no such")) (eIf (eTest (eBin gNe (eVar 9) (eLst aNil))) (eBin gIx (eCall gMin (aCons (eVar 9) aNil)) (eC (.int 1))) (eC (.str "no room"))))) (sSeq (sIf (eTest (eBin gNe (eTold toldL (eMeth "Loft" "bring" 2 f_Loft_bring (eVar 2) (aCons (eEsc (eVar 11)) aNil))) (eVar 14))) (sRet (eC (.bl false))) sSkip) (sSeq (sSet 16 (eBin gNotIn1 (eVar 14) (eLst (aCons (eC (.str "no such")) (aCons (eC (.str "no room")) aNil))))) (sSeq (sSet 6 (eCall gDict (aCons (eBin gAdd (eUn gListI (eVar 6)) (eIf (eTru (eVar 16)) (eLst (aCons (eTup (aCons (eEsc (eVar 11)) (aCons (eTup (aCons (eEsc (eVar 14)) (aCons (eEsc (eVar 8)) aNil))) aNil))) aNil)) (eLst aNil))) aNil))) (sSet 7 (eCall gDict (aCons (eLock (eEsc (eVar 7)) (eLc (iDct keysD' (eBor 7)) [17] (gtName 17) (bOr (eTest (eBin gNe (eVar 17) (eVar 11))) (bNot (eTru (eVar 16)))) (eTup (aCons (eEsc (eVar 17)) (aCons (eBin gIx (eVar 7) (eVar 17)) aNil))))) aNil))))))))) (sIf (eTest (eBin gNe (eMeth "Loft" "shown" 1 f_Loft_shown (eVar 2) aNil) (eTup (aCons (eCall gTuple (aCons (eUn gSortI (eVar 6)) aNil)) (aCons (eCall gTuple (aCons (eUn gSortI (eVar 7)) aNil)) aNil))))) (sRet (eC (.bl false))) sSkip))))))) c ⟨ef s0 x3 x4 racks (sl b6 (kDc K)) (sl b7 (lDc L')) x8 x9 x10 x11 x12 x13 x14 x16, ST (Dice.o d) racks K L [], []⟩ =
      .ok .nx ⟨ef s0 (some (.sh c)) x4' racks (sl c6 (kDc K2)) (sl c7 (lDc L2')) x8' x9' x10' x11' x12' x13' x14' x16', ST (Dice.o d2) racks K2 L2 [], []⟩ := by
  have hsz := h.sz
  obtain ⟨sort, long, name, who, d', hn, hne, hw, e0⟩ := b_draw d K L s0 (some (.sh c)) x4 (sl b6 (kDc K)) (sl b7 (lDc L')) x8 x9 x10 x11 x12 x13 x14 x16 racks
  obtain ⟨b6', e1⟩ := b_free h.kn (by omega) s0 (some (.sh c)) x4 (sl b7 (lDc L')) x8 x9 (some (.sh (.int sort))) (some (.sh (.str name))) (some (.sh (.int long))) (some (.sh (.str who))) x14 x16 racks (ST d'.o racks K L []) b6 (by omega)
  have e2 := b_check (K := K) L d'.o s0 (some (.sh c)) (sl b7 (lDc L')) x8 x9 (some (.sh (.int sort))) (some (.sh (.str name))) (some (.sh (.int long))) (some (.sh (.str who))) x14 x16 racks (sl b6' (kDc K)) (by omega)
  have e3 := b_size h b7 s0 (some (.sh c)) (some (.own (.lst ((frs racks K).map D.int)))) (sl b6' (kDc K)) x8 x9 (some (.sh (.str who))) x14 x16 sort long name (ST d'.o racks K L [])
  have e4 := b_good (K := K) s0 (some (.sh c)) (sl b6' (kDc K)) (sl b7 (lDc L')) (some (.sh (.int sort))) (some (.sh (.str name))) (some (.sh (.int long))) (some (.sh (.str who))) x14 x16 racks x9 (if sort < 3 then long else sizeOf' L name) (ST d'.o racks K L []) (by omega)
  by_cases h3 : sort < 3
  · rw [if_pos h3] at e3 e4
    obtain ⟨K2, x14', hi, e5⟩ := br_put h d'.o b6' b7 s0 (some (.sh c)) (some (.own (.lst ((frs racks K).map D.int)))) (some (.sh (.str who))) x14 x16 sort long name hn hne hr
    refine ⟨K2, L, L', d', true, b7, some (.own (.lst ((frs racks K).map D.int))), some (.sh (.int long)), some (.own (.lst ((gd racks K long).map gV))), some (.sh (.int sort)), some (.sh (.str name)), some (.sh (.int long)), some (.sh (.str who)), x14', x16, hi, ?_⟩
    exact seq_nx e0 (seq_nx e1 (seq_nx e2 (seq_nx e3 (seq_nx e4 (seq_nx (if_t (w' := ⟨ef s0 (some (.sh c)) (some (.own (.lst ((frs racks K).map D.int)))) racks (sl b6' (kDc K)) (sl b7 (lDc L')) (some (.sh (.int long))) (some (.own (.lst ((gd racks K long).map gV)))) (some (.sh (.int sort))) (some (.sh (.str name))) (some (.sh (.int long))) (some (.sh (.str who))) x14 x16, ST d'.o racks K L [], []⟩) (by simp [h3]) e5) (b_shown hi d'.o true b7 _ _ _ _ _ _ _ _ _ _ _))))))
  · rw [if_neg h3] at e3 e4
    by_cases h4 : sort = 3
    · obtain ⟨K2, L2, L2', x14', hi, e5⟩ := br_lend h d'.o b6' b7 s0 (some (.sh c)) (some (.own (.lst ((frs racks K).map D.int)))) (some (.sh (.int (sizeOf' L name)))) (some (.own (.lst ((gd racks K (sizeOf' L name)).map gV)))) (some (.sh (.int sort))) (some (.sh (.int long))) x14 x16 name who hn hne hw
      refine ⟨K2, L2, L2', d', true, true, some (.own (.lst ((frs racks K).map D.int))), some (.sh (.int (sizeOf' L name))), some (.own (.lst ((gd racks K (sizeOf' L name)).map gV))), some (.sh (.int sort)), some (.sh (.str name)), some (.sh (.int long)), some (.sh (.str who)), x14', x16, hi, ?_⟩
      exact seq_nx e0 (seq_nx e1 (seq_nx e2 (seq_nx e3 (seq_nx e4 (seq_nx (if_f (w' := ⟨ef s0 (some (.sh c)) (some (.own (.lst ((frs racks K).map D.int)))) racks (sl b6' (kDc K)) (sl b7 (lDc L')) (some (.sh (.int (sizeOf' L name)))) (some (.own (.lst ((gd racks K (sizeOf' L name)).map gV)))) (some (.sh (.int sort))) (some (.sh (.str name))) (some (.sh (.int long))) (some (.sh (.str who))) x14 x16, ST d'.o racks K L [], []⟩) (by simp [h3]) (if_t (w' := ⟨ef s0 (some (.sh c)) (some (.own (.lst ((frs racks K).map D.int)))) racks (sl b6' (kDc K)) (sl b7 (lDc L')) (some (.sh (.int (sizeOf' L name)))) (some (.own (.lst ((gd racks K (sizeOf' L name)).map gV)))) (some (.sh (.int sort))) (some (.sh (.str name))) (some (.sh (.int long))) (some (.sh (.str who))) x14 x16, ST d'.o racks K L [], []⟩) (by simp [h4]) e5)) (b_shown hi d'.o true true _ _ _ _ _ _ _ _ _ _ _))))))
    · obtain ⟨K2, L2, L2', x14', x16', hi, e5⟩ := br_bring h d'.o b6' b7 s0 (some (.sh c)) (some (.own (.lst ((frs racks K).map D.int)))) (some (.sh (.int sort))) (some (.sh (.int long))) (some (.sh (.str who))) x14 x16 name hn hne hr
      refine ⟨K2, L2, L2', d', true, true, some (.own (.lst ((frs racks K).map D.int))), some (.sh (.int (sizeOf' L name))), some (.own (.lst ((gd racks K (sizeOf' L name)).map gV))), some (.sh (.int sort)), some (.sh (.str name)), some (.sh (.int long)), some (.sh (.str who)), x14', x16', hi, ?_⟩
      exact seq_nx e0 (seq_nx e1 (seq_nx e2 (seq_nx e3 (seq_nx e4 (seq_nx (if_f (w' := ⟨ef s0 (some (.sh c)) (some (.own (.lst ((frs racks K).map D.int)))) racks (sl b6' (kDc K)) (sl b7 (lDc L')) (some (.sh (.int (sizeOf' L name)))) (some (.own (.lst ((gd racks K (sizeOf' L name)).map gV)))) (some (.sh (.int sort))) (some (.sh (.str name))) (some (.sh (.int long))) (some (.sh (.str who))) x14 x16, ST d'.o racks K L [], []⟩) (by simp [h3]) (if_f (w' := ⟨ef s0 (some (.sh c)) (some (.own (.lst ((frs racks K).map D.int)))) racks (sl b6' (kDc K)) (sl b7 (lDc L')) (some (.sh (.int (sizeOf' L name)))) (some (.own (.lst ((gd racks K (sizeOf' L name)).map gV)))) (some (.sh (.int sort))) (some (.sh (.str name))) (some (.sh (.int long))) (some (.sh (.str who))) x14 x16, ST d'.o racks K L [], []⟩) (by simp [h4]) e5)) (b_shown hi d'.o true true _ _ _ _ _ _ _ _ _ _ _))))))
theorem turns {racks : List Int} (hr : racks.length ≤ 3) (s0 : Option S) : ∀ (ds : List D) (K : List KT) (L L' : List LT) (d : Dice) (b6 b7 : Bool) (x3 x4 x8 x9 x10 x11 x12 x13 x14 x16 : Option S), Inv racks K L L' ds.length →
    ∃ K2 L2 L2' d2 c6 c7 x3' x4' x8' x9' x10' x11' x12' x13' x14' x16', Inv racks K2 L2 L2' 0 ∧ sForL .pur (gtName 3) (sSeq (sAsgT (eTup (aCons (eEsc (eFn 2 f__law_roll (aCons (eEsc (eVar 1)) (aCons (eC (.int 6)) aNil)))) (aCons (eBin gIx (eC (.str "pqrst")) (eFn 2 f__law_roll (aCons (eEsc (eVar 1)) (aCons (eC (.int 5)) aNil)))) (aCons (eEsc (eFn 2 f__law_roll (aCons (eEsc (eVar 1)) (aCons (eC (.int 12)) aNil)))) (aCons (eBin gIx (eLst (aCons (eC (.str "ann")) (aCons (eC (.str "bo")) (aCons (eC (.str "")) aNil)))) (eBin gDiv (eFn 2 f__law_roll (aCons (eEsc (eVar 1)) (aCons (eC (.int 5)) aNil))) (eC (.int 2)))) aNil))))) (gtTup 4 (gtCons (gtName 10) (gtCons (gtName 11) (gtCons (gtName 12) (gtCons (gtName 13) gtNil)))))) (sSeq (sSet 4 (eLc (iArg fRng1 (aCons (eCall gLen (aCons (eVar 5) aNil)) aNil)) [15] (gtName 15) mYes (eBin gSub (eBin gIx (eVar 5) (eVar 15)) (eCall gSum (aCons (eLock (eEsc (eVar 6)) (eLc (iDct keysD' (eBor 6)) [17] (gtName 17) (eTest (eBin gEq (eBin gIx (eBin gIx (eVar 6) (eVar 17)) (eC (.int 0))) (eVar 15))) (eBin gIx (eBin gIx (eVar 6) (eVar 17)) (eC (.int 1))))) aNil))))) (sSeq (sIf (eTest (eBin gNe (eLc (iArg fRng1 (aCons (eCall gLen (aCons (eVar 5) aNil)) aNil)) [15] (gtName 15) mYes (eEsc (eMeth "Loft" "free" 2 f_Loft_free (eVar 2) (aCons (eEsc (eVar 15)) aNil)))) (eVar 4))) (sRet (eC (.bl false))) sSkip) (sSeq (sSet 8 (eIf (eTest (eBin gLt (eVar 10) (eC (.int 3)))) (eVar 12) (eBin gIx (eDGet2 (eVar 7) (eVar 11) (eTup (aCons (eC (.str "")) (aCons (eC (.int 0)) aNil)))) (eC (.int 1))))) (sSeq (sSet 9 (eLc (iArg fRng1 (aCons (eCall gLen (aCons (eVar 5) aNil)) aNil)) [15] (gtName 15) (eTest (eBin gGe (eBin gIx (eVar 4) (eVar 15)) (eVar 8))) (eTup (aCons (eBin gIx (eVar 4) (eVar 15)) (aCons (eEsc (eVar 15)) aNil))))) (sSeq (sIf (eTest (eBin gLt (eVar 10) (eC (.int 3)))) (sSeq (sSet 14 (eIf (bOr (eTest (eBin gIn1 (eVar 11) (eVar 6))) (eTest (eBin gIn1 (eVar 11) (eVar 7)))) (eC (.str "deed")) (eIf (eTest (eBin gLt (eVar 12) (eC (.int 1)))) (eC (.str "size")) (eC (.str "no room"))))) (sSeq (sSet 14 (eIf (bAnd (eTest (eBin gEq (eVar 14) (eC (.str "no room")))) (eTest (eBin gNe (eVar 9) (eLst aNil)))) (eBin gIx (eCall gMin (aCons (eVar 9) aNil)) (eC (.int 1))) (eVar 14))) (sSeq (sIf (eTest (eBin gNe (eTold toldL (eMeth "Loft" "put" 3 f_Loft_put (eVar 2) (aCons (eEsc (eVar 11)) (aCons (eEsc (eVar 12)) aNil)))) (eVar 14))) (sRet (eC (.bl false))) sSkip) (sSet 6 (eCall gDict (aCons (eBin gAdd (eUn gListI (eVar 6)) (eIf (eTest (eBin gNotIn1 (eVar 14) (eLst (aCons (eC (.str "deed")) (aCons (eC (.str "size")) (aCons (eC (.str "no room")) aNil)))))) (eLst (aCons (eTup (aCons (eEsc (eVar 11)) (aCons (eTup (aCons (eEsc (eVar 14)) (aCons (eEsc (eVar 12)) aNil))) aNil))) aNil)) (eLst aNil))) aNil)))))) (sIf (eTest (eBin gEq (eVar 10) (eC (.int 3)))) (sSeq (sSet 14 (eIf (eTest (eBin gNotIn1 (eVar 11) (eVar 6))) (eC (.str "no such")) (eIf (eTest (eBin gEq (eVar 13) (eC (.str "")))) (eC (.str "deed")) (eC .non)))) (sSeq (sIf (eTest (eBin gNe (eTold toldL (eMeth "Loft" "lend" 3 f_Loft_lend (eVar 2) (aCons (eEsc (eVar 11)) (aCons (eEsc (eVar 13)) aNil)))) (eVar 14))) (sRet (eC (.bl false))) sSkip) (sSeq (sSet 7 (eCall gDict (aCons (eBin gAdd (eUn gListI (eVar 7)) (eIf (eTest (eBin gIs (eVar 14) (eC .non))) (eLst (aCons (eTup (aCons (eEsc (eVar 11)) (aCons (eTup (aCons (eEsc (eVar 13)) (aCons (eBin gIx (eBin gIx (eVar 6) (eVar 11)) (eC (.int 1))) aNil))) aNil))) aNil)) (eLst aNil))) aNil))) (sSet 6 (eCall gDict (aCons (eLock (eEsc (eVar 6)) (eLc (iDct keysD' (eBor 6)) [17] (gtName 17) (bOr (eTest (eBin gNe (eVar 17) (eVar 11))) (eTest (eBin gIsNot (eVar 14) (eC .non)))) (eTup (aCons (eEsc (eVar 17)) (aCons (eBin gIx (eVar 6) (eVar 17)) aNil))))) aNil)))))) (sSeq (sSet 14 (eIf (eTest (eBin gNotIn1 (eVar 11) (eVar 7))) (eC (.str "no such")) (eIf (eTest (eBin gNe (eVar 9) (eLst aNil))) (eBin gIx (eCall gMin (aCons (eVar 9) aNil)) (eC (.int 1))) (eC (.str "no room"))))) (sSeq (sIf (eTest (eBin gNe (eTold toldL (eMeth "Loft" "bring" 2 f_Loft_bring (eVar 2) (aCons (eEsc (eVar 11)) aNil))) (eVar 14))) (sRet (eC (.bl false))) sSkip) (sSeq (sSet 16 (eBin gNotIn1 (eVar 14) (eLst (aCons (eC (.str "no such")) (aCons (eC (.str "no room")) aNil))))) (sSeq (sSet 6 (eCall gDict (aCons (eBin gAdd (eUn gListI (eVar 6)) (eIf (eTru (eVar 16)) (eLst (aCons (eTup (aCons (eEsc (eVar 11)) (aCons (eTup (aCons (eEsc (eVar 14)) (aCons (eEsc (eVar 8)) aNil))) aNil))) aNil)) (eLst aNil))) aNil))) (sSet 7 (eCall gDict (aCons (eLock (eEsc (eVar 7)) (eLc (iDct keysD' (eBor 7)) [17] (gtName 17) (bOr (eTest (eBin gNe (eVar 17) (eVar 11))) (bNot (eTru (eVar 16)))) (eTup (aCons (eEsc (eVar 17)) (aCons (eBin gIx (eVar 7) (eVar 17)) aNil))))) aNil))))))))) (sIf (eTest (eBin gNe (eMeth "Loft" "shown" 1 f_Loft_shown (eVar 2) aNil) (eTup (aCons (eCall gTuple (aCons (eUn gSortI (eVar 6)) aNil)) (aCons (eCall gTuple (aCons (eUn gSortI (eVar 7)) aNil)) aNil))))) (sRet (eC (.bl false))) sSkip))))))) ds ⟨ef s0 x3 x4 racks (sl b6 (kDc K)) (sl b7 (lDc L')) x8 x9 x10 x11 x12 x13 x14 x16, ST (Dice.o d) racks K L [], []⟩ =
      .ok .nx ⟨ef s0 x3' x4' racks (sl c6 (kDc K2)) (sl c7 (lDc L2')) x8' x9' x10' x11' x12' x13' x14' x16', ST (Dice.o d2) racks K2 L2 [], []⟩
  | [], K, L, L', d, b6, b7, x3, x4, x8, x9, x10, x11, x12, x13, x14, x16, h => ⟨K, L, L', d, b6, b7, x3, x4, x8, x9, x10, x11, x12, x13, x14, x16, h, sForL_nil rfl⟩
  | c :: ds, K, L, L', d, b6, b7, x3, x4, x8, x9, x10, x11, x12, x13, x14, x16, h => by
    obtain ⟨K1, L1, L1', d1, c6, c7, y4, y8, y9, y10, y11, y12, y13, y14, y16, hi, e⟩ := turn h d b6 b7 hr s0 x3 x4 x8 x9 x10 x11 x12 x13 x14 x16 c
    obtain ⟨K2, L2, L2', d2, e6, e7, z3, z4, z8, z9, z10, z11, z12, z13, z14, z16, hi2, e2⟩ := turns hr s0 ds K1 L1 L1' d1 c6 c7 (some (.sh c)) y4 y8 y9 y10 y11 y12 y13 y14 y16 hi
    refine ⟨K2, L2, L2', d2, e6, e7, z3, z4, z8, z9, z10, z11, z12, z13, z14, z16, hi2, ?_⟩
    rw [sForL_cons rfl, e]
    exact e2
end Lk18
set_option maxHeartbeats 2000000
/-! K18m: the law. -/
namespace Lk18
open PySem PySem.W L2 Rf
open PyProof.Rows hiding St

abbrev ez (s0 : Option S) : List (Option S) := [s0, some (.sh (.obj 0)), none, none, none, none, none, none, none, none, none, none, none, none, none, none, none, none]
theorem racks_draw (s0 : Option S) : ∀ (ds : List D) (d : Dice), ∃ (rs : List Int) (d' : Dice), rs.length = ds.length ∧ (∀ x ∈ rs, 1 ≤ x) ∧
    lcL [15] .pur (gtName 15) mYes (eEsc (eBin gAdd (eC (.int 1)) (eFn 2 f__law_roll (aCons (eEsc (eVar 1)) (aCons (eC (.int 20)) aNil))))) ds ⟨ez s0, [d.o], []⟩ = .ok (rs.map D.int) ⟨ez s0, [d'.o], []⟩
  | [], d => ⟨[], d, rfl, by simp, lcL_nil rfl⟩
  | c :: ds, d => by
    obtain ⟨rs, d', hl, h1, h⟩ := racks_draw s0 ds (d.n 20)
    have h0 := d.r_lo (many := 20) (by decide)
    refine ⟨(1 + d.r 20) :: rs, d', by simp [hl], fun x hx => ?_, ?_⟩
    · rcases List.mem_cons.mp hx with rfl | hx
      · omega
      · exact h1 x hx
    · refine (lcL_cons (o := some (.int (1 + d.r 20))) (w2 := ⟨ez s0, [(d.n 20).o], []⟩) rfl ?_ h).trans ?_
      · have hr := roll_eq d 20 [] [] (by decide) (by decide)
        have hr2 : callF f__law_roll [.obj 0, .int 20] [d.o] [] = .ok (.sh (.int (d.r 20))) ⟨[], [(d.n 20).o], []⟩ := hr
        simp [turnC, hr2]
      · rfl
theorem law_body (d : Dice) (s0 : Option S) : Nx ((sSeq (sAsgT (eTup (aCons (eEsc (eLc (iArg fRng1 (aCons (eBin gAdd (eC (.int 1)) (eFn 2 f__law_roll (aCons (eEsc (eVar 1)) (aCons (eC (.int 3)) aNil)))) aNil)) [15] (gtName 15) mYes (eEsc (eBin gAdd (eC (.int 1)) (eFn 2 f__law_roll (aCons (eEsc (eVar 1)) (aCons (eC (.int 20)) aNil))))))) (aCons (eEsc eDNew) (aCons (eEsc eDNew) aNil)))) (gtTup 3 (gtCons (gtName 5) (gtCons (gtName 6) (gtCons (gtName 7) gtNil))))) (sSeq (sSet 2 (eMake "Loft" 2 f_Loft___init__ (aCons (eEsc (eVar 5)) aNil))) (sSeq (sFor (iArg fRng1 (aCons (eFn 2 f__law_roll (aCons (eEsc (eVar 1)) (aCons (eC (.int 13)) aNil))) aNil)) (gtName 3) (sSeq (sAsgT (eTup (aCons (eEsc (eFn 2 f__law_roll (aCons (eEsc (eVar 1)) (aCons (eC (.int 6)) aNil)))) (aCons (eBin gIx (eC (.str "pqrst")) (eFn 2 f__law_roll (aCons (eEsc (eVar 1)) (aCons (eC (.int 5)) aNil)))) (aCons (eEsc (eFn 2 f__law_roll (aCons (eEsc (eVar 1)) (aCons (eC (.int 12)) aNil)))) (aCons (eBin gIx (eLst (aCons (eC (.str "ann")) (aCons (eC (.str "bo")) (aCons (eC (.str "")) aNil)))) (eBin gDiv (eFn 2 f__law_roll (aCons (eEsc (eVar 1)) (aCons (eC (.int 5)) aNil))) (eC (.int 2)))) aNil))))) (gtTup 4 (gtCons (gtName 10) (gtCons (gtName 11) (gtCons (gtName 12) (gtCons (gtName 13) gtNil)))))) (sSeq (sSet 4 (eLc (iArg fRng1 (aCons (eCall gLen (aCons (eVar 5) aNil)) aNil)) [15] (gtName 15) mYes (eBin gSub (eBin gIx (eVar 5) (eVar 15)) (eCall gSum (aCons (eLock (eEsc (eVar 6)) (eLc (iDct keysD' (eBor 6)) [17] (gtName 17) (eTest (eBin gEq (eBin gIx (eBin gIx (eVar 6) (eVar 17)) (eC (.int 0))) (eVar 15))) (eBin gIx (eBin gIx (eVar 6) (eVar 17)) (eC (.int 1))))) aNil))))) (sSeq (sIf (eTest (eBin gNe (eLc (iArg fRng1 (aCons (eCall gLen (aCons (eVar 5) aNil)) aNil)) [15] (gtName 15) mYes (eEsc (eMeth "Loft" "free" 2 f_Loft_free (eVar 2) (aCons (eEsc (eVar 15)) aNil)))) (eVar 4))) (sRet (eC (.bl false))) sSkip) (sSeq (sSet 8 (eIf (eTest (eBin gLt (eVar 10) (eC (.int 3)))) (eVar 12) (eBin gIx (eDGet2 (eVar 7) (eVar 11) (eTup (aCons (eC (.str "")) (aCons (eC (.int 0)) aNil)))) (eC (.int 1))))) (sSeq (sSet 9 (eLc (iArg fRng1 (aCons (eCall gLen (aCons (eVar 5) aNil)) aNil)) [15] (gtName 15) (eTest (eBin gGe (eBin gIx (eVar 4) (eVar 15)) (eVar 8))) (eTup (aCons (eBin gIx (eVar 4) (eVar 15)) (aCons (eEsc (eVar 15)) aNil))))) (sSeq (sIf (eTest (eBin gLt (eVar 10) (eC (.int 3)))) (sSeq (sSet 14 (eIf (bOr (eTest (eBin gIn1 (eVar 11) (eVar 6))) (eTest (eBin gIn1 (eVar 11) (eVar 7)))) (eC (.str "deed")) (eIf (eTest (eBin gLt (eVar 12) (eC (.int 1)))) (eC (.str "size")) (eC (.str "no room"))))) (sSeq (sSet 14 (eIf (bAnd (eTest (eBin gEq (eVar 14) (eC (.str "no room")))) (eTest (eBin gNe (eVar 9) (eLst aNil)))) (eBin gIx (eCall gMin (aCons (eVar 9) aNil)) (eC (.int 1))) (eVar 14))) (sSeq (sIf (eTest (eBin gNe (eTold toldL (eMeth "Loft" "put" 3 f_Loft_put (eVar 2) (aCons (eEsc (eVar 11)) (aCons (eEsc (eVar 12)) aNil)))) (eVar 14))) (sRet (eC (.bl false))) sSkip) (sSet 6 (eCall gDict (aCons (eBin gAdd (eUn gListI (eVar 6)) (eIf (eTest (eBin gNotIn1 (eVar 14) (eLst (aCons (eC (.str "deed")) (aCons (eC (.str "size")) (aCons (eC (.str "no room")) aNil)))))) (eLst (aCons (eTup (aCons (eEsc (eVar 11)) (aCons (eTup (aCons (eEsc (eVar 14)) (aCons (eEsc (eVar 12)) aNil))) aNil))) aNil)) (eLst aNil))) aNil)))))) (sIf (eTest (eBin gEq (eVar 10) (eC (.int 3)))) (sSeq (sSet 14 (eIf (eTest (eBin gNotIn1 (eVar 11) (eVar 6))) (eC (.str "no such")) (eIf (eTest (eBin gEq (eVar 13) (eC (.str "")))) (eC (.str "deed")) (eC .non)))) (sSeq (sIf (eTest (eBin gNe (eTold toldL (eMeth "Loft" "lend" 3 f_Loft_lend (eVar 2) (aCons (eEsc (eVar 11)) (aCons (eEsc (eVar 13)) aNil)))) (eVar 14))) (sRet (eC (.bl false))) sSkip) (sSeq (sSet 7 (eCall gDict (aCons (eBin gAdd (eUn gListI (eVar 7)) (eIf (eTest (eBin gIs (eVar 14) (eC .non))) (eLst (aCons (eTup (aCons (eEsc (eVar 11)) (aCons (eTup (aCons (eEsc (eVar 13)) (aCons (eBin gIx (eBin gIx (eVar 6) (eVar 11)) (eC (.int 1))) aNil))) aNil))) aNil)) (eLst aNil))) aNil))) (sSet 6 (eCall gDict (aCons (eLock (eEsc (eVar 6)) (eLc (iDct keysD' (eBor 6)) [17] (gtName 17) (bOr (eTest (eBin gNe (eVar 17) (eVar 11))) (eTest (eBin gIsNot (eVar 14) (eC .non)))) (eTup (aCons (eEsc (eVar 17)) (aCons (eBin gIx (eVar 6) (eVar 17)) aNil))))) aNil)))))) (sSeq (sSet 14 (eIf (eTest (eBin gNotIn1 (eVar 11) (eVar 7))) (eC (.str "no such")) (eIf (eTest (eBin gNe (eVar 9) (eLst aNil))) (eBin gIx (eCall gMin (aCons (eVar 9) aNil)) (eC (.int 1))) (eC (.str "no room"))))) (sSeq (sIf (eTest (eBin gNe (eTold toldL (eMeth "Loft" "bring" 2 f_Loft_bring (eVar 2) (aCons (eEsc (eVar 11)) aNil))) (eVar 14))) (sRet (eC (.bl false))) sSkip) (sSeq (sSet 16 (eBin gNotIn1 (eVar 14) (eLst (aCons (eC (.str "no such")) (aCons (eC (.str "no room")) aNil))))) (sSeq (sSet 6 (eCall gDict (aCons (eBin gAdd (eUn gListI (eVar 6)) (eIf (eTru (eVar 16)) (eLst (aCons (eTup (aCons (eEsc (eVar 11)) (aCons (eTup (aCons (eEsc (eVar 14)) (aCons (eEsc (eVar 8)) aNil))) aNil))) aNil)) (eLst aNil))) aNil))) (sSet 7 (eCall gDict (aCons (eLock (eEsc (eVar 7)) (eLc (iDct keysD' (eBor 7)) [17] (gtName 17) (bOr (eTest (eBin gNe (eVar 17) (eVar 11))) (bNot (eTru (eVar 16)))) (eTup (aCons (eEsc (eVar 17)) (aCons (eBin gIx (eVar 7) (eVar 17)) aNil))))) aNil))))))))) (sIf (eTest (eBin gNe (eMeth "Loft" "shown" 1 f_Loft_shown (eVar 2) aNil) (eTup (aCons (eCall gTuple (aCons (eUn gSortI (eVar 6)) aNil)) (aCons (eCall gTuple (aCons (eUn gSortI (eVar 7)) aNil)) aNil))))) (sRet (eC (.bl false))) sSkip)))))))) (sSeq (sSet 4 (eLc (iArg fRng1 (aCons (eCall gLen (aCons (eVar 5) aNil)) aNil)) [15] (gtName 15) mYes (eBin gSub (eBin gIx (eVar 5) (eVar 15)) (eCall gSum (aCons (eLock (eEsc (eVar 6)) (eLc (iDct keysD' (eBor 6)) [17] (gtName 17) (eTest (eBin gEq (eBin gIx (eBin gIx (eVar 6) (eVar 17)) (eC (.int 0))) (eVar 15))) (eBin gIx (eBin gIx (eVar 6) (eVar 17)) (eC (.int 1))))) aNil))))) (sIf (bNot (eTru (eFn 4 f__law_rest1 (aCons (eEsc (eVar 1)) (aCons (eEsc (eVar 7)) (aCons (eEsc (eVar 2)) (aCons (eEsc (eVar 4)) aNil))))))) (sRet (eC (.bl false))) sSkip))))) ⟨ez s0, [d.o], []⟩) fun _ => True := by
  have hr3 : callF f__law_roll [.obj 0, .int 3] [d.o] [] = .ok (.sh (.int (d.r 3))) ⟨[], [(d.n 3).o], []⟩ := roll_eq d 3 [] [] (by decide) (by decide)
  have l0 := d.r_lo (many := 3) (by decide)
  have l1 := d.r_hi (many := 3) (by decide)
  have hrng : fRng1 [.int (1 + d.r 3)] = some (rangeD 0 (1 + d.r 3).toNat) := fRng1_of (by omega) (by omega)
  obtain ⟨rs, d1, hlen, hpos, hdraw⟩ := racks_draw s0 (rangeD 0 (1 + d.r 3).toNat) (d.n 3)
  have hn : rs.length = (1 + d.r 3).toNat := by rw [hlen]; simp [rangeD]
  have h3 : rs.length ≤ 3 := by omega
  cases rs with
  | nil => simp at hn; omega
  | cons r rs =>
  have hlc : eLc (iArg fRng1 (aCons (eBin gAdd (eC (.int 1)) (eFn 2 f__law_roll (aCons (eEsc (eVar 1)) (aCons (eC (.int 3)) aNil)))) aNil)) [15] (gtName 15) mYes (eEsc (eBin gAdd (eC (.int 1)) (eFn 2 f__law_roll (aCons (eEsc (eVar 1)) (aCons (eC (.int 20)) aNil))))) ⟨ez s0, [d.o], []⟩ = .ok (.own (.lst ((r :: rs).map D.int))) ⟨ez s0, [d1.o], []⟩ := by
    rw [eLc_of (src := .pur) (ds := rangeD 0 (1 + d.r 3).toNat) (w1 := ⟨ez s0, [(d.n 3).o], []⟩) (by simp [hr3, hrng]) (by simp [rangeD]; omega) hdraw]
    simp
  have b0 : (sAsgT (eTup (aCons (eEsc (eLc (iArg fRng1 (aCons (eBin gAdd (eC (.int 1)) (eFn 2 f__law_roll (aCons (eEsc (eVar 1)) (aCons (eC (.int 3)) aNil)))) aNil)) [15] (gtName 15) mYes (eEsc (eBin gAdd (eC (.int 1)) (eFn 2 f__law_roll (aCons (eEsc (eVar 1)) (aCons (eC (.int 20)) aNil))))))) (aCons (eEsc eDNew) (aCons (eEsc eDNew) aNil)))) (gtTup 3 (gtCons (gtName 5) (gtCons (gtName 6) (gtCons (gtName 7) gtNil))))) ⟨ez s0, [d.o], []⟩ = .ok .nx ⟨[s0, some (.sh (.obj 0)), none, none, none, some (.sh (.lst ((r :: rs).map D.int))), some (.sh (.dct false [])), some (.sh (.dct false [])), none, none, none, none, none, none, none, none, none, none], [d1.o], []⟩ := by
    simp only [s_asgT, e_tup, a_cons, a_nil, e_esc, hlc, bind_ok, escR_own, e_dnew]
    simp
  have hinit := init_eq d1.o r rs hpos
  have b1 : (sSet 2 (eMake "Loft" 2 f_Loft___init__ (aCons (eEsc (eVar 5)) aNil))) ⟨[s0, some (.sh (.obj 0)), none, none, none, some (.sh (.lst ((r :: rs).map D.int))), some (.sh (.dct false [])), some (.sh (.dct false [])), none, none, none, none, none, none, none, none, none, none], [d1.o], []⟩ = .ok .nx ⟨ef s0 none none (r :: rs) (sl false (kDc [])) (sl false (lDc [])) none none none none none none none none, ST d1.o (r :: rs) [] [] [], []⟩ := by
    simp only [s_set_, e_make, a_cons, a_nil, e_esc, e_var, List.getElem?_cons_succ, List.getElem?_cons_zero, bind_ok, escR_sh, shAll_sh, shAll_nil, Option.map_some, List.length_cons, List.length_nil, List.cons_append, List.nil_append]
    simp only [Nat.zero_add, Nat.reduceAdd, if_true, hinit, backW_ok_sh, bind_ok, putR_sh, List.set_cons_succ, List.set_cons_zero]
    rfl
  have hr13 : callF f__law_roll [.obj 0, .int 13] (ST d1.o (r :: rs) [] [] []) [] = .ok (.sh (.int (d1.r 13))) ⟨[], ST (d1.n 13).o (r :: rs) [] [] [], []⟩ := roll_st d1 (r :: rs) [] [] [] [] 13 (by decide) (by decide)
  have k0 := d1.r_lo (many := 13) (by decide)
  have k1 := d1.r_hi (many := 13) (by decide)
  have hrng2 : fRng1 [.int (d1.r 13)] = some (rangeD 0 (d1.r 13).toNat) := fRng1_of k0 (by omega)
  have hinv : Inv (r :: rs) [] [] [] (rangeD 0 (d1.r 13).toNat).length := ⟨by simp, by simp [names], List.Perm.refl _, by simp, by simp, by simp [names], by simp, by simp, by simp, by simp [rangeD]; omega⟩
  obtain ⟨K, L, L', d2, c6, c7, x3, x4, x8, x9, x10, x11, x12, x13, x14, x16, hi, hturns⟩ := turns (racks := r :: rs) h3 s0 (rangeD 0 (d1.r 13).toNat) [] [] [] (d1.n 13) false false none none none none none none none none none none hinv
  have b2 : (sFor (iArg fRng1 (aCons (eFn 2 f__law_roll (aCons (eEsc (eVar 1)) (aCons (eC (.int 13)) aNil))) aNil)) (gtName 3) (sSeq (sAsgT (eTup (aCons (eEsc (eFn 2 f__law_roll (aCons (eEsc (eVar 1)) (aCons (eC (.int 6)) aNil)))) (aCons (eBin gIx (eC (.str "pqrst")) (eFn 2 f__law_roll (aCons (eEsc (eVar 1)) (aCons (eC (.int 5)) aNil)))) (aCons (eEsc (eFn 2 f__law_roll (aCons (eEsc (eVar 1)) (aCons (eC (.int 12)) aNil)))) (aCons (eBin gIx (eLst (aCons (eC (.str "ann")) (aCons (eC (.str "bo")) (aCons (eC (.str "")) aNil)))) (eBin gDiv (eFn 2 f__law_roll (aCons (eEsc (eVar 1)) (aCons (eC (.int 5)) aNil))) (eC (.int 2)))) aNil))))) (gtTup 4 (gtCons (gtName 10) (gtCons (gtName 11) (gtCons (gtName 12) (gtCons (gtName 13) gtNil)))))) (sSeq (sSet 4 (eLc (iArg fRng1 (aCons (eCall gLen (aCons (eVar 5) aNil)) aNil)) [15] (gtName 15) mYes (eBin gSub (eBin gIx (eVar 5) (eVar 15)) (eCall gSum (aCons (eLock (eEsc (eVar 6)) (eLc (iDct keysD' (eBor 6)) [17] (gtName 17) (eTest (eBin gEq (eBin gIx (eBin gIx (eVar 6) (eVar 17)) (eC (.int 0))) (eVar 15))) (eBin gIx (eBin gIx (eVar 6) (eVar 17)) (eC (.int 1))))) aNil))))) (sSeq (sIf (eTest (eBin gNe (eLc (iArg fRng1 (aCons (eCall gLen (aCons (eVar 5) aNil)) aNil)) [15] (gtName 15) mYes (eEsc (eMeth "Loft" "free" 2 f_Loft_free (eVar 2) (aCons (eEsc (eVar 15)) aNil)))) (eVar 4))) (sRet (eC (.bl false))) sSkip) (sSeq (sSet 8 (eIf (eTest (eBin gLt (eVar 10) (eC (.int 3)))) (eVar 12) (eBin gIx (eDGet2 (eVar 7) (eVar 11) (eTup (aCons (eC (.str "")) (aCons (eC (.int 0)) aNil)))) (eC (.int 1))))) (sSeq (sSet 9 (eLc (iArg fRng1 (aCons (eCall gLen (aCons (eVar 5) aNil)) aNil)) [15] (gtName 15) (eTest (eBin gGe (eBin gIx (eVar 4) (eVar 15)) (eVar 8))) (eTup (aCons (eBin gIx (eVar 4) (eVar 15)) (aCons (eEsc (eVar 15)) aNil))))) (sSeq (sIf (eTest (eBin gLt (eVar 10) (eC (.int 3)))) (sSeq (sSet 14 (eIf (bOr (eTest (eBin gIn1 (eVar 11) (eVar 6))) (eTest (eBin gIn1 (eVar 11) (eVar 7)))) (eC (.str "deed")) (eIf (eTest (eBin gLt (eVar 12) (eC (.int 1)))) (eC (.str "size")) (eC (.str "no room"))))) (sSeq (sSet 14 (eIf (bAnd (eTest (eBin gEq (eVar 14) (eC (.str "no room")))) (eTest (eBin gNe (eVar 9) (eLst aNil)))) (eBin gIx (eCall gMin (aCons (eVar 9) aNil)) (eC (.int 1))) (eVar 14))) (sSeq (sIf (eTest (eBin gNe (eTold toldL (eMeth "Loft" "put" 3 f_Loft_put (eVar 2) (aCons (eEsc (eVar 11)) (aCons (eEsc (eVar 12)) aNil)))) (eVar 14))) (sRet (eC (.bl false))) sSkip) (sSet 6 (eCall gDict (aCons (eBin gAdd (eUn gListI (eVar 6)) (eIf (eTest (eBin gNotIn1 (eVar 14) (eLst (aCons (eC (.str "deed")) (aCons (eC (.str "size")) (aCons (eC (.str "no room")) aNil)))))) (eLst (aCons (eTup (aCons (eEsc (eVar 11)) (aCons (eTup (aCons (eEsc (eVar 14)) (aCons (eEsc (eVar 12)) aNil))) aNil))) aNil)) (eLst aNil))) aNil)))))) (sIf (eTest (eBin gEq (eVar 10) (eC (.int 3)))) (sSeq (sSet 14 (eIf (eTest (eBin gNotIn1 (eVar 11) (eVar 6))) (eC (.str "no such")) (eIf (eTest (eBin gEq (eVar 13) (eC (.str "")))) (eC (.str "deed")) (eC .non)))) (sSeq (sIf (eTest (eBin gNe (eTold toldL (eMeth "Loft" "lend" 3 f_Loft_lend (eVar 2) (aCons (eEsc (eVar 11)) (aCons (eEsc (eVar 13)) aNil)))) (eVar 14))) (sRet (eC (.bl false))) sSkip) (sSeq (sSet 7 (eCall gDict (aCons (eBin gAdd (eUn gListI (eVar 7)) (eIf (eTest (eBin gIs (eVar 14) (eC .non))) (eLst (aCons (eTup (aCons (eEsc (eVar 11)) (aCons (eTup (aCons (eEsc (eVar 13)) (aCons (eBin gIx (eBin gIx (eVar 6) (eVar 11)) (eC (.int 1))) aNil))) aNil))) aNil)) (eLst aNil))) aNil))) (sSet 6 (eCall gDict (aCons (eLock (eEsc (eVar 6)) (eLc (iDct keysD' (eBor 6)) [17] (gtName 17) (bOr (eTest (eBin gNe (eVar 17) (eVar 11))) (eTest (eBin gIsNot (eVar 14) (eC .non)))) (eTup (aCons (eEsc (eVar 17)) (aCons (eBin gIx (eVar 6) (eVar 17)) aNil))))) aNil)))))) (sSeq (sSet 14 (eIf (eTest (eBin gNotIn1 (eVar 11) (eVar 7))) (eC (.str "no such")) (eIf (eTest (eBin gNe (eVar 9) (eLst aNil))) (eBin gIx (eCall gMin (aCons (eVar 9) aNil)) (eC (.int 1))) (eC (.str "no room"))))) (sSeq (sIf (eTest (eBin gNe (eTold toldL (eMeth "Loft" "bring" 2 f_Loft_bring (eVar 2) (aCons (eEsc (eVar 11)) aNil))) (eVar 14))) (sRet (eC (.bl false))) sSkip) (sSeq (sSet 16 (eBin gNotIn1 (eVar 14) (eLst (aCons (eC (.str "no such")) (aCons (eC (.str "no room")) aNil))))) (sSeq (sSet 6 (eCall gDict (aCons (eBin gAdd (eUn gListI (eVar 6)) (eIf (eTru (eVar 16)) (eLst (aCons (eTup (aCons (eEsc (eVar 11)) (aCons (eTup (aCons (eEsc (eVar 14)) (aCons (eEsc (eVar 8)) aNil))) aNil))) aNil)) (eLst aNil))) aNil))) (sSet 7 (eCall gDict (aCons (eLock (eEsc (eVar 7)) (eLc (iDct keysD' (eBor 7)) [17] (gtName 17) (bOr (eTest (eBin gNe (eVar 17) (eVar 11))) (bNot (eTru (eVar 16)))) (eTup (aCons (eEsc (eVar 17)) (aCons (eBin gIx (eVar 7) (eVar 17)) aNil))))) aNil))))))))) (sIf (eTest (eBin gNe (eMeth "Loft" "shown" 1 f_Loft_shown (eVar 2) aNil) (eTup (aCons (eCall gTuple (aCons (eUn gSortI (eVar 6)) aNil)) (aCons (eCall gTuple (aCons (eUn gSortI (eVar 7)) aNil)) aNil))))) (sRet (eC (.bl false))) sSkip)))))))) ⟨ef s0 none none (r :: rs) (sl false (kDc [])) (sl false (lDc [])) none none none none none none none none, ST d1.o (r :: rs) [] [] [], []⟩ = .ok .nx ⟨ef s0 x3 x4 (r :: rs) (sl c6 (kDc K)) (sl c7 (lDc L')) x8 x9 x10 x11 x12 x13 x14 x16, ST d2.o (r :: rs) K L [], []⟩ := by
    rw [s_for_]
    have hm : iArg fRng1 (aCons (eFn 2 f__law_roll (aCons (eEsc (eVar 1)) (aCons (eC (.int 13)) aNil))) aNil) ⟨ef s0 none none (r :: rs) (sl false (kDc [])) (sl false (lDc [])) none none none none none none none none, ST d1.o (r :: rs) [] [] [], []⟩ = .ok (.pur, rangeD 0 (d1.r 13).toNat) ⟨ef s0 none none (r :: rs) (sl false (kDc [])) (sl false (lDc [])) none none none none none none none none, ST (d1.n 13).o (r :: rs) [] [] [], []⟩ := by
      simp only [i_arg_, a_cons, a_nil, e_fn, e_esc, e_var, e_c, List.getElem?_cons_succ, List.getElem?_cons_zero, bind_ok, escR_sh, shAll_sh, shAll_nil, Option.map_some, List.length_cons, List.length_nil, Nat.zero_add, Nat.reduceAdd, if_true, hr13, backW_ok_sh, dAll_cons, dAll_nil, R_d_sh, deref_int, Option.bind_some, hrng2]
    rw [hm]
    exact hturns
  have hsz := hi.sz
  obtain ⟨c6', b3⟩ := b_free hi.kn (by omega) s0 x3 x4 (sl c7 (lDc L')) x8 x9 x10 x11 x12 x13 x14 x16 (r :: rs) (ST d2.o (r :: rs) K L []) c6 (by omega)
  have hLO : LOk L := ⟨hi.ln, fun x hx => (hi.lok x hx).1, hi.low, by omega⟩
  have hLO' : LOk L' := ⟨hi.l'n, hi.l'ok, fun q hq => hi.low q (hi.p.mem_iff.mp hq), by rw [hi.l'l]; omega⟩
  obtain ⟨st', lk', hrest⟩ := rest_eq hLO hLO' hi.p (r :: rs) K d2 (by simp) h3 (by omega)
  have b4 : ∃ w', (sIf (bNot (eTru (eFn 4 f__law_rest1 (aCons (eEsc (eVar 1)) (aCons (eEsc (eVar 7)) (aCons (eEsc (eVar 2)) (aCons (eEsc (eVar 4)) aNil))))))) (sRet (eC (.bl false))) sSkip) ⟨ef s0 x3 (some (.own (.lst ((frs (r :: rs) K).map D.int)))) (r :: rs) (sl c6' (kDc K)) (sl c7 (lDc L')) x8 x9 x10 x11 x12 x13 x14 x16, ST d2.o (r :: rs) K L [], []⟩ = .ok .nx w' := by
    generalize frs (r :: rs) K = F at hrest
    cases c7 with
    | true =>
      refine ⟨⟨[s0, some (.sh (.obj 0)), some (.sh (.obj 1)), x3, some (.sh (.lst (F.map D.int))), some (.sh (.lst ((r :: rs).map D.int))), sl c6' (kDc K), some (.sh (lDc L')), x8, x9, x10, x11, x12, x13, x14, none, x16, none], st', lk'⟩, ?_⟩
      simp [hrest]
    | false =>
      refine ⟨⟨[s0, some (.sh (.obj 0)), some (.sh (.obj 1)), x3, some (.sh (.lst (F.map D.int))), some (.sh (.lst ((r :: rs).map D.int))), sl c6' (kDc K), some (.sh (lDc L')), x8, x9, x10, x11, x12, x13, x14, none, x16, none], st', lk'⟩, ?_⟩
      simp [hrest]
  obtain ⟨w', b4⟩ := b4
  exact ⟨w', seq_nx b0 (seq_nx b1 (seq_nx b2 (seq_nx b3 b4))), trivial⟩
theorem law_math (ns : List Int) : ∃ w', f_law [.ext (ns.map D.int)] ⟨[], [], []⟩ = .ok (.sh (.bl true)) w' := by
  obtain ⟨d, hd⟩ := rounds_eq ns []
  have hd2 : callF f__law_rounds [.ext (ns.map D.int), .int 1] [] [] = .ok (.own (.lst [.obj 0])) ⟨[], [d.o], []⟩ := hd
  obtain ⟨w1, hb, _⟩ := law_body d (some (.sh (.ext (ns.map D.int))))
  have hm : m_law ⟨[some (.sh (.ext (ns.map D.int))), none, none, none, none, none, none, none, none, none, none, none, none, none, none, none, none, none], [], []⟩ = .ok (.rt (.sh (.bl true))) w1 := by
    unfold m_law
    refine seq_nx (w' := w1) ?_ rfl
    rw [s_for_]
    have hi : iSeq (eEsc (eFn 2 f__law_rounds (aCons (eEsc (eVar 0)) (aCons (eC (.int 1)) aNil)))) ⟨[some (.sh (.ext (ns.map D.int))), none, none, none, none, none, none, none, none, none, none, none, none, none, none, none, none, none], [], []⟩ = .ok (.pur, [.obj 0]) ⟨[some (.sh (.ext (ns.map D.int))), none, none, none, none, none, none, none, none, none, none, none, none, none, none, none, none, none], [d.o], []⟩ := by
      simp [hd2]
    rw [hi, bind_ok]
    simp only
    rw [sForL_cons rfl]
    have ht : turnF (gtName 1) (sSeq (sAsgT (eTup (aCons (eEsc (eLc (iArg fRng1 (aCons (eBin gAdd (eC (.int 1)) (eFn 2 f__law_roll (aCons (eEsc (eVar 1)) (aCons (eC (.int 3)) aNil)))) aNil)) [15] (gtName 15) mYes (eEsc (eBin gAdd (eC (.int 1)) (eFn 2 f__law_roll (aCons (eEsc (eVar 1)) (aCons (eC (.int 20)) aNil))))))) (aCons (eEsc eDNew) (aCons (eEsc eDNew) aNil)))) (gtTup 3 (gtCons (gtName 5) (gtCons (gtName 6) (gtCons (gtName 7) gtNil))))) (sSeq (sSet 2 (eMake "Loft" 2 f_Loft___init__ (aCons (eEsc (eVar 5)) aNil))) (sSeq (sFor (iArg fRng1 (aCons (eFn 2 f__law_roll (aCons (eEsc (eVar 1)) (aCons (eC (.int 13)) aNil))) aNil)) (gtName 3) (sSeq (sAsgT (eTup (aCons (eEsc (eFn 2 f__law_roll (aCons (eEsc (eVar 1)) (aCons (eC (.int 6)) aNil)))) (aCons (eBin gIx (eC (.str "pqrst")) (eFn 2 f__law_roll (aCons (eEsc (eVar 1)) (aCons (eC (.int 5)) aNil)))) (aCons (eEsc (eFn 2 f__law_roll (aCons (eEsc (eVar 1)) (aCons (eC (.int 12)) aNil)))) (aCons (eBin gIx (eLst (aCons (eC (.str "ann")) (aCons (eC (.str "bo")) (aCons (eC (.str "")) aNil)))) (eBin gDiv (eFn 2 f__law_roll (aCons (eEsc (eVar 1)) (aCons (eC (.int 5)) aNil))) (eC (.int 2)))) aNil))))) (gtTup 4 (gtCons (gtName 10) (gtCons (gtName 11) (gtCons (gtName 12) (gtCons (gtName 13) gtNil)))))) (sSeq (sSet 4 (eLc (iArg fRng1 (aCons (eCall gLen (aCons (eVar 5) aNil)) aNil)) [15] (gtName 15) mYes (eBin gSub (eBin gIx (eVar 5) (eVar 15)) (eCall gSum (aCons (eLock (eEsc (eVar 6)) (eLc (iDct keysD' (eBor 6)) [17] (gtName 17) (eTest (eBin gEq (eBin gIx (eBin gIx (eVar 6) (eVar 17)) (eC (.int 0))) (eVar 15))) (eBin gIx (eBin gIx (eVar 6) (eVar 17)) (eC (.int 1))))) aNil))))) (sSeq (sIf (eTest (eBin gNe (eLc (iArg fRng1 (aCons (eCall gLen (aCons (eVar 5) aNil)) aNil)) [15] (gtName 15) mYes (eEsc (eMeth "Loft" "free" 2 f_Loft_free (eVar 2) (aCons (eEsc (eVar 15)) aNil)))) (eVar 4))) (sRet (eC (.bl false))) sSkip) (sSeq (sSet 8 (eIf (eTest (eBin gLt (eVar 10) (eC (.int 3)))) (eVar 12) (eBin gIx (eDGet2 (eVar 7) (eVar 11) (eTup (aCons (eC (.str "")) (aCons (eC (.int 0)) aNil)))) (eC (.int 1))))) (sSeq (sSet 9 (eLc (iArg fRng1 (aCons (eCall gLen (aCons (eVar 5) aNil)) aNil)) [15] (gtName 15) (eTest (eBin gGe (eBin gIx (eVar 4) (eVar 15)) (eVar 8))) (eTup (aCons (eBin gIx (eVar 4) (eVar 15)) (aCons (eEsc (eVar 15)) aNil))))) (sSeq (sIf (eTest (eBin gLt (eVar 10) (eC (.int 3)))) (sSeq (sSet 14 (eIf (bOr (eTest (eBin gIn1 (eVar 11) (eVar 6))) (eTest (eBin gIn1 (eVar 11) (eVar 7)))) (eC (.str "deed")) (eIf (eTest (eBin gLt (eVar 12) (eC (.int 1)))) (eC (.str "size")) (eC (.str "no room"))))) (sSeq (sSet 14 (eIf (bAnd (eTest (eBin gEq (eVar 14) (eC (.str "no room")))) (eTest (eBin gNe (eVar 9) (eLst aNil)))) (eBin gIx (eCall gMin (aCons (eVar 9) aNil)) (eC (.int 1))) (eVar 14))) (sSeq (sIf (eTest (eBin gNe (eTold toldL (eMeth "Loft" "put" 3 f_Loft_put (eVar 2) (aCons (eEsc (eVar 11)) (aCons (eEsc (eVar 12)) aNil)))) (eVar 14))) (sRet (eC (.bl false))) sSkip) (sSet 6 (eCall gDict (aCons (eBin gAdd (eUn gListI (eVar 6)) (eIf (eTest (eBin gNotIn1 (eVar 14) (eLst (aCons (eC (.str "deed")) (aCons (eC (.str "size")) (aCons (eC (.str "no room")) aNil)))))) (eLst (aCons (eTup (aCons (eEsc (eVar 11)) (aCons (eTup (aCons (eEsc (eVar 14)) (aCons (eEsc (eVar 12)) aNil))) aNil))) aNil)) (eLst aNil))) aNil)))))) (sIf (eTest (eBin gEq (eVar 10) (eC (.int 3)))) (sSeq (sSet 14 (eIf (eTest (eBin gNotIn1 (eVar 11) (eVar 6))) (eC (.str "no such")) (eIf (eTest (eBin gEq (eVar 13) (eC (.str "")))) (eC (.str "deed")) (eC .non)))) (sSeq (sIf (eTest (eBin gNe (eTold toldL (eMeth "Loft" "lend" 3 f_Loft_lend (eVar 2) (aCons (eEsc (eVar 11)) (aCons (eEsc (eVar 13)) aNil)))) (eVar 14))) (sRet (eC (.bl false))) sSkip) (sSeq (sSet 7 (eCall gDict (aCons (eBin gAdd (eUn gListI (eVar 7)) (eIf (eTest (eBin gIs (eVar 14) (eC .non))) (eLst (aCons (eTup (aCons (eEsc (eVar 11)) (aCons (eTup (aCons (eEsc (eVar 13)) (aCons (eBin gIx (eBin gIx (eVar 6) (eVar 11)) (eC (.int 1))) aNil))) aNil))) aNil)) (eLst aNil))) aNil))) (sSet 6 (eCall gDict (aCons (eLock (eEsc (eVar 6)) (eLc (iDct keysD' (eBor 6)) [17] (gtName 17) (bOr (eTest (eBin gNe (eVar 17) (eVar 11))) (eTest (eBin gIsNot (eVar 14) (eC .non)))) (eTup (aCons (eEsc (eVar 17)) (aCons (eBin gIx (eVar 6) (eVar 17)) aNil))))) aNil)))))) (sSeq (sSet 14 (eIf (eTest (eBin gNotIn1 (eVar 11) (eVar 7))) (eC (.str "no such")) (eIf (eTest (eBin gNe (eVar 9) (eLst aNil))) (eBin gIx (eCall gMin (aCons (eVar 9) aNil)) (eC (.int 1))) (eC (.str "no room"))))) (sSeq (sIf (eTest (eBin gNe (eTold toldL (eMeth "Loft" "bring" 2 f_Loft_bring (eVar 2) (aCons (eEsc (eVar 11)) aNil))) (eVar 14))) (sRet (eC (.bl false))) sSkip) (sSeq (sSet 16 (eBin gNotIn1 (eVar 14) (eLst (aCons (eC (.str "no such")) (aCons (eC (.str "no room")) aNil))))) (sSeq (sSet 6 (eCall gDict (aCons (eBin gAdd (eUn gListI (eVar 6)) (eIf (eTru (eVar 16)) (eLst (aCons (eTup (aCons (eEsc (eVar 11)) (aCons (eTup (aCons (eEsc (eVar 14)) (aCons (eEsc (eVar 8)) aNil))) aNil))) aNil)) (eLst aNil))) aNil))) (sSet 7 (eCall gDict (aCons (eLock (eEsc (eVar 7)) (eLc (iDct keysD' (eBor 7)) [17] (gtName 17) (bOr (eTest (eBin gNe (eVar 17) (eVar 11))) (bNot (eTru (eVar 16)))) (eTup (aCons (eEsc (eVar 17)) (aCons (eBin gIx (eVar 7) (eVar 17)) aNil))))) aNil))))))))) (sIf (eTest (eBin gNe (eMeth "Loft" "shown" 1 f_Loft_shown (eVar 2) aNil) (eTup (aCons (eCall gTuple (aCons (eUn gSortI (eVar 6)) aNil)) (aCons (eCall gTuple (aCons (eUn gSortI (eVar 7)) aNil)) aNil))))) (sRet (eC (.bl false))) sSkip)))))))) (sSeq (sSet 4 (eLc (iArg fRng1 (aCons (eCall gLen (aCons (eVar 5) aNil)) aNil)) [15] (gtName 15) mYes (eBin gSub (eBin gIx (eVar 5) (eVar 15)) (eCall gSum (aCons (eLock (eEsc (eVar 6)) (eLc (iDct keysD' (eBor 6)) [17] (gtName 17) (eTest (eBin gEq (eBin gIx (eBin gIx (eVar 6) (eVar 17)) (eC (.int 0))) (eVar 15))) (eBin gIx (eBin gIx (eVar 6) (eVar 17)) (eC (.int 1))))) aNil))))) (sIf (bNot (eTru (eFn 4 f__law_rest1 (aCons (eEsc (eVar 1)) (aCons (eEsc (eVar 7)) (aCons (eEsc (eVar 2)) (aCons (eEsc (eVar 4)) aNil))))))) (sRet (eC (.bl false))) sSkip))))) (.obj 0) ⟨[some (.sh (.ext (ns.map D.int))), none, none, none, none, none, none, none, none, none, none, none, none, none, none, none, none, none], [d.o], []⟩ = .ok .nx w1 := hb
    rw [ht]
    exact sForL_nil rfl
  have : callF f_law [.ext (ns.map D.int)] [] [] = .ok (.sh (.bl true)) ⟨[], w1.st, w1.lk⟩ := by
    rw [f_law]
    refine callF_run (env := [some (.sh (.ext (ns.map D.int))), none, none, none, none, none, none, none, none, none, none, none, none, none, none, none, none, none]) rfl ?_
    rw [hm]; rfl
  exact ok_of_callF this
end Lk18
set_option maxHeartbeats 1000000
/-! Rf27: the head: facts by names, code tables, the law's end. -/
namespace Rf
open PySem PySem.Spec L2
open PyProof.Rows hiding St

/-- a def with a table: where it stands, its qualified name, the name of its code objects, their places -/
structure TD where
  at_ : He.Defn
  q : Str
  lq : Str
  L : List (Int × Int)
def TD.tb (K : PySem.W.Frag) (t : TD) : Tb := ⟨(He.cT K t.at_).2, t.lq, t.L⟩
def nmIn (z : Addr × Obj) (q : Str) : Bool := match z.2 with
  | ⟨_, _, .fields vs, _⟩ => (match vs.toList with
    | _ :: .str n _ :: _ => n == q
    | _ => false)
  | _ => false
def uniC (K : PySem.W.Frag) (t : TD) : Bool := K.all fun z => !nmIn z t.q || decide (z.1 = (He.cT K t.at_).1)
def ndP : List Addr → Bool
  | [] => true
  | a :: r => !(r.any fun b => decide (b = a)) && ndP r
def exT (tf : List TD) (K : PySem.W.Frag) : Bool := ndP (tf.map fun t => (He.cT K t.at_).2) && tf.all (uniC K)
theorem ndP_ok : ∀ {l : List Addr}, ndP l = true → l.Nodup
  | [], _ => .nil
  | a :: r, h => by
    obtain ⟨h1, h2⟩ := He.ba h
    refine List.nodup_cons.mpr ⟨fun z => ?_, ndP_ok h2⟩
    have : (r.any fun b => decide (b = a)) = true := List.any_eq_true.mpr ⟨a, z, by simp⟩
    rw [this] at h1
    cases h1
theorem codeIn_nm {K : PySem.W.Frag} {c : Addr} {q : Str} (h : PySem.W.codeIn K (.ref c) q = true) : ∃ o, (c, o) ∈ K ∧ nmIn (c, o) q = true := by
  have h2 : (match K.lookup c with
      | some ⟨_, _, .fields vs, _⟩ => (match vs.toList with | _ :: .str n _ :: _ => n == q | _ => false)
      | _ => false) = true := h
  cases e : K.lookup c with
  | none => rw [e] at h2; cases h2
  | some o =>
    refine ⟨o, He.lookup_mem e, ?_⟩
    rw [e] at h2
    obtain ⟨oc, od, dt, sl⟩ := o
    cases dt with
    | fields vs => exact h2
    | _ => cases h2
theorem uniC_ok {K : PySem.W.Frag} {t : TD} (h : uniC K t = true) {cdv : Value} (hc : PySem.W.codeIn K cdv t.q = true) : cdv = .ref (He.cT K t.at_).1 := by
  obtain ⟨c, rfl⟩ := He.codeIn_ref hc
  obtain ⟨o, hm, hn⟩ := codeIn_nm hc
  have := List.all_eq_true.mp h _ hm
  rw [hn] at this
  have e : c = (He.cT K t.at_).1 := by simpa using this
  rw [e]
/-- the classes' addresses by names, the tables -/
def cAof (tf : List TD) (K : PySem.W.Frag) : CA := ⟨fun x => He.ga K x, tf.map (TD.tb K)⟩
section
variable {K : PySem.W.Frag} {tf : List TD} {t : TD} {base : Heap} {mg : Str → Option Value}
theorem tb_mem (h : t ∈ tf) : t.tb K ∈ (cAof tf K).tb := List.mem_map.mpr ⟨t, h, rfl⟩
theorem tb_uni (hx : exT tf K = true) (h : t ∈ tf) : ∀ t' ∈ (cAof tf K).tb, t'.P = (t.tb K).P → t' = t.tb K := by
  intro t' h' e
  obtain ⟨u, hu, rfl⟩ := List.mem_map.mp h'
  have nd := ndP_ok (He.ba hx).1
  have key : ∀ {l : List TD}, (l.map fun t => (He.cT K t.at_).2).Nodup → u ∈ l → t ∈ l → (He.cT K u.at_).2 = (He.cT K t.at_).2 → u = t := by
    intro l
    induction l with
    | nil => intro _ z; cases z
    | cons a r ih =>
      intro nd hu ht e
      rw [List.map_cons, List.nodup_cons] at nd
      rcases List.mem_cons.mp hu with hu1 | hu1
      · rcases List.mem_cons.mp ht with ht1 | ht1
        · rw [hu1, ht1]
        · exact absurd (show (He.cT K a.at_).2 ∈ _ from List.mem_map.mpr ⟨t, ht1, by rw [← e, hu1]⟩) nd.1
      · rcases List.mem_cons.mp ht with ht1 | ht1
        · exact absurd (show (He.cT K a.at_).2 ∈ _ from List.mem_map.mpr ⟨u, hu1, by rw [e, ht1]⟩) nd.1
        · exact ih nd.2 hu1 ht1 e
  rw [key nd hu h e]
theorem tb_tab (hx : exT tf K = true) (h : t ∈ tf) (TB : ∀ p ∈ tf.map (fun t => He.cT K t.at_), LamX.TabB base mg p.1 p.2) : ∀ cdv, PySem.W.codeIn K cdv t.q = true → ∃ c, cdv = .ref c ∧ LamX.TabB base mg c (t.tb K).P := fun cdv hc =>
  ⟨_, uniC_ok (List.all_eq_true.mp (He.ba hx).2 t h) hc, TB _ (List.mem_map.mpr ⟨t, h, rfl⟩)⟩
end
theorem fl_mem {α : Type} {L : List (List α)} {l : List α} {x : α} (hl : l ∈ L) (hx : x ∈ l) : x ∈ L.flatten := List.mem_flatten.mpr ⟨l, hl, hx⟩
/-- the law's promise at the script -/
theorem sp_law {K : PySem.W.Frag} {cA : CA} {f : FM} {H : Hp} {a : Addr} {ns : List Int} (ht : ∀ t ∈ cA.tb, H t.P = some (.tbl #[])) (hs : SqL K H a (ns.map V.int))
    (m : ∃ w', f [.ext (ns.map D.int)] ⟨[], [], []⟩ = .ok (.sh (.bl true)) w') : SP K cA 1 f [.ref a] H (fun v _ => v = .bl true) fun _ _ _ => False := by
  obtain ⟨w', m⟩ := m
  have hsh : ∀ F : Hp, Shs K [] F (ns.map V.int) (ns.map D.int) := fun F => ⟨by simp, fun i v d h1 h2 => by
    rw [List.getElem?_map] at h1 h2
    cases e : ns[i]? with
    | none => rw [e] at h1; cases h1
    | some n => rw [e] at h1 h2; cases h1; cases h2; exact .int n⟩
  have key : ∀ F : Hp, (∀ b o, F b = some o → H b = some o ∧ b = a) → (F a = none ∨ ∃ u, F a = some u ∧ ∀ q, u ≠ .tbl q) → SX K F a (ns.map V.int) → SP K cA 1 f [.ref a] H (fun v _ => v = .bl true) fun _ _ _ => False := by
    intro F hF hF2 hX
    refine ⟨rfl, fun _ => none, [], F, fun _ => none, ⟨[], [], []⟩, [.ext (ns.map D.int)], rfl, ⟨rfl, (fun _ _ e => nomatch e), fun b o e => ⟨.inl ⟨rfl, (hF b o e).1⟩, rfl⟩, (fun _ _ e => nomatch e), rfl, fun n b o e => by simp at e, fun n b e => by simp at e, fun _ _ b e => by simp at e, fun i s e => by simp at e, fun i j b c c' e => by simp at e, fun t h => ⟨⟨#[], ht t h, True.intro, fun pos cv _ z => by simp [codeAmong] at z⟩, ?_, rfl⟩⟩, .cons (.ext hX (hsh F).1 (hsh F).2) .nil, ?_⟩
    · cases e : F t.P with
      | none => rfl
      | some o =>
        obtain ⟨e1, e2⟩ := hF _ _ e
        rw [ht t h] at e1
        cases e1
        rcases hF2 with z | ⟨u, z, nu⟩
        · rw [← e2, e] at z; cases z
        · rw [← e2, e] at z; cases z; exact (nu _ rfl).elim
    · rw [m]
      intro v H' φ' F' Pr2 l p lp R rv
      exact Sh.bl_d rv
  rcases hs with h | h
  · rcases h with h | ⟨od, h⟩
    · refine key (fun b => if b = a then H b else none) (fun b o e => ?_) (.inr ⟨.lst (ns.map V.int), by simp [h], fun q z => by cases z⟩) (.inr (.inl (by simp [h])))
      by_cases hb : b = a
      · rw [if_pos hb] at e; exact ⟨e, hb⟩
      · rw [if_neg hb] at e; cases e
    · refine key (fun b => if b = a then H b else none) (fun b o e => ?_) (.inr ⟨.frz od (.lst (ns.map V.int)), by simp [h], fun q z => by cases z⟩) (.inl ⟨od, by simp [h]⟩)
      by_cases hb : b = a
      · rw [if_pos hb] at e; exact ⟨e, hb⟩
      · rw [if_neg hb] at e; cases e
  · exact key (fun _ => none) (fun _ _ e => (nomatch e)) (.inl rfl) (.inr (.inr fun H => .inr h))
/-- the def at f, by its datum -/
theorem fnok_of {CX : CXT} {P : Program} {w : World} {K : PySem.W.Frag} {cA : CA} {mg : Str → Option Value} {base : Heap} {k : Nat} {f : Addr} {name qual : Str} {params : Arguments} {body : List Stmt} {scope : Scope} {fd : FuncData} {N ps : List Str} {m : MS} {n : Nat} (D : FunD K name qual params body scope [] [] f fd) (S : FnScope N ps scope) (hn : ps.length = n)
    (hbody : ∀ (cdv : Value) (A : Around) (outer : List Env) (s : Shared) (H : Hp) (E : XK), PySem.W.codeIn K cdv qual = true → Room k (A.deeper (envOfC qual scope s.heap.objs.size f cdv)) → PSs (cxOf CX P w K mg base N qual scope f cdv A outer s H E) body (tMS K cA (fun cls d _ H => E cls d H) m)) :
    FnOk P w K mg base CX (k + 1) f fd ps (SP K cA n (fnM N.length m)) := by
  obtain ⟨oc, od, dV, kV, doc, pm, an, cdv, ct, osl, rfl, lk, hcd, hD, hK⟩ := D.ex
  exact fn_promise lk hcd S hn fun A outer s H E hr => hbody cdv A outer s H E hcd hr
/-- the end of a law -/
theorem law_end {l : PySem.W.OpenLaw} {w : World} {mg : Str → Option Value} {fa : Addr} {h : Heap} {K : PySem.W.Frag} {F : List He.Fa} {fn : List He.DefD} {ts : List He.Tab} {tf : List TD} {ex : PySem.W.Frag → Bool} {k n : Nat} {f : FM} {name qual : Str} {params : Arguments} {body : List Stmt} {scope : Scope} {fd : FuncData}
    (KX : K.In h) (c : He.SaysX F fn ts (tf.map (·.at_)) ex w h K)
    (DD : FunD K name qual params body scope [] [] fa fd)
    (hb : ∀ (kV doc pm : Value) (an : Option Addr) (cdv ct : Value) (us : List Value), us.length = 1 → bindArgs (PySem.W.fnOf name qual params body scope .none kV doc pm an cdv ct) ⟨us, []⟩ = pure ((["script"] : List Str).zip us))
    (hp : ∀ base : Heap, K.In base → base.Ns mainGlobals mg → (∀ p ∈ tf.map (fun t => He.cT K t.at_), LamX.TabB base mg p.1 p.2) → FnOk l.prog w K mg base (L2N.CX l.prog w) k fa fd ["script"] (SP K (cAof tf K) 1 f))
    (m : ∀ ns : List Int, ns.length ≤ n → ∃ w', f [.ext (ns.map Rf.D.int)] ⟨[], [], []⟩ = .ok (.sh (.bl true)) w') : LamX.LawAtS l w K (L2N.CX l.prog w) k n "script" mg fa h := by
  have b := FunD.bindsA (ps := ["script"]) DD fun kV doc pm an cdv ct us hl => hb kV doc pm an cdv ct us hl
  have at_ : ∀ p ∈ tf.map (fun t => He.cT K t.at_), ∃ q ∈ tf.map (·.at_), p = He.cT K q := fun p hp => by
    obtain ⟨t, ht, rfl⟩ := List.mem_map.mp hp
    exact ⟨_, List.mem_map.mpr ⟨t, ht, rfl⟩, rfl⟩
  refine ⟨fd, tf.map (fun t => He.cT K t.at_), SP K (cAof tf K) 1 f, fun p hp => ?_, fun p hp => ?_, fun p hp => ?_, fun s u => b s [u] rfl, fun H a ns hl _ hT hS => ?_, hp⟩
  · obtain ⟨q, hq, rfl⟩ := at_ p hp
    exact c.empty q hq
  · obtain ⟨q, hq, rfl⟩ := at_ p hp
    exact c.out q hq
  · obtain ⟨q, hq, rfl⟩ := at_ p hp
    exact PySem.W.codeHd_of_K KX (c.hd q hq)
  · refine sp_law (fun t ht => ?_) hS (m ns hl)
    obtain ⟨u, hu, rfl⟩ := List.mem_map.mp ht
    exact hT _ (List.mem_map.mpr ⟨u, hu, rfl⟩)
theorem law_cx {P : Program} (w : World) (H : Hp) (s : Shared) (e : Value) (s' : Shared) (h : L2N.CX P w [] H s (fun _ _ _ => False) e s') : False := by
  obtain ⟨a, B, H', cls, d, rfl, fl, hok, ub, na, os, ag, hE⟩ := h
  exact hE
end Rf
set_option maxHeartbeats 1000000
/-! printed by gen.py: the defs of law_k18_lofts, their meanings and derivations. -/
namespace Lk18
open PySem PySem.Spec L2 Rf
open PyProof.Rows hiding St
def top (i : Nat) : Stmt := PySem.Challenge.pw_kitehall_k18_lofts.main.body.getD i (.Pass ⟨0, 0, 0, 0⟩)
def sub (s : Stmt) (i : Nat) : Stmt := match s with
  | .ClassDef _ _ _ b _ _ _ _ _ _ _ => b.getD i (.Pass ⟨0, 0, 0, 0⟩)
  | _ => .Pass ⟨0, 0, 0, 0⟩
def nbL : List Str := ["len", "abs", "min", "max", "sum", "sorted", "int", "str", "list", "tuple", "dict", "range", "any", "all", "enumerate", "zip", "reversed"]
def glL : List Str := ["damp_left", "moth_eaten", "_law_dice", "_law_roll", "_law_rounds", "_law_told", "_law_rest1", "law", "Loft"]
/-- what is known of the names -/
structure Facts (K : PySem.W.Frag) (mg : Str → Option Value) (cA : CA) : Prop where
  ad : ∀ c, cA c = He.ga K c
  nb : ∀ x ∈ nbL, mg x = none
  gl : ∀ x ∈ glL, mg x = some (.ref (cA x)) ∧ PySem.W.keepIn K (.ref (cA x)) = true
  ex : ∀ C ∈ excR, ExcOk K mg cA C
  eg : ∀ C ∈ excL, mg C = some (.ref (cA C))
  ap : ExcAp K cA excL
  ok : ∀ C f, okf C f = true → Cls K (cA C) ∧ NoAttr K (cA C) f
  tell : TellOk K mg cA "_law_told" toldL
  cl_Loft : Cls K (cA "Loft")
  mk_Loft : Mk K (cA "Loft") (He.ma K (cA "Loft") "__init__")
  mt_Loft_free : Meth K (cA "Loft") "free" (He.ma K (cA "Loft") "free")
  mt_Loft_put : Meth K (cA "Loft") "put" (He.ma K (cA "Loft") "put")
  mt_Loft_lend : Meth K (cA "Loft") "lend" (He.ma K (cA "Loft") "lend")
  mt_Loft_bring : Meth K (cA "Loft") "bring" (He.ma K (cA "Loft") "bring")
  mt_Loft_owed : Meth K (cA "Loft") "owed" (He.ma K (cA "Loft") "owed")
  mt_Loft_longest_free : Meth K (cA "Loft") "longest_free" (He.ma K (cA "Loft") "longest_free")
  mt_Loft_shown : Meth K (cA "Loft") "shown" (He.ma K (cA "Loft") "shown")
section
variable {P : Program} {w : World} {K : PySem.W.Frag} {mg : Str → Option Value} {base : Heap} {cA : CA}
theorem b_Loft___init__ (G : Facts K mg cA) {cdv : Value} {f : Addr} (A : Around) (outer : List Env) (s : Shared) (H : Hp) (E : XK) (hr : Room 0 (A.deeper (envOfC "Loft.__init__" (defScope (sub (top 11) 0)) s.heap.objs.size f cdv))) :
    PSs (cxOf (L2N.CX P w) P w K mg base N_Loft___init__ "Loft.__init__" (defScope (sub (top 11) 0)) f cdv A outer s H E) (defBody (sub (top 11) 0)) (tMS K cA (fun cls d _ H => E cls d H) m_Loft___init__) := by
  have nd : N_Loft___init__.Nodup := by decide
  refine ss_cons ?_ ?_
  · refine s_if ?_ ?_ ?_
    · exact (t_w (w_or (t_cp (c_eq hr) (r_len (G.nb "len" (by decide)) (r_acons (r_var 1) r_anil)) r_int) (w_or1 (t_cp c_lt (r_min hr (G.nb "min" (by decide)) (r_acons (r_var 1) r_anil)) r_int))))
    · refine ss_one ?_
      refine s_raiseN (G.ex "BadPlan" (by decide)) hx_def ?_
      exact r_str
    · exact ss_nil
  refine ss_cons ?_ ?_
  · refine s_fld (fun C h => G.ok C _ h) (r_var 0) ?_
    exact (r_tuple (G.nb "tuple" (by decide)) (r_acons (r_var 1) r_anil))
  refine ss_cons ?_ ?_
  · refine s_fld (fun C h => G.ok C _ h) (r_var 0) ?_
    exact r_dnew
  refine ss_one ?_
  refine s_fld (fun C h => G.ok C _ h) (r_var 0) ?_
  exact r_dnew
theorem b_Loft_free (G : Facts K mg cA) (tt : Tb) (ht : tt ∈ cA.tb) (hq : ∀ n f cd, tt.q = (envOfC "Loft.free" (defScope (sub (top 11) 1)) n f cd).qual ++ "<lambda>") (huni : ∀ t' ∈ cA.tb, t'.P = tt.P → t' = tt) (hL : tt.L = []) (htb : ∀ cdv, PySem.W.codeIn K cdv "Loft.free" = true → ∃ c, cdv = .ref c ∧ LamX.TabB base mg c tt.P) {cdv : Value} {f : Addr} (A : Around) (outer : List Env) (s : Shared) (H : Hp) (E : XK) (hcd : PySem.W.codeIn K cdv "Loft.free" = true) (hr : Room 1 (A.deeper (envOfC "Loft.free" (defScope (sub (top 11) 1)) s.heap.objs.size f cdv))) :
    PSs (cxOf (L2N.CX P w) P w K mg base N_Loft_free "Loft.free" (defScope (sub (top 11) 1)) f cdv A outer s H E) (defBody (sub (top 11) 1)) (tMS K cA (fun cls d _ H => E cls d H) m_Loft_free) := by
  have nd : N_Loft_free.Nodup := by decide
  obtain ⟨cc, rfl, tb⟩ := htb cdv hcd
  have hgt : ∀ {gp : Pos}, tt.at gp = false → GxTab cA tt.P gp := fun {gp} h => ⟨⟨tt, ht, rfl⟩, fun t' h1 h2 => by rw [huni t' h1 h2]; exact h⟩
  refine ss_cons ?_ ?_
  · refine s_if ?_ ?_ ?_
    · exact (t_not (t_cp2 c_le c_lt r_int (r_var 1) (r_len (G.nb "len" (by decide)) (r_acons (r_fld (fun C h => G.ok C _ h) (r_var 0)) r_anil))))
    · refine ss_one ?_
      refine s_raiseN (G.ex "NoSuch" (by decide)) hx_def ?_
      exact r_str
    · exact ss_nil
  refine ss_one ?_
  refine s_ret ?_
  exact (r_sub (r_ix hr (r_fld (fun C h => G.ok C _ h) (r_var 0)) (r_var 1)) (r_sumGV (own := [("at", 2), ("long", 3)]) hr (G.nb "sum" (by decide)) (ls_path (adr_fld adr_var) (pth_fld pth_var)) ⟨⟨tb.code, tb.bm, tb.gP⟩, rfl, rfl, by decide, rfl, blkOk_by rfl, nd⟩ (hgt (by unfold Tb.at; rw [hL]; decide)) (gf_tup (gfs_cons (gf_name (i := 2)) (gfs_cons (gf_name (i := 3)) gfs_nil))) (by decide) (r_fld (fun C h => G.ok C _ h) (r_var 0)) (fun _ _ _ _ _ _ _ hr => (pg_tup rfl (pgs_cons (pg_name (i := 2) nd rfl (by first | exact Or.inl rfl | exact Or.inr rfl) (by first | exact .inl rfl | exact .inr rfl)) (pgs_cons (pg_name (i := 3) nd rfl (by first | exact Or.inl rfl | exact Or.inr rfl) (by first | exact .inl rfl | exact .inr rfl)) pgs_nil)))) (fun _ _ _ _ _ _ _ hr => (ts_one (t_cp (c_eq hr) (r_var 2) (r_var 1)))) (fun _ _ _ _ _ _ _ hr => (r_esc (r_var 3)))))
theorem b_Loft_put (G : Facts K mg cA) (p_Loft_free : Prom (L2N.CX P w) P w K mg base cA 2 (He.ma K (cA "Loft") "free") ["self", "rack"] 2 f_Loft_free) {cdv : Value} {f : Addr} (A : Around) (outer : List Env) (s : Shared) (H : Hp) (E : XK) (hr : Room 2 (A.deeper (envOfC "Loft.put" (defScope (sub (top 11) 2)) s.heap.objs.size f cdv))) :
    PSs (cxOf (L2N.CX P w) P w K mg base N_Loft_put "Loft.put" (defScope (sub (top 11) 2)) f cdv A outer s H E) (defBody (sub (top 11) 2)) (tMS K cA (fun cls d _ H => E cls d H) m_Loft_put) := by
  have nd : N_Loft_put.Nodup := by decide
  obtain ⟨fd_Loft_free, F_Loft_free, B_Loft_free⟩ := p_Loft_free
  refine ss_cons ?_ ?_
  · refine s_if ?_ ?_ ?_
    · exact (t_w (w_or (t_cp (c_eq hr) (r_var 1) r_str) (w_or (t_cp (c_in hr) (r_var 1) (r_fld (fun C h => G.ok C _ h) (r_var 0))) (w_or1 (t_cp (c_in hr) (r_var 1) (r_fld (fun C h => G.ok C _ h) (r_var 0)))))))
    · refine ss_one ?_
      refine s_raiseN (G.ex "BadDeed" (by decide)) hx_def ?_
      exact r_str
    · exact ss_nil
  refine ss_cons ?_ ?_
  · refine s_if ?_ ?_ ?_
    · exact (t_cp c_lt (r_var 2) r_int)
    · refine ss_one ?_
      refine s_raiseN (G.ex "BadSize" (by decide)) hx_def ?_
      exact r_str
    · exact ss_nil
  refine ss_cons ?_ ?_
  · exact s_setLc 3 (own := [("rack", 4)]) nd rfl (gf_name (i := 4)) (by decide) (i_rng1 (G.nb "range" (by decide)) (r_acons (r_len (G.nb "len" (by decide)) (r_acons (r_fld (fun C h => G.ok C _ h) (r_var 0)) r_anil)) r_anil)) (fun _ _ _ _ _ => (pg_name (i := 4) nd rfl (by first | exact Or.inl rfl | exact Or.inr rfl) (by first | exact .inl rfl | exact .inr rfl))) (fun _ _ _ _ _ => (ts_one (t_cp c_ge (r_meth (Cn := "Loft") (fun σ => L2N.passAt takes_noN σ) F_Loft_free (hr.mono (by decide)) G.cl_Loft G.mt_Loft_free B_Loft_free (r_var 0) (r_acons (r_esc (r_var 4)) r_anil)) (r_var 2)))) (fun _ _ _ _ _ => (r_tup (r_acons (r_esc (r_meth (Cn := "Loft") (fun σ => L2N.passAt takes_noN σ) F_Loft_free (hr.mono (by decide)) G.cl_Loft G.mt_Loft_free B_Loft_free (r_var 0) (r_acons (r_esc (r_var 4)) r_anil))) (r_acons (r_esc (r_var 4)) r_anil))))
  refine ss_cons ?_ ?_
  · refine s_if ?_ ?_ ?_
    · exact (t_cp (c_eq hr) (r_var 3) (r_lst r_anil))
    · refine ss_one ?_
      refine s_raiseN (G.ex "NoRoom" (by decide)) hx_def ?_
      exact (r_var 1)
    · exact ss_nil
  refine ss_cons ?_ ?_
  · refine s_put hr ?_ (r_fld (fun C h => G.ok C _ h) (r_var 0)) (r_var 1)
    exact (r_tup (r_acons (r_ix hr (r_min hr (G.nb "min" (by decide)) (r_acons (r_var 3) r_anil)) r_int) (r_acons (r_esc (r_var 2)) r_anil)))
  refine ss_one ?_
  refine s_ret ?_
  exact (r_ix hr (r_min hr (G.nb "min" (by decide)) (r_acons (r_var 3) r_anil)) r_int)
theorem b_Loft_lend (G : Facts K mg cA) {cdv : Value} {f : Addr} (A : Around) (outer : List Env) (s : Shared) (H : Hp) (E : XK) (hr : Room 0 (A.deeper (envOfC "Loft.lend" (defScope (sub (top 11) 3)) s.heap.objs.size f cdv))) :
    PSs (cxOf (L2N.CX P w) P w K mg base N_Loft_lend "Loft.lend" (defScope (sub (top 11) 3)) f cdv A outer s H E) (defBody (sub (top 11) 3)) (tMS K cA (fun cls d _ H => E cls d H) m_Loft_lend) := by
  have nd : N_Loft_lend.Nodup := by decide
  refine ss_cons ?_ ?_
  · refine s_if ?_ ?_ ?_
    · exact (t_cp (c_notin hr) (r_var 1) (r_fld (fun C h => G.ok C _ h) (r_var 0)))
    · refine ss_one ?_
      refine s_raiseN (G.ex "NoSuch" (by decide)) hx_def ?_
      exact (r_var 1)
    · exact ss_nil
  refine ss_cons ?_ ?_
  · refine s_if ?_ ?_ ?_
    · exact (t_cp (c_eq hr) (r_var 2) r_str)
    · refine ss_one ?_
      refine s_raiseN (G.ex "BadDeed" (by decide)) hx_def ?_
      exact r_str
    · exact ss_nil
  refine ss_one ?_
  refine s_put hr ?_ (r_fld (fun C h => G.ok C _ h) (r_var 0)) (r_var 1)
  exact (r_tup (r_acons (r_esc (r_var 2)) (r_acons (r_ix hr (r_pop1 (r_fld (fun C h => G.ok C _ h) (r_var 0)) (r_var 1)) r_int) r_anil)))
theorem b_Loft_bring (G : Facts K mg cA) (p_Loft_put : Prom (L2N.CX P w) P w K mg base cA 3 (He.ma K (cA "Loft") "put") ["self", "name", "long"] 3 f_Loft_put) {cdv : Value} {f : Addr} (A : Around) (outer : List Env) (s : Shared) (H : Hp) (E : XK) (hr : Room 3 (A.deeper (envOfC "Loft.bring" (defScope (sub (top 11) 4)) s.heap.objs.size f cdv))) :
    PSs (cxOf (L2.CX P w) P w K mg base N_Loft_bring "Loft.bring" (defScope (sub (top 11) 4)) f cdv A outer s H E) (defBody (sub (top 11) 4)) (tMS K cA (fun cls d _ H => E cls d H) m_Loft_bring) := by
  have nd : N_Loft_bring.Nodup := by decide
  have hu0 : (A.deeper (envOfC "Loft.bring" (defScope (sub (top 11) 4)) s.heap.objs.size f cdv)).units + 1 < cLine := by have := hr.un; omega
  obtain ⟨fd_Loft_put, F_Loft_put, B_Loft_put⟩ := p_Loft_put
  refine ss_cons ?_ ?_
  · refine s_if ?_ ?_ ?_
    · exact (t_cp (c_notin hr) (r_var 1) (r_fld (fun C h => G.ok C _ h) (r_var 0)))
    · refine ss_one ?_
      refine s_raise (G.ex "NoSuch" (by decide)) takes_cx ?_
      exact (r_var 1)
    · exact ss_nil
  refine ss_cons ?_ ?_
  · refine s_asg (gf_tup (gfs_cons (gf_name (i := 2)) (gfs_cons (gf_name (i := 3)) gfs_nil))) ?_ ?_
    · exact (r_pop1 (r_fld (fun C h => G.ok C _ h) (r_var 0)) (r_var 1))
    · exact (pg_tup rfl (pgs_cons (pg_name (i := 2) nd rfl (by first | exact Or.inl rfl | exact Or.inr rfl) (by first | exact .inl rfl | exact .inr rfl)) (pgs_cons (pg_name (i := 3) nd rfl (by first | exact Or.inl rfl | exact Or.inr rfl) (by first | exact .inl rfl | exact .inr rfl)) pgs_nil)))
  refine ss_one ?_
  refine s_tryX ⟨rfl, by decide, .inl (G.eg "NoRoom" (by decide))⟩ pat_cx takes_cx G.ap (by decide) ?_ ?_
  · intro W pn xe tk1 ow
    refine ss_one ?_
    refine s_ret ?_
    exact (r_meth (Cn := "Loft") (fun σ => L2N.passAt tk1 σ) F_Loft_put (hr.mono (by decide)) G.cl_Loft G.mt_Loft_put B_Loft_put (r_var 0) (r_acons (r_esc (r_var 1)) (r_acons (r_esc (r_var 3)) r_anil)))
  · intro a0 pn tk2 hot
    refine ss_cons ?_ ?_
    · refine s_putU hu0 ?_ (r_fld (fun C h => G.ok C _ h) (r_var 0)) (r_var 1)
      exact (r_tup (r_acons (r_esc (r_var 2)) (r_acons (r_esc (r_var 3)) r_anil)))
    refine ss_one ?_
    refine s_raiseH (G.ex "NoRoom" (by decide)) hot tk2 ?_
    exact (r_var 1)
theorem b_Loft_owed (G : Facts K mg cA) {cdv : Value} {f : Addr} (A : Around) (outer : List Env) (s : Shared) (H : Hp) (E : XK) (hr : Room 0 (A.deeper (envOfC "Loft.owed" (defScope (sub (top 11) 5)) s.heap.objs.size f cdv))) :
    PSs (cxOf (L2N.CX P w) P w K mg base N_Loft_owed "Loft.owed" (defScope (sub (top 11) 5)) f cdv A outer s H E) (defBody (sub (top 11) 5)) (tMS K cA (fun cls d _ H => E cls d H) m_Loft_owed) := by
  have nd : N_Loft_owed.Nodup := by decide
  refine ss_cons ?_ ?_
  · refine s_set 1 nd ?_
    exact r_dnew
  refine ss_cons ?_ ?_
  · refine s_for owns_cx (gf_name (i := 2)) ?_ ?_ ?_
    · exact (i_seq (r_esc (r_sorted hr (G.nb "sorted" (by decide)) (r_acons (r_fld (fun C h => G.ok C _ h) (r_var 0)) r_anil))))
    · exact (pg_name (i := 2) nd rfl (by first | exact Or.inl rfl | exact Or.inr rfl) (by first | exact .inl rfl | exact .inr rfl))
    · refine ss_one ?_
      refine s_put hr ?_ (r_var 1) (r_ix hr (r_ix hr (r_fld (fun C h => G.ok C _ h) (r_var 0)) (r_var 2)) r_int)
      exact (r_esc (r_add (r_get2 hr (r_var 1) (r_ix hr (r_ix hr (r_fld (fun C h => G.ok C _ h) (r_var 0)) (r_var 2)) r_int) (r_tup r_anil)) (r_tup (r_acons (r_esc (r_var 2)) r_anil))))
  refine ss_one ?_
  refine s_ret ?_
  exact (r_tuple (G.nb "tuple" (by decide)) (r_acons (r_sortI hr (G.nb "sorted" (by decide)) (r_var 1)) r_anil))
theorem b_Loft_longest_free (G : Facts K mg cA) (p_Loft_free : Prom (L2N.CX P w) P w K mg base cA 2 (He.ma K (cA "Loft") "free") ["self", "rack"] 2 f_Loft_free) {cdv : Value} {f : Addr} (A : Around) (outer : List Env) (s : Shared) (H : Hp) (E : XK) (hr : Room 2 (A.deeper (envOfC "Loft.longest_free" (defScope (sub (top 11) 6)) s.heap.objs.size f cdv))) :
    PSs (cxOf (L2N.CX P w) P w K mg base N_Loft_longest_free "Loft.longest_free" (defScope (sub (top 11) 6)) f cdv A outer s H E) (defBody (sub (top 11) 6)) (tMS K cA (fun cls d _ H => E cls d H) m_Loft_longest_free) := by
  have nd : N_Loft_longest_free.Nodup := by decide
  obtain ⟨fd_Loft_free, F_Loft_free, B_Loft_free⟩ := p_Loft_free
  refine ss_one ?_
  refine s_ret ?_
  exact (r_max hr (G.nb "max" (by decide)) (r_acons (r_lc (own := [("rack", 1)]) nd rfl (gf_name (i := 1)) (by decide) (i_rng1 (G.nb "range" (by decide)) (r_acons (r_len (G.nb "len" (by decide)) (r_acons (r_fld (fun C h => G.ok C _ h) (r_var 0)) r_anil)) r_anil)) (fun _ _ _ _ _ => (pg_name (i := 1) nd rfl (by first | exact Or.inl rfl | exact Or.inr rfl) (by first | exact .inl rfl | exact .inr rfl))) (fun _ _ _ _ _ => ts_nil) (fun _ _ _ _ _ => (r_esc (r_meth (Cn := "Loft") (fun σ => L2N.passAt takes_noN σ) F_Loft_free (hr.mono (by decide)) G.cl_Loft G.mt_Loft_free B_Loft_free (r_var 0) (r_acons (r_esc (r_var 1)) r_anil))))) r_anil))
theorem b_Loft_shown (G : Facts K mg cA) {cdv : Value} {f : Addr} (A : Around) (outer : List Env) (s : Shared) (H : Hp) (E : XK) (hr : Room 0 (A.deeper (envOfC "Loft.shown" (defScope (sub (top 11) 7)) s.heap.objs.size f cdv))) :
    PSs (cxOf (L2N.CX P w) P w K mg base N_Loft_shown "Loft.shown" (defScope (sub (top 11) 7)) f cdv A outer s H E) (defBody (sub (top 11) 7)) (tMS K cA (fun cls d _ H => E cls d H) m_Loft_shown) := by
  have nd : N_Loft_shown.Nodup := by decide
  refine ss_one ?_
  refine s_ret ?_
  exact (r_tup (r_acons (r_tuple (G.nb "tuple" (by decide)) (r_acons (r_sortI hr (G.nb "sorted" (by decide)) (r_fld (fun C h => G.ok C _ h) (r_var 0))) r_anil)) (r_acons (r_tuple (G.nb "tuple" (by decide)) (r_acons (r_sortI hr (G.nb "sorted" (by decide)) (r_fld (fun C h => G.ok C _ h) (r_var 0))) r_anil)) r_anil)))
theorem b_damp_left (G : Facts K mg cA) {cdv : Value} {f : Addr} (A : Around) (outer : List Env) (s : Shared) (H : Hp) (E : XK) (hr : Room 0 (A.deeper (envOfC "damp_left" (defScope (top 12)) s.heap.objs.size f cdv))) :
    PSs (cxOf (L2N.CX P w) P w K mg base N_damp_left "damp_left" (defScope (top 12)) f cdv A outer s H E) (defBody (top 12)) (tMS K cA (fun cls d _ H => E cls d H) m_damp_left) := by
  have nd : N_damp_left.Nodup := by decide
  refine ss_cons ?_ ?_
  · refine s_if ?_ ?_ ?_
    · exact (t_w (w_or (t_cp c_lt (r_var 1) r_int) (w_or1 (t_cp c_lt (r_var 2) r_int))))
    · refine ss_one ?_
      refine s_raiseN (G.ex "BadSize" (by decide)) hx_def ?_
      exact r_str
    · exact ss_nil
  refine ss_cons ?_ ?_
  · refine s_set 3 nd ?_
    exact r_dnew
  refine ss_cons ?_ ?_
  · refine s_for owns_cx (gf_name (i := 4)) ?_ ?_ ?_
    · exact (i_seq (r_esc (r_sorted hr (G.nb "sorted" (by decide)) (r_acons (r_var 0) r_anil))))
    · exact (pg_name (i := 4) nd rfl (by first | exact Or.inl rfl | exact Or.inr rfl) (by first | exact .inl rfl | exact .inr rfl))
    · refine ss_cons ?_ ?_
      · refine s_set 5 nd ?_
        exact (r_ix hr (r_var 0) (r_var 4))
      refine ss_cons ?_ ?_
      · refine s_for owns_cx (gf_name (i := 6)) ?_ ?_ ?_
        · exact (i_rng1 (G.nb "range" (by decide)) (r_acons (r_var 2) r_anil))
        · exact (pg_name (i := 6) nd rfl (by first | exact Or.inl rfl | exact Or.inr rfl) (by first | exact .inl rfl | exact .inr rfl))
        · refine ss_one ?_
          refine s_set 5 nd ?_
          exact (r_max hr (G.nb "max" (by decide)) (r_acons (r_min hr (G.nb "min" (by decide)) (r_acons (r_var 5) (r_acons (r_var 1) r_anil))) (r_acons (r_sub (r_var 5) (r_max hr (G.nb "max" (by decide)) (r_acons r_int (r_acons (r_div (r_sub (r_var 5) (r_var 1)) r_int) r_anil)))) r_anil)))
      refine ss_one ?_
      refine s_put hr ?_ (r_var 3) (r_var 4)
      exact (r_esc (r_var 5))
  refine ss_one ?_
  refine s_ret ?_
  exact (r_var 3)
theorem b_moth_eaten (G : Facts K mg cA) {cdv : Value} {f : Addr} (A : Around) (outer : List Env) (s : Shared) (H : Hp) (E : XK) (hr : Room 0 (A.deeper (envOfC "moth_eaten" (defScope (top 13)) s.heap.objs.size f cdv))) :
    PSs (cxOf (L2N.CX P w) P w K mg base N_moth_eaten "moth_eaten" (defScope (top 13)) f cdv A outer s H E) (defBody (top 13)) (tMS K cA (fun cls d _ H => E cls d H) m_moth_eaten) := by
  have nd : N_moth_eaten.Nodup := by decide
  refine ss_cons ?_ ?_
  · refine s_asg (gf_tup (gfs_cons (gf_name (i := 2)) (gfs_cons (gf_name (i := 3)) gfs_nil))) ?_ ?_
    · exact (r_tup (r_acons r_int (r_acons r_int r_anil)))
    · exact (pg_tup rfl (pgs_cons (pg_name (i := 2) nd rfl (by first | exact Or.inl rfl | exact Or.inr rfl) (by first | exact .inl rfl | exact .inr rfl)) (pgs_cons (pg_name (i := 3) nd rfl (by first | exact Or.inl rfl | exact Or.inr rfl) (by first | exact .inl rfl | exact .inr rfl)) pgs_nil)))
  refine ss_cons ?_ ?_
  · refine s_while fuel owns_cx ?_ ?_
    · exact (t_cp c_lt (r_var 2) (r_var 1))
    · refine ss_cons ?_ ?_
      · refine s_aug 3 op_addI fit_addI nd ?_
        exact r_int
      refine ss_cons ?_ ?_
      · refine s_if ?_ ?_ ?_
        · exact (t_cp c_gt (r_var 3) (r_var 0))
        · refine ss_one ?_
          refine s_raiseN (G.ex "NoWay" (by decide)) hx_def ?_
          exact r_str
        · exact ss_nil
      refine ss_one ?_
      refine s_aug 2 iop_mul fit_mulI nd ?_
      exact r_int
  refine ss_one ?_
  refine s_ret ?_
  exact (r_var 3)
theorem b__law_dice (G : Facts K mg cA) {cdv : Value} {f : Addr} (A : Around) (outer : List Env) (s : Shared) (H : Hp) (E : XK) (hr : Room 0 (A.deeper (envOfC "_law_dice" (defScope (top 15)) s.heap.objs.size f cdv))) :
    PSs (cxOf (L2N.CX P w) P w K mg base N__law_dice "_law_dice" (defScope (top 15)) f cdv A outer s H E) (defBody (top 15)) (tMS K cA (fun cls d _ H => E cls d H) m__law_dice) := by
  have nd : N__law_dice.Nodup := by decide
  refine ss_cons ?_ ?_
  · refine s_if ?_ ?_ ?_
    · exact (t_cp2 c_lt c_lt (r_sub r_int r_int) (r_var 0) r_int)
    · refine ss_one ?_
      refine s_ret ?_
      exact (r_lst (r_acons (r_abs (G.nb "abs" (by decide)) (r_acons (r_var 0) r_anil)) (r_acons r_int (r_acons r_int r_anil))))
    · exact ss_nil
  refine ss_one ?_
  refine s_ret ?_
  exact (r_lst (r_acons (r_esc (r_var 0)) (r_acons (r_esc (r_add r_int (r_mod (r_intc (G.nb "int" (by decide)) (r_acons (r_var 0) r_anil)) r_int))) (r_acons (r_intc (G.nb "int" (by decide)) (r_acons (r_cp c_ge (r_var 0) (r_pow r_int r_int)) r_anil)) r_anil))))
theorem b__law_roll (G : Facts K mg cA) {cdv : Value} {f : Addr} (A : Around) (outer : List Env) (s : Shared) (H : Hp) (E : XK) (hr : Room 0 (A.deeper (envOfC "_law_roll" (defScope (top 16)) s.heap.objs.size f cdv))) :
    PSs (cxOf (L2N.CX P w) P w K mg base N__law_roll "_law_roll" (defScope (top 16)) f cdv A outer s H E) (defBody (top 16)) (tMS K cA (fun cls d _ H => E cls d H) m__law_roll) := by
  have nd : N__law_roll.Nodup := by decide
  refine ss_cons ?_ ?_
  · refine s_if ?_ ?_ ?_
    · exact (t_w (w_or (t_cp (c_eq hr) (r_ix hr (r_var 0) r_int) r_int) (w_or1 (t_w (w_and (t_cp (c_eq hr) (r_ix hr (r_var 0) r_int) r_int) (w_and1 (t_cp c_gt (r_ix hr (r_var 0) r_int) r_int)))))))
    · refine ss_cons ?_ ?_
      · refine s_set 2 nd ?_
        exact (r_mod (r_intc (G.nb "int" (by decide)) (r_acons (r_ix hr (r_var 0) r_int) r_anil)) (r_var 1))
      refine ss_cons ?_ ?_
      · refine s_put hr ?_ (r_var 0) r_int
        exact (r_div (r_ix hr (r_var 0) r_int) (r_var 1))
      refine ss_one ?_
      refine s_ret ?_
      exact (r_var 2)
    · exact ss_nil
  refine ss_cons ?_ ?_
  · refine s_put hr ?_ (r_var 0) r_int
    exact r_int
  refine ss_cons ?_ ?_
  · refine s_put hr ?_ (r_var 0) r_int
    exact (r_mod (r_intc (G.nb "int" (by decide)) (r_acons (r_add (r_add (r_mul (r_ix hr (r_var 0) r_int) r_int) (r_mul (r_ix hr (r_var 0) r_int) r_int)) r_int) r_anil)) r_int)
  refine ss_cons ?_ ?_
  · refine s_put hr ?_ (r_var 0) r_int
    exact (r_esc (r_add (r_ix hr (r_var 0) r_int) r_int))
  refine ss_one ?_
  refine s_ret ?_
  exact (r_mod (r_intc (G.nb "int" (by decide)) (r_acons (r_add (r_div (r_ix hr (r_var 0) r_int) r_int) (r_ix hr (r_var 0) r_int)) r_anil)) (r_var 1))
theorem b__law_rounds (G : Facts K mg cA) (p__law_dice : Prom (L2N.CX P w) P w K mg base cA 1 (cA "_law_dice") ["cell"] 1 f__law_dice) {cdv : Value} {f : Addr} (A : Around) (outer : List Env) (s : Shared) (H : Hp) (E : XK) (hr : Room 1 (A.deeper (envOfC "_law_rounds" (defScope (top 17)) s.heap.objs.size f cdv))) :
    PSs (cxOf (L2N.CX P w) P w K mg base N__law_rounds "_law_rounds" (defScope (top 17)) f cdv A outer s H E) (defBody (top 17)) (tMS K cA (fun cls d _ H => E cls d H) m__law_rounds) := by
  have nd : N__law_rounds.Nodup := by decide
  obtain ⟨fd__law_dice, F__law_dice, B__law_dice⟩ := p__law_dice
  refine ss_cons ?_ ?_
  · refine s_set 2 nd ?_
    exact (r_sl (r_var 0) o_none (o_some (r_var 1)))
  refine ss_cons ?_ ?_
  · refine s_if ?_ ?_ ?_
    · exact (t_cp (c_eq hr) (r_var 2) (r_lst r_anil))
    · refine ss_one ?_
      refine s_set 2 nd ?_
      exact (r_lst (r_acons r_int r_anil))
    · exact ss_nil
  refine ss_one ?_
  refine s_ret ?_
  exact (r_lc (own := [("cell", 3)]) nd rfl (gf_name (i := 3)) (by decide) (i_seq (r_esc (r_var 2))) (fun _ _ _ _ _ => (pg_name (i := 3) nd rfl (by first | exact Or.inl rfl | exact Or.inr rfl) (by first | exact .inl rfl | exact .inr rfl))) (fun _ _ _ _ _ => ts_nil) (fun _ _ _ _ _ => (r_box (r_fn (fun σ => L2N.passAt takes_noN σ) F__law_dice (hr.mono (by decide)) (G.gl "_law_dice" (by decide)).1 (G.gl "_law_dice" (by decide)).2 B__law_dice (r_acons (r_esc (r_var 3)) r_anil)))))
theorem b__law_rest1 (G : Facts K mg cA) (p_Loft___init__ : Prom (L2N.CX P w) P w K mg base cA 1 (He.ma K (cA "Loft") "__init__") ["self", "racks"] 2 f_Loft___init__) (p_Loft_free : Prom (L2N.CX P w) P w K mg base cA 2 (He.ma K (cA "Loft") "free") ["self", "rack"] 2 f_Loft_free) (p_Loft_longest_free : Prom (L2N.CX P w) P w K mg base cA 3 (He.ma K (cA "Loft") "longest_free") ["self"] 1 f_Loft_longest_free) (p_Loft_owed : Prom (L2N.CX P w) P w K mg base cA 1 (He.ma K (cA "Loft") "owed") ["self"] 1 f_Loft_owed) (p_Loft_put : Prom (L2N.CX P w) P w K mg base cA 3 (He.ma K (cA "Loft") "put") ["self", "name", "long"] 3 f_Loft_put) (p__law_roll : Prom (L2N.CX P w) P w K mg base cA 1 (cA "_law_roll") ["dice", "many"] 2 f__law_roll) (p_damp_left : Prom (L2N.CX P w) P w K mg base cA 1 (cA "damp_left") ["damp", "air", "hours"] 3 f_damp_left) (p_moth_eaten : Prom (L2N.CX P w) P w K mg base cA 1 (cA "moth_eaten") ["days", "holes"] 2 f_moth_eaten) (tt : Tb) (ht : tt ∈ cA.tb) (hq : ∀ n f cd, tt.q = (envOfC "_law_rest1" (defScope (top 19)) n f cd).qual ++ "<lambda>") (huni : ∀ t' ∈ cA.tb, t'.P = tt.P → t' = tt) (hL : tt.L = [(146, 17), (148, 17), (150, 17), (152, 17), (154, 17)]) (htb : ∀ cdv, PySem.W.codeIn K cdv "_law_rest1" = true → ∃ c, cdv = .ref c ∧ LamX.TabB base mg c tt.P) {cdv : Value} {f : Addr} (A : Around) (outer : List Env) (s : Shared) (H : Hp) (E : XK) (hcd : PySem.W.codeIn K cdv "_law_rest1" = true) (hr : Room 5 (A.deeper (envOfC "_law_rest1" (defScope (top 19)) s.heap.objs.size f cdv))) :
    PSs (cxOf (L2N.CX P w) P w K mg base N__law_rest1 "_law_rest1" (defScope (top 19)) f cdv A outer s H E) (defBody (top 19)) (tMS K cA (fun cls d _ H => E cls d H) m__law_rest1) := by
  have nd : N__law_rest1.Nodup := by decide
  obtain ⟨fd_Loft___init__, F_Loft___init__, B_Loft___init__⟩ := p_Loft___init__
  obtain ⟨fd_Loft_free, F_Loft_free, B_Loft_free⟩ := p_Loft_free
  obtain ⟨fd_Loft_longest_free, F_Loft_longest_free, B_Loft_longest_free⟩ := p_Loft_longest_free
  obtain ⟨fd_Loft_owed, F_Loft_owed, B_Loft_owed⟩ := p_Loft_owed
  obtain ⟨fd_Loft_put, F_Loft_put, B_Loft_put⟩ := p_Loft_put
  obtain ⟨fd__law_roll, F__law_roll, B__law_roll⟩ := p__law_roll
  obtain ⟨fd_damp_left, F_damp_left, B_damp_left⟩ := p_damp_left
  obtain ⟨fd_moth_eaten, F_moth_eaten, B_moth_eaten⟩ := p_moth_eaten
  obtain ⟨cc, rfl, tb⟩ := htb cdv hcd
  refine ss_cons ?_ ?_
  · refine s_set 4 nd ?_
    exact (r_sorted hr (G.nb "sorted" (by decide)) (r_acons (r_dict (G.nb "dict" (by decide)) (r_acons (r_lcK (own := [("one", 15)]) nd rfl ls_var (gf_name (i := 15)) (by decide) (r_bor 1) (fun _ _ _ _ _ => (pg_name (i := 15) nd rfl (by first | exact Or.inl rfl | exact Or.inr rfl) (by first | exact .inl rfl | exact .inr rfl))) (fun _ _ _ _ _ => ts_nil) (fun _ _ _ _ _ => (r_tup (r_acons (r_ix hr (r_ix hr (r_var 1) (r_var 15)) r_int) (r_acons r_int r_anil))))) r_anil)) r_anil))
  refine ss_cons ?_ ?_
  · refine s_if ?_ ?_ ?_
    · exact (t_w (w_or (t_cp (c_ne hr) (r_meth0 (Cn := "Loft") (fun σ => L2N.passAt hx_def σ) F_Loft_longest_free (hr.mono (by decide)) G.cl_Loft G.mt_Loft_longest_free B_Loft_longest_free (r_var 2)) (r_max hr (G.nb "max" (by decide)) (r_acons (r_var 3) r_anil))) (w_or1 (t_cp (c_ne hr) (r_list (G.nb "list" (by decide)) (r_acons (r_meth0 (Cn := "Loft") (fun σ => L2N.passAt hx_def σ) F_Loft_owed (hr.mono (by decide)) G.cl_Loft G.mt_Loft_owed B_Loft_owed (r_var 2)) r_anil)) (r_lc (own := [("who", 16)]) nd rfl (gf_name (i := 16)) (by decide) (i_seq (r_esc (r_var 4))) (fun _ _ _ _ _ => (pg_name (i := 16) nd rfl (by first | exact Or.inl rfl | exact Or.inr rfl) (by first | exact .inl rfl | exact .inr rfl))) (fun _ _ _ _ _ => ts_nil) (fun _ _ _ _ _ => (r_tup (r_acons (r_esc (r_var 16)) (r_acons (r_tuple (G.nb "tuple" (by decide)) (r_acons (r_lc (own := [("one", 15)]) nd rfl (gf_name (i := 15)) (by decide) (i_seq (r_esc (r_sorted hr (G.nb "sorted" (by decide)) (r_acons (r_var 1) r_anil)))) (fun _ _ _ _ _ => (pg_name (i := 15) nd rfl (by first | exact Or.inl rfl | exact Or.inr rfl) (by first | exact .inl rfl | exact .inr rfl))) (fun _ _ _ _ _ => (ts_one (t_cp (c_eq hr) (r_ix hr (r_ix hr (r_var 1) (r_var 15)) r_int) (r_var 16)))) (fun _ _ _ _ _ => (r_esc (r_var 15)))) r_anil)) r_anil)))))))))
    · refine ss_one ?_
      refine s_ret ?_
      exact r_bl
    · exact ss_nil
  refine ss_cons ?_ ?_
  · refine s_asg (gf_tup (gfs_cons (gf_name (i := 8)) (gfs_cons (gf_name (i := 9)) (gfs_cons (gf_name (i := 10)) gfs_nil)))) ?_ ?_
    · exact (r_tup (r_acons (r_esc (r_dict (G.nb "dict" (by decide)) (r_acons (r_lc (own := [("name", 17)]) nd rfl (gf_name (i := 17)) (by decide) (i_seq (r_esc (r_sl (r_lst (r_acons r_str (r_acons r_str (r_acons r_str r_anil)))) o_none (o_some (r_fn (fun σ => L2N.passAt hx_def σ) F__law_roll (hr.mono (by decide)) (G.gl "_law_roll" (by decide)).1 (G.gl "_law_roll" (by decide)).2 B__law_roll (r_acons (r_esc (r_var 0)) (r_acons r_int r_anil))))))) (fun _ _ _ _ _ => (pg_name (i := 17) nd rfl (by first | exact Or.inl rfl | exact Or.inr rfl) (by first | exact .inl rfl | exact .inr rfl))) (fun _ _ _ _ _ => ts_nil) (fun _ _ _ _ _ => (r_tup (r_acons (r_esc (r_var 17)) (r_acons (r_esc (r_fn (fun σ => L2N.passAt takes_noN σ) F__law_roll (hr.mono (by decide)) (G.gl "_law_roll" (by decide)).1 (G.gl "_law_roll" (by decide)).2 B__law_roll (r_acons (r_esc (r_var 0)) (r_acons r_int r_anil)))) r_anil))))) r_anil))) (r_acons (r_esc (r_fn (fun σ => L2N.passAt hx_def σ) F__law_roll (hr.mono (by decide)) (G.gl "_law_roll" (by decide)).1 (G.gl "_law_roll" (by decide)).2 B__law_roll (r_acons (r_esc (r_var 0)) (r_acons r_int r_anil)))) (r_acons (r_esc (r_fn (fun σ => L2N.passAt hx_def σ) F__law_roll (hr.mono (by decide)) (G.gl "_law_roll" (by decide)).1 (G.gl "_law_roll" (by decide)).2 B__law_roll (r_acons (r_esc (r_var 0)) (r_acons r_int r_anil)))) r_anil))))
    · exact (pg_tup rfl (pgs_cons (pg_name (i := 8) nd rfl (by first | exact Or.inl rfl | exact Or.inr rfl) (by first | exact .inl rfl | exact .inr rfl)) (pgs_cons (pg_name (i := 9) nd rfl (by first | exact Or.inl rfl | exact Or.inr rfl) (by first | exact .inl rfl | exact .inr rfl)) (pgs_cons (pg_name (i := 10) nd rfl (by first | exact Or.inl rfl | exact Or.inr rfl) (by first | exact .inl rfl | exact .inr rfl)) pgs_nil))))
  refine ss_cons ?_ ?_
  · refine s_set 5 nd ?_
    exact (r_dict (G.nb "dict" (by decide)) (r_acons (r_var 8) r_anil))
  refine ss_cons ?_ ?_
  · refine s_for owns_cx (gf_name (i := 6)) ?_ ?_ ?_
    · exact (i_rng1 (G.nb "range" (by decide)) (r_acons (r_var 10) r_anil))
    · exact (pg_name (i := 6) nd rfl (by first | exact Or.inl rfl | exact Or.inr rfl) (by first | exact .inl rfl | exact .inr rfl))
    · refine ss_one ?_
      refine s_set 5 nd ?_
      exact (r_dict (G.nb "dict" (by decide)) (r_acons (r_lcK (own := [("name", 17)]) nd rfl ls_var (gf_name (i := 17)) (by decide) (r_bor 5) (fun _ _ _ _ _ => (pg_name (i := 17) nd rfl (by first | exact Or.inl rfl | exact Or.inr rfl) (by first | exact .inl rfl | exact .inr rfl))) (fun _ _ _ _ _ => ts_nil) (fun _ _ _ _ _ => (r_tup (r_acons (r_esc (r_var 17)) (r_acons (r_if (t_cp c_le (r_ix hr (r_var 5) (r_var 17)) (r_var 9)) (r_ix hr (r_var 5) (r_var 17)) (r_max hr (G.nb "max" (by decide)) (r_acons (r_var 9) (r_acons (r_sub (r_ix hr (r_var 5) (r_var 17)) (r_max hr (G.nb "max" (by decide)) (r_acons r_int (r_acons (r_div (r_sub (r_ix hr (r_var 5) (r_var 17)) (r_var 9)) r_int) r_anil)))) r_anil)))) r_anil))))) r_anil))
  refine ss_cons ?_ ?_
  · refine s_if ?_ ?_ ?_
    · exact (t_cp (c_ne hr) (r_fn (fun σ => L2N.passAt hx_def σ) F_damp_left (hr.mono (by decide)) (G.gl "damp_left" (by decide)).1 (G.gl "damp_left" (by decide)).2 B_damp_left (r_acons (r_esc (r_var 8)) (r_acons (r_esc (r_var 9)) (r_acons (r_esc (r_var 10)) r_anil)))) (r_dict (G.nb "dict" (by decide)) (r_acons (r_lc (own := [("name", 17)]) nd rfl (gf_name (i := 17)) (by decide) (i_seq (r_esc (r_sorted hr (G.nb "sorted" (by decide)) (r_acons (r_var 5) r_anil)))) (fun _ _ _ _ _ => (pg_name (i := 17) nd rfl (by first | exact Or.inl rfl | exact Or.inr rfl) (by first | exact .inl rfl | exact .inr rfl))) (fun _ _ _ _ _ => ts_nil) (fun _ _ _ _ _ => (r_tup (r_acons (r_esc (r_var 17)) (r_acons (r_ix hr (r_var 5) (r_var 17)) r_anil))))) r_anil)))
    · refine ss_one ?_
      refine s_ret ?_
      exact r_bl
    · exact ss_nil
  refine ss_cons ?_ ?_
  · refine s_asg (gf_tup (gfs_cons (gf_name (i := 11)) (gfs_cons (gf_name (i := 12)) (gfs_cons (gf_name (i := 13)) (gfs_cons (gf_name (i := 14)) gfs_nil))))) ?_ ?_
    · exact (r_tup (r_acons (r_esc (r_fn (fun σ => L2N.passAt hx_def σ) F__law_roll (hr.mono (by decide)) (G.gl "_law_roll" (by decide)).1 (G.gl "_law_roll" (by decide)).2 B__law_roll (r_acons (r_esc (r_var 0)) (r_acons r_int r_anil)))) (r_acons (r_esc (r_fn (fun σ => L2N.passAt hx_def σ) F__law_roll (hr.mono (by decide)) (G.gl "_law_roll" (by decide)).1 (G.gl "_law_roll" (by decide)).2 B__law_roll (r_acons (r_esc (r_var 0)) (r_acons r_int r_anil)))) (r_acons r_int (r_acons r_int r_anil)))))
    · exact (pg_tup rfl (pgs_cons (pg_name (i := 11) nd rfl (by first | exact Or.inl rfl | exact Or.inr rfl) (by first | exact .inl rfl | exact .inr rfl)) (pgs_cons (pg_name (i := 12) nd rfl (by first | exact Or.inl rfl | exact Or.inr rfl) (by first | exact .inl rfl | exact .inr rfl)) (pgs_cons (pg_name (i := 13) nd rfl (by first | exact Or.inl rfl | exact Or.inr rfl) (by first | exact .inl rfl | exact .inr rfl)) (pgs_cons (pg_name (i := 14) nd rfl (by first | exact Or.inl rfl | exact Or.inr rfl) (by first | exact .inl rfl | exact .inr rfl)) pgs_nil)))))
  refine ss_cons ?_ ?_
  · refine s_for owns_cx (gf_name (i := 7)) ?_ ?_ ?_
    · exact (i_rng1 (G.nb "range" (by decide)) (r_acons r_int r_anil))
    · exact (pg_name (i := 7) nd rfl (by first | exact Or.inl rfl | exact Or.inr rfl) (by first | exact .inl rfl | exact .inr rfl))
    · refine ss_one ?_
      refine s_asg (gf_tup (gfs_cons (gf_name (i := 13)) (gfs_cons (gf_name (i := 14)) gfs_nil))) ?_ ?_
      · refine r_if ?_ ?_ ?_
        · exact (t_cp c_lt (r_var 13) (r_var 11))
        · exact (r_tup (r_acons (r_esc (r_add (r_var 13) (r_var 13))) (r_acons (r_esc (r_add (r_var 14) r_int)) r_anil)))
        · exact (r_tup (r_acons (r_esc (r_var 13)) (r_acons (r_esc (r_var 14)) r_anil)))
      · exact (pg_tup rfl (pgs_cons (pg_name (i := 13) nd rfl (by first | exact Or.inl rfl | exact Or.inr rfl) (by first | exact .inl rfl | exact .inr rfl)) (pgs_cons (pg_name (i := 14) nd rfl (by first | exact Or.inl rfl | exact Or.inr rfl) (by first | exact .inl rfl | exact .inr rfl)) pgs_nil)))
  refine ss_cons ?_ ?_
  · refine s_if ?_ ?_ ?_
    · exact (t_cp (c_ne hr) (r_told G.tell G.ap told_in ⟨tb, rfl, hq _ _ _, by unfold Tb.at; rw [hL]; decide, ht, huni, LamX.lamS_by rfl⟩ hr (fun _ _ _ _ _ _ _ hr => (r_fn (fun σ => L2.passAt takes_lam σ) (fn_weak F_moth_eaten) (hr.mono (by decide)) (G.gl "moth_eaten" (by decide)).1 (G.gl "moth_eaten" (by decide)).2 B_moth_eaten (r_acons (r_esc (r_var 12)) (r_acons (r_esc (r_var 11)) r_anil))))) (r_if (t_w (w_or (t_cp c_le (r_mul r_int (r_var 14)) (r_var 12)) (w_or1 (t_cp (c_eq hr) (r_var 14) r_int)))) (r_mul r_int (r_var 14)) r_str))
    · refine ss_one ?_
      refine s_ret ?_
      exact r_bl
    · exact ss_nil
  refine ss_cons ?_ ?_
  · refine s_if ?_ ?_ ?_
    · exact (t_cp (c_ne hr) (r_told G.tell G.ap told_in ⟨tb, rfl, hq _ _ _, by unfold Tb.at; rw [hL]; decide, ht, huni, LamX.lamS_by rfl⟩ hr (fun _ _ _ _ _ _ _ hr => (r_make (fun σ => L2.passAt takes_lam σ) G.mk_Loft (fn_weak F_Loft___init__) (hr.mono (by decide)) rfl (G.gl "Loft" (by decide)).1 B_Loft___init__ (r_acons (r_esc (r_lst r_anil)) r_anil)))) r_str)
    · refine ss_one ?_
      refine s_ret ?_
      exact r_bl
    · exact ss_nil
  refine ss_cons ?_ ?_
  · refine s_if ?_ ?_ ?_
    · exact (t_cp (c_ne hr) (r_told G.tell G.ap told_in ⟨tb, rfl, hq _ _ _, by unfold Tb.at; rw [hL]; decide, ht, huni, LamX.lamS_by rfl⟩ hr (fun _ _ _ _ _ _ _ hr => (r_meth (Cn := "Loft") (fun σ => L2.passAt takes_lam σ) (fn_weak F_Loft_free) (hr.mono (by decide)) G.cl_Loft G.mt_Loft_free B_Loft_free (r_var 2) (r_acons r_int r_anil)))) r_str)
    · refine ss_one ?_
      refine s_ret ?_
      exact r_bl
    · exact ss_nil
  refine ss_cons ?_ ?_
  · refine s_if ?_ ?_ ?_
    · exact (t_cp (c_ne hr) (r_told G.tell G.ap told_in ⟨tb, rfl, hq _ _ _, by unfold Tb.at; rw [hL]; decide, ht, huni, LamX.lamS_by rfl⟩ hr (fun _ _ _ _ _ _ _ hr => (r_meth (Cn := "Loft") (fun σ => L2.passAt takes_lam σ) (fn_weak F_Loft_put) (hr.mono (by decide)) G.cl_Loft G.mt_Loft_put B_Loft_put (r_var 2) (r_acons r_str (r_acons r_int r_anil))))) r_str)
    · refine ss_one ?_
      refine s_ret ?_
      exact r_bl
    · exact ss_nil
  refine ss_cons ?_ ?_
  · refine s_if ?_ ?_ ?_
    · exact (t_cp (c_ne hr) (r_told G.tell G.ap told_in ⟨tb, rfl, hq _ _ _, by unfold Tb.at; rw [hL]; decide, ht, huni, LamX.lamS_by rfl⟩ hr (fun _ _ _ _ _ _ _ hr => (r_fn (fun σ => L2.passAt takes_lam σ) (fn_weak F_damp_left) (hr.mono (by decide)) (G.gl "damp_left" (by decide)).1 (G.gl "damp_left" (by decide)).2 B_damp_left (r_acons (r_esc r_dnew) (r_acons (r_sub r_int r_int) (r_acons r_int r_anil)))))) r_str)
    · refine ss_one ?_
      refine s_ret ?_
      exact r_bl
    · exact ss_nil
  refine ss_one ?_
  refine s_ret ?_
  exact r_bl
theorem b_law (G : Facts K mg cA) (p_Loft___init__ : Prom (L2N.CX P w) P w K mg base cA 1 (He.ma K (cA "Loft") "__init__") ["self", "racks"] 2 f_Loft___init__) (p_Loft_bring : Prom (L2.CX P w) P w K mg base cA 4 (He.ma K (cA "Loft") "bring") ["self", "name"] 2 f_Loft_bring) (p_Loft_free : Prom (L2N.CX P w) P w K mg base cA 2 (He.ma K (cA "Loft") "free") ["self", "rack"] 2 f_Loft_free) (p_Loft_lend : Prom (L2N.CX P w) P w K mg base cA 1 (He.ma K (cA "Loft") "lend") ["self", "name", "who"] 3 f_Loft_lend) (p_Loft_put : Prom (L2N.CX P w) P w K mg base cA 3 (He.ma K (cA "Loft") "put") ["self", "name", "long"] 3 f_Loft_put) (p_Loft_shown : Prom (L2N.CX P w) P w K mg base cA 1 (He.ma K (cA "Loft") "shown") ["self"] 1 f_Loft_shown) (p__law_rest1 : Prom (L2N.CX P w) P w K mg base cA 6 (cA "_law_rest1") ["dice", "lent", "loft", "free"] 4 f__law_rest1) (p__law_roll : Prom (L2N.CX P w) P w K mg base cA 1 (cA "_law_roll") ["dice", "many"] 2 f__law_roll) (p__law_rounds : Prom (L2N.CX P w) P w K mg base cA 2 (cA "_law_rounds") ["script", "most"] 2 f__law_rounds) (tt : Tb) (ht : tt ∈ cA.tb) (hq : ∀ n f cd, tt.q = (envOfC "law" (defScope (top 20)) n f cd).qual ++ "<lambda>") (huni : ∀ t' ∈ cA.tb, t'.P = tt.P → t' = tt) (hL : tt.L = [(171, 29), (176, 29), (182, 29)]) (htb : ∀ cdv, PySem.W.codeIn K cdv "law" = true → ∃ c, cdv = .ref c ∧ LamX.TabB base mg c tt.P) {cdv : Value} {f : Addr} (A : Around) (outer : List Env) (s : Shared) (H : Hp) (E : XK) (hcd : PySem.W.codeIn K cdv "law" = true) (hr : Room 6 (A.deeper (envOfC "law" (defScope (top 20)) s.heap.objs.size f cdv))) :
    PSs (cxOf (L2N.CX P w) P w K mg base N_law "law" (defScope (top 20)) f cdv A outer s H E) (defBody (top 20)) (tMS K cA (fun cls d _ H => E cls d H) m_law) := by
  have nd : N_law.Nodup := by decide
  obtain ⟨fd_Loft___init__, F_Loft___init__, B_Loft___init__⟩ := p_Loft___init__
  obtain ⟨fd_Loft_bring, F_Loft_bring, B_Loft_bring⟩ := p_Loft_bring
  obtain ⟨fd_Loft_free, F_Loft_free, B_Loft_free⟩ := p_Loft_free
  obtain ⟨fd_Loft_lend, F_Loft_lend, B_Loft_lend⟩ := p_Loft_lend
  obtain ⟨fd_Loft_put, F_Loft_put, B_Loft_put⟩ := p_Loft_put
  obtain ⟨fd_Loft_shown, F_Loft_shown, B_Loft_shown⟩ := p_Loft_shown
  obtain ⟨fd__law_rest1, F__law_rest1, B__law_rest1⟩ := p__law_rest1
  obtain ⟨fd__law_roll, F__law_roll, B__law_roll⟩ := p__law_roll
  obtain ⟨fd__law_rounds, F__law_rounds, B__law_rounds⟩ := p__law_rounds
  obtain ⟨cc, rfl, tb⟩ := htb cdv hcd
  refine ss_cons ?_ ?_
  · refine s_for owns_cx (gf_name (i := 1)) ?_ ?_ ?_
    · exact (i_seq (r_esc (r_fn (fun σ => L2N.passAt hx_def σ) F__law_rounds (hr.mono (by decide)) (G.gl "_law_rounds" (by decide)).1 (G.gl "_law_rounds" (by decide)).2 B__law_rounds (r_acons (r_esc (r_var 0)) (r_acons r_int r_anil)))))
    · exact (pg_name (i := 1) nd rfl (by first | exact Or.inl rfl | exact Or.inr rfl) (by first | exact .inl rfl | exact .inr rfl))
    · refine ss_cons ?_ ?_
      · refine s_asg (gf_tup (gfs_cons (gf_name (i := 5)) (gfs_cons (gf_name (i := 6)) (gfs_cons (gf_name (i := 7)) gfs_nil)))) ?_ ?_
        · exact (r_tup (r_acons (r_esc (r_lc (own := [("k", 15)]) nd rfl (gf_name (i := 15)) (by decide) (i_rng1 (G.nb "range" (by decide)) (r_acons (r_add r_int (r_fn (fun σ => L2N.passAt hx_def σ) F__law_roll (hr.mono (by decide)) (G.gl "_law_roll" (by decide)).1 (G.gl "_law_roll" (by decide)).2 B__law_roll (r_acons (r_esc (r_var 1)) (r_acons r_int r_anil)))) r_anil)) (fun _ _ _ _ _ => (pg_name (i := 15) nd rfl (by first | exact Or.inl rfl | exact Or.inr rfl) (by first | exact .inl rfl | exact .inr rfl))) (fun _ _ _ _ _ => ts_nil) (fun _ _ _ _ _ => (r_esc (r_add r_int (r_fn (fun σ => L2N.passAt takes_noN σ) F__law_roll (hr.mono (by decide)) (G.gl "_law_roll" (by decide)).1 (G.gl "_law_roll" (by decide)).2 B__law_roll (r_acons (r_esc (r_var 1)) (r_acons r_int r_anil)))))))) (r_acons (r_esc r_dnew) (r_acons (r_esc r_dnew) r_anil))))
        · exact (pg_tup rfl (pgs_cons (pg_name (i := 5) nd rfl (by first | exact Or.inl rfl | exact Or.inr rfl) (by first | exact .inl rfl | exact .inr rfl)) (pgs_cons (pg_name (i := 6) nd rfl (by first | exact Or.inl rfl | exact Or.inr rfl) (by first | exact .inl rfl | exact .inr rfl)) (pgs_cons (pg_name (i := 7) nd rfl (by first | exact Or.inl rfl | exact Or.inr rfl) (by first | exact .inl rfl | exact .inr rfl)) pgs_nil))))
      refine ss_cons ?_ ?_
      · refine s_set 2 nd ?_
        exact (r_make (fun σ => L2N.passAt hx_def σ) G.mk_Loft F_Loft___init__ (hr.mono (by decide)) rfl (G.gl "Loft" (by decide)).1 B_Loft___init__ (r_acons (r_esc (r_var 5)) r_anil))
      refine ss_cons ?_ ?_
      · refine s_for owns_cx (gf_name (i := 3)) ?_ ?_ ?_
        · exact (i_rng1 (G.nb "range" (by decide)) (r_acons (r_fn (fun σ => L2N.passAt hx_def σ) F__law_roll (hr.mono (by decide)) (G.gl "_law_roll" (by decide)).1 (G.gl "_law_roll" (by decide)).2 B__law_roll (r_acons (r_esc (r_var 1)) (r_acons r_int r_anil))) r_anil))
        · exact (pg_name (i := 3) nd rfl (by first | exact Or.inl rfl | exact Or.inr rfl) (by first | exact .inl rfl | exact .inr rfl))
        · refine ss_cons ?_ ?_
          · refine s_asg (gf_tup (gfs_cons (gf_name (i := 10)) (gfs_cons (gf_name (i := 11)) (gfs_cons (gf_name (i := 12)) (gfs_cons (gf_name (i := 13)) gfs_nil))))) ?_ ?_
            · exact (r_tup (r_acons (r_esc (r_fn (fun σ => L2N.passAt hx_def σ) F__law_roll (hr.mono (by decide)) (G.gl "_law_roll" (by decide)).1 (G.gl "_law_roll" (by decide)).2 B__law_roll (r_acons (r_esc (r_var 1)) (r_acons r_int r_anil)))) (r_acons (r_ix hr r_str (r_fn (fun σ => L2N.passAt hx_def σ) F__law_roll (hr.mono (by decide)) (G.gl "_law_roll" (by decide)).1 (G.gl "_law_roll" (by decide)).2 B__law_roll (r_acons (r_esc (r_var 1)) (r_acons r_int r_anil)))) (r_acons (r_esc (r_fn (fun σ => L2N.passAt hx_def σ) F__law_roll (hr.mono (by decide)) (G.gl "_law_roll" (by decide)).1 (G.gl "_law_roll" (by decide)).2 B__law_roll (r_acons (r_esc (r_var 1)) (r_acons r_int r_anil)))) (r_acons (r_ix hr (r_lst (r_acons r_str (r_acons r_str (r_acons r_str r_anil)))) (r_div (r_fn (fun σ => L2N.passAt hx_def σ) F__law_roll (hr.mono (by decide)) (G.gl "_law_roll" (by decide)).1 (G.gl "_law_roll" (by decide)).2 B__law_roll (r_acons (r_esc (r_var 1)) (r_acons r_int r_anil))) r_int)) r_anil)))))
            · exact (pg_tup rfl (pgs_cons (pg_name (i := 10) nd rfl (by first | exact Or.inl rfl | exact Or.inr rfl) (by first | exact .inl rfl | exact .inr rfl)) (pgs_cons (pg_name (i := 11) nd rfl (by first | exact Or.inl rfl | exact Or.inr rfl) (by first | exact .inl rfl | exact .inr rfl)) (pgs_cons (pg_name (i := 12) nd rfl (by first | exact Or.inl rfl | exact Or.inr rfl) (by first | exact .inl rfl | exact .inr rfl)) (pgs_cons (pg_name (i := 13) nd rfl (by first | exact Or.inl rfl | exact Or.inr rfl) (by first | exact .inl rfl | exact .inr rfl)) pgs_nil)))))
          refine ss_cons ?_ ?_
          · refine s_set 4 nd ?_
            exact (r_lc (own := [("k", 15)]) nd rfl (gf_name (i := 15)) (by decide) (i_rng1 (G.nb "range" (by decide)) (r_acons (r_len (G.nb "len" (by decide)) (r_acons (r_var 5) r_anil)) r_anil)) (fun _ _ _ _ _ => (pg_name (i := 15) nd rfl (by first | exact Or.inl rfl | exact Or.inr rfl) (by first | exact .inl rfl | exact .inr rfl))) (fun _ _ _ _ _ => ts_nil) (fun _ _ _ _ _ => (r_sub (r_ix hr (r_var 5) (r_var 15)) (r_sum (G.nb "sum" (by decide)) (r_acons (r_lcK (own := [("one", 17)]) nd rfl ls_var (gf_name (i := 17)) (by decide) (r_bor 6) (fun _ _ _ _ _ => (pg_name (i := 17) nd rfl (by first | exact Or.inl rfl | exact Or.inr rfl) (by first | exact .inl rfl | exact .inr rfl))) (fun _ _ _ _ _ => (ts_one (t_cp (c_eq hr) (r_ix hr (r_ix hr (r_var 6) (r_var 17)) r_int) (r_var 15)))) (fun _ _ _ _ _ => (r_ix hr (r_ix hr (r_var 6) (r_var 17)) r_int))) r_anil)))))
          refine ss_cons ?_ ?_
          · refine s_if ?_ ?_ ?_
            · exact (t_cp (c_ne hr) (r_lc (own := [("k", 15)]) nd rfl (gf_name (i := 15)) (by decide) (i_rng1 (G.nb "range" (by decide)) (r_acons (r_len (G.nb "len" (by decide)) (r_acons (r_var 5) r_anil)) r_anil)) (fun _ _ _ _ _ => (pg_name (i := 15) nd rfl (by first | exact Or.inl rfl | exact Or.inr rfl) (by first | exact .inl rfl | exact .inr rfl))) (fun _ _ _ _ _ => ts_nil) (fun _ _ _ _ _ => (r_esc (r_meth (Cn := "Loft") (fun σ => L2N.passAt takes_noN σ) F_Loft_free (hr.mono (by decide)) G.cl_Loft G.mt_Loft_free B_Loft_free (r_var 2) (r_acons (r_esc (r_var 15)) r_anil))))) (r_var 4))
            · refine ss_one ?_
              refine s_ret ?_
              exact r_bl
            · exact ss_nil
          refine ss_cons ?_ ?_
          · refine s_set 8 nd ?_
            refine r_if ?_ ?_ ?_
            · exact (t_cp c_lt (r_var 10) r_int)
            · exact (r_var 12)
            · exact (r_ix hr (r_get2 hr (r_var 7) (r_var 11) (r_tup (r_acons r_str (r_acons r_int r_anil)))) r_int)
          refine ss_cons ?_ ?_
          · exact s_setLc 9 (own := [("k", 15)]) nd rfl (gf_name (i := 15)) (by decide) (i_rng1 (G.nb "range" (by decide)) (r_acons (r_len (G.nb "len" (by decide)) (r_acons (r_var 5) r_anil)) r_anil)) (fun _ _ _ _ _ => (pg_name (i := 15) nd rfl (by first | exact Or.inl rfl | exact Or.inr rfl) (by first | exact .inl rfl | exact .inr rfl))) (fun _ _ _ _ _ => (ts_one (t_cp c_ge (r_ix hr (r_var 4) (r_var 15)) (r_var 8)))) (fun _ _ _ _ _ => (r_tup (r_acons (r_ix hr (r_var 4) (r_var 15)) (r_acons (r_esc (r_var 15)) r_anil))))
          refine ss_cons ?_ ?_
          · refine s_if ?_ ?_ ?_
            · exact (t_cp c_lt (r_var 10) r_int)
            · refine ss_cons ?_ ?_
              · refine s_set 14 nd ?_
                refine r_if ?_ ?_ ?_
                · exact (t_w (w_or (t_cp (c_in hr) (r_var 11) (r_var 6)) (w_or1 (t_cp (c_in hr) (r_var 11) (r_var 7)))))
                · exact r_str
                · refine r_if ?_ ?_ ?_
                  · exact (t_cp c_lt (r_var 12) r_int)
                  · exact r_str
                  · exact r_str
              refine ss_cons ?_ ?_
              · refine s_set 14 nd ?_
                refine r_if ?_ ?_ ?_
                · exact (t_w (w_and (t_cp (c_eq hr) (r_var 14) r_str) (w_and1 (t_cp (c_ne hr) (r_var 9) (r_lst r_anil)))))
                · exact (r_ix hr (r_min hr (G.nb "min" (by decide)) (r_acons (r_var 9) r_anil)) r_int)
                · exact (r_var 14)
              refine ss_cons ?_ ?_
              · refine s_if ?_ ?_ ?_
                · exact (t_cp (c_ne hr) (r_told G.tell G.ap told_in ⟨tb, rfl, hq _ _ _, by unfold Tb.at; rw [hL]; decide, ht, huni, LamX.lamS_by rfl⟩ hr (fun _ _ _ _ _ _ _ hr => (r_meth (Cn := "Loft") (fun σ => L2.passAt takes_lam σ) (fn_weak F_Loft_put) (hr.mono (by decide)) G.cl_Loft G.mt_Loft_put B_Loft_put (r_var 2) (r_acons (r_esc (r_var 11)) (r_acons (r_esc (r_var 12)) r_anil))))) (r_var 14))
                · refine ss_one ?_
                  refine s_ret ?_
                  exact r_bl
                · exact ss_nil
              refine ss_one ?_
              refine s_set 6 nd ?_
              exact (r_dict (G.nb "dict" (by decide)) (r_acons (r_add (r_listI (G.nb "list" (by decide)) (r_var 6)) (r_if (t_cp (c_notin hr) (r_var 14) (r_lst (r_acons r_str (r_acons r_str (r_acons r_str r_anil))))) (r_lst (r_acons (r_tup (r_acons (r_esc (r_var 11)) (r_acons (r_tup (r_acons (r_esc (r_var 14)) (r_acons (r_esc (r_var 12)) r_anil))) r_anil))) r_anil)) (r_lst r_anil))) r_anil))
            · refine ss_one ?_
              refine s_if ?_ ?_ ?_
              · exact (t_cp (c_eq hr) (r_var 10) r_int)
              · refine ss_cons ?_ ?_
                · refine s_set 14 nd ?_
                  refine r_if ?_ ?_ ?_
                  · exact (t_cp (c_notin hr) (r_var 11) (r_var 6))
                  · exact r_str
                  · refine r_if ?_ ?_ ?_
                    · exact (t_cp (c_eq hr) (r_var 13) r_str)
                    · exact r_str
                    · exact r_non
                refine ss_cons ?_ ?_
                · refine s_if ?_ ?_ ?_
                  · exact (t_cp (c_ne hr) (r_told G.tell G.ap told_in ⟨tb, rfl, hq _ _ _, by unfold Tb.at; rw [hL]; decide, ht, huni, LamX.lamS_by rfl⟩ hr (fun _ _ _ _ _ _ _ hr => (r_meth (Cn := "Loft") (fun σ => L2.passAt takes_lam σ) (fn_weak F_Loft_lend) (hr.mono (by decide)) G.cl_Loft G.mt_Loft_lend B_Loft_lend (r_var 2) (r_acons (r_esc (r_var 11)) (r_acons (r_esc (r_var 13)) r_anil))))) (r_var 14))
                  · refine ss_one ?_
                    refine s_ret ?_
                    exact r_bl
                  · exact ss_nil
                refine ss_cons ?_ ?_
                · refine s_set 7 nd ?_
                  exact (r_dict (G.nb "dict" (by decide)) (r_acons (r_add (r_listI (G.nb "list" (by decide)) (r_var 7)) (r_if (t_cp c_is (r_var 14) r_non) (r_lst (r_acons (r_tup (r_acons (r_esc (r_var 11)) (r_acons (r_tup (r_acons (r_esc (r_var 13)) (r_acons (r_ix hr (r_ix hr (r_var 6) (r_var 11)) r_int) r_anil))) r_anil))) r_anil)) (r_lst r_anil))) r_anil))
                refine ss_one ?_
                refine s_set 6 nd ?_
                exact (r_dict (G.nb "dict" (by decide)) (r_acons (r_lcK (own := [("one", 17)]) nd rfl ls_var (gf_name (i := 17)) (by decide) (r_bor 6) (fun _ _ _ _ _ => (pg_name (i := 17) nd rfl (by first | exact Or.inl rfl | exact Or.inr rfl) (by first | exact .inl rfl | exact .inr rfl))) (fun _ _ _ _ _ => (ts_one (t_w (w_or (t_cp (c_ne hr) (r_var 17) (r_var 11)) (w_or1 (t_cp c_isnot (r_var 14) r_non)))))) (fun _ _ _ _ _ => (r_tup (r_acons (r_esc (r_var 17)) (r_acons (r_ix hr (r_var 6) (r_var 17)) r_anil))))) r_anil))
              · refine ss_cons ?_ ?_
                · refine s_set 14 nd ?_
                  refine r_if ?_ ?_ ?_
                  · exact (t_cp (c_notin hr) (r_var 11) (r_var 7))
                  · exact r_str
                  · refine r_if ?_ ?_ ?_
                    · exact (t_cp (c_ne hr) (r_var 9) (r_lst r_anil))
                    · exact (r_ix hr (r_min hr (G.nb "min" (by decide)) (r_acons (r_var 9) r_anil)) r_int)
                    · exact r_str
                refine ss_cons ?_ ?_
                · refine s_if ?_ ?_ ?_
                  · exact (t_cp (c_ne hr) (r_told G.tell G.ap told_in ⟨tb, rfl, hq _ _ _, by unfold Tb.at; rw [hL]; decide, ht, huni, LamX.lamS_by rfl⟩ hr (fun _ _ _ _ _ _ _ hr => (r_meth (Cn := "Loft") (fun σ => L2.passAt takes_lam σ) F_Loft_bring (hr.mono (by decide)) G.cl_Loft G.mt_Loft_bring B_Loft_bring (r_var 2) (r_acons (r_esc (r_var 11)) r_anil)))) (r_var 14))
                  · refine ss_one ?_
                    refine s_ret ?_
                    exact r_bl
                  · exact ss_nil
                refine ss_cons ?_ ?_
                · refine s_set 16 nd ?_
                  exact (r_cp (c_notin hr) (r_var 14) (r_lst (r_acons r_str (r_acons r_str r_anil))))
                refine ss_cons ?_ ?_
                · refine s_set 6 nd ?_
                  exact (r_dict (G.nb "dict" (by decide)) (r_acons (r_add (r_listI (G.nb "list" (by decide)) (r_var 6)) (r_if (t_tru (r_var 16)) (r_lst (r_acons (r_tup (r_acons (r_esc (r_var 11)) (r_acons (r_tup (r_acons (r_esc (r_var 14)) (r_acons (r_esc (r_var 8)) r_anil))) r_anil))) r_anil)) (r_lst r_anil))) r_anil))
                refine ss_one ?_
                refine s_set 7 nd ?_
                exact (r_dict (G.nb "dict" (by decide)) (r_acons (r_lcK (own := [("one", 17)]) nd rfl ls_var (gf_name (i := 17)) (by decide) (r_bor 7) (fun _ _ _ _ _ => (pg_name (i := 17) nd rfl (by first | exact Or.inl rfl | exact Or.inr rfl) (by first | exact .inl rfl | exact .inr rfl))) (fun _ _ _ _ _ => (ts_one (t_w (w_or (t_cp (c_ne hr) (r_var 17) (r_var 11)) (w_or1 (t_not (t_tru (r_var 16)))))))) (fun _ _ _ _ _ => (r_tup (r_acons (r_esc (r_var 17)) (r_acons (r_ix hr (r_var 7) (r_var 17)) r_anil))))) r_anil))
          refine ss_one ?_
          refine s_if ?_ ?_ ?_
          · exact (t_cp (c_ne hr) (r_meth0 (Cn := "Loft") (fun σ => L2N.passAt hx_def σ) F_Loft_shown (hr.mono (by decide)) G.cl_Loft G.mt_Loft_shown B_Loft_shown (r_var 2)) (r_tup (r_acons (r_tuple (G.nb "tuple" (by decide)) (r_acons (r_sortI hr (G.nb "sorted" (by decide)) (r_var 6)) r_anil)) (r_acons (r_tuple (G.nb "tuple" (by decide)) (r_acons (r_sortI hr (G.nb "sorted" (by decide)) (r_var 7)) r_anil)) r_anil))))
          · refine ss_one ?_
            refine s_ret ?_
            exact r_bl
          · exact ss_nil
      refine ss_cons ?_ ?_
      · refine s_set 4 nd ?_
        exact (r_lc (own := [("k", 15)]) nd rfl (gf_name (i := 15)) (by decide) (i_rng1 (G.nb "range" (by decide)) (r_acons (r_len (G.nb "len" (by decide)) (r_acons (r_var 5) r_anil)) r_anil)) (fun _ _ _ _ _ => (pg_name (i := 15) nd rfl (by first | exact Or.inl rfl | exact Or.inr rfl) (by first | exact .inl rfl | exact .inr rfl))) (fun _ _ _ _ _ => ts_nil) (fun _ _ _ _ _ => (r_sub (r_ix hr (r_var 5) (r_var 15)) (r_sum (G.nb "sum" (by decide)) (r_acons (r_lcK (own := [("one", 17)]) nd rfl ls_var (gf_name (i := 17)) (by decide) (r_bor 6) (fun _ _ _ _ _ => (pg_name (i := 17) nd rfl (by first | exact Or.inl rfl | exact Or.inr rfl) (by first | exact .inl rfl | exact .inr rfl))) (fun _ _ _ _ _ => (ts_one (t_cp (c_eq hr) (r_ix hr (r_ix hr (r_var 6) (r_var 17)) r_int) (r_var 15)))) (fun _ _ _ _ _ => (r_ix hr (r_ix hr (r_var 6) (r_var 17)) r_int))) r_anil)))))
      refine ss_one ?_
      refine s_if ?_ ?_ ?_
      · exact (t_not (t_tru (r_fn (fun σ => L2N.passAt hx_def σ) F__law_rest1 (hr.mono (by decide)) (G.gl "_law_rest1" (by decide)).1 (G.gl "_law_rest1" (by decide)).2 B__law_rest1 (r_acons (r_esc (r_var 1)) (r_acons (r_esc (r_var 7)) (r_acons (r_esc (r_var 2)) (r_acons (r_esc (r_var 4)) r_anil)))))))
      · refine ss_one ?_
        refine s_ret ?_
        exact r_bl
      · exact ss_nil
  refine ss_one ?_
  refine s_ret ?_
  exact r_bl
end
end Lk18
set_option maxHeartbeats 1000000
namespace Lk18
open PySem PySem.Spec L2 Rf
open PyProof.Rows hiding St
/-! the head -/
abbrev R : PySem.W.OpenRow := PySem.W.OpenLaw.row PySem.Challenge.rw_kitehall_k18_lofts
def d_Loft___init__ : He.DefD := ⟨("Loft", some "__init__"), "__init__", "Loft.__init__", defArgs (sub (top 11) 0), defBody (sub (top 11) 0), defScope (sub (top 11) 0), [], []⟩
def d_Loft_free : He.DefD := ⟨("Loft", some "free"), "free", "Loft.free", defArgs (sub (top 11) 1), defBody (sub (top 11) 1), defScope (sub (top 11) 1), [], []⟩
def d_Loft_put : He.DefD := ⟨("Loft", some "put"), "put", "Loft.put", defArgs (sub (top 11) 2), defBody (sub (top 11) 2), defScope (sub (top 11) 2), [], []⟩
def d_Loft_lend : He.DefD := ⟨("Loft", some "lend"), "lend", "Loft.lend", defArgs (sub (top 11) 3), defBody (sub (top 11) 3), defScope (sub (top 11) 3), [], []⟩
def d_Loft_bring : He.DefD := ⟨("Loft", some "bring"), "bring", "Loft.bring", defArgs (sub (top 11) 4), defBody (sub (top 11) 4), defScope (sub (top 11) 4), [], []⟩
def d_Loft_owed : He.DefD := ⟨("Loft", some "owed"), "owed", "Loft.owed", defArgs (sub (top 11) 5), defBody (sub (top 11) 5), defScope (sub (top 11) 5), [], []⟩
def d_Loft_longest_free : He.DefD := ⟨("Loft", some "longest_free"), "longest_free", "Loft.longest_free", defArgs (sub (top 11) 6), defBody (sub (top 11) 6), defScope (sub (top 11) 6), [], []⟩
def d_Loft_shown : He.DefD := ⟨("Loft", some "shown"), "shown", "Loft.shown", defArgs (sub (top 11) 7), defBody (sub (top 11) 7), defScope (sub (top 11) 7), [], []⟩
def d_damp_left : He.DefD := ⟨("damp_left", none), "damp_left", "damp_left", defArgs (top 12), defBody (top 12), defScope (top 12), [], []⟩
def d_moth_eaten : He.DefD := ⟨("moth_eaten", none), "moth_eaten", "moth_eaten", defArgs (top 13), defBody (top 13), defScope (top 13), [], []⟩
def d__law_dice : He.DefD := ⟨("_law_dice", none), "_law_dice", "_law_dice", defArgs (top 15), defBody (top 15), defScope (top 15), [], []⟩
def d__law_roll : He.DefD := ⟨("_law_roll", none), "_law_roll", "_law_roll", defArgs (top 16), defBody (top 16), defScope (top 16), [], []⟩
def d__law_rounds : He.DefD := ⟨("_law_rounds", none), "_law_rounds", "_law_rounds", defArgs (top 17), defBody (top 17), defScope (top 17), [], []⟩
def d__law_told : He.DefD := ⟨("_law_told", none), "_law_told", "_law_told", defArgs (top 18), defBody (top 18), defScope (top 18), [], []⟩
def d__law_rest1 : He.DefD := ⟨("_law_rest1", none), "_law_rest1", "_law_rest1", defArgs (top 19), defBody (top 19), defScope (top 19), [], []⟩
def d_law : He.DefD := ⟨("law", none), "law", "law", defArgs (top 20), defBody (top 20), defScope (top 20), [], []⟩
def fn : List He.DefD := [d_Loft___init__, d_Loft_free, d_Loft_put, d_Loft_lend, d_Loft_bring, d_Loft_owed, d_Loft_longest_free, d_Loft_shown, d_damp_left, d_moth_eaten, d__law_dice, d__law_roll, d__law_rounds, d__law_told, d__law_rest1, d_law]
def t_Loft_free : TD := ⟨("Loft", some "free"), "Loft.free", "Loft.free.<locals>.<lambda>", []⟩
def t__law_rest1 : TD := ⟨("_law_rest1", none), "_law_rest1", "_law_rest1.<locals>.<lambda>", [(146, 17), (148, 17), (150, 17), (152, 17), (154, 17)]⟩
def t_law : TD := ⟨("law", none), "law", "law.<locals>.<lambda>", [(171, 29), (176, 29), (182, 29)]⟩
def tf : List TD := [t_Loft_free, t__law_rest1, t_law]
def faL : List (List He.Fa) := [(nbL.map He.Fa.free), (glL.map He.Fa.glo), (glL.map He.Fa.keep), (excL.map He.Fa.glo), (excR.map He.Fa.exc), (excL.flatMap fun x => excL.map fun y => He.Fa.exm x y (decide (x = y))), (okL.map fun p => He.Fa.cls p.1), (okL.map fun p => He.Fa.noat p.1 p.2), [He.Fa.cls "Loft"], [He.Fa.mkr "Loft"], [He.Fa.meth "Loft" "free", He.Fa.meth "Loft" "put", He.Fa.meth "Loft" "lend", He.Fa.meth "Loft" "bring", He.Fa.meth "Loft" "owed", He.Fa.meth "Loft" "longest_free", He.Fa.meth "Loft" "shown"]]
def fa : List He.Fa := faL.flatten
abbrev hk : PySem.W.Hook := He.hookX 5 fa fn [] (tf.map (·.at_)) (exT tf)
def ob (s : PySem.W.SharedT) : He.AlX := He.obsX 5 fa fn [] (tf.map (·.at_)) (exT tf) (HandSHeadRun.getT s)
theorem ob_eq (s : PySem.W.SharedT) : ob s = hk.obs s.abs := He.obsX_eq (HandSHeadRun.getT_eq s)
def loose0 : List Str := ["KiteFault", "BadSize", "BadPlan", "NoSuch", "NoRoom", "NoWay", "Snaps", "BadText", "BadDeed", "Loft", "damp_left", "moth_eaten", "_law_dice", "_law_roll", "_law_rounds", "_law_told", "_law_rest1"]
def loose : List Str := loose0
set_option maxHeartbeats 0 in
theorem run (w : World) : HandSHeadRun.RunEq R (PySem.W.view R.prog [20]) hk ob 4000 loose w := by
  intro os
  kernel_rfl
section
variable {P : Program} {w : World} {K : PySem.W.Frag} {h base : Heap} {mg : Str → Option Value}
theorem sc_Loft___init__ : FnScope N_Loft___init__ ["self", "racks"] (defScope (sub (top 11) 0)) := ⟨rfl, rfl, rfl, by decide +kernel, rfl, by decide +kernel, by decide +kernel⟩
theorem bi_Loft___init__ (kV doc pm : Value) (an : Option Addr) (cdv ct : Value) (us : List Value) (hl : us.length = 2) : bindArgs (PySem.W.fnOf "__init__" "Loft.__init__" (defArgs (sub (top 11) 0)) (defBody (sub (top 11) 0)) (defScope (sub (top 11) 0)) .none kV doc pm an cdv ct) ⟨us, []⟩ = pure ((["self", "racks"] : List Str).zip us) := match us, hl with | [_, _], _ => rfl
theorem sc_Loft_free : FnScope N_Loft_free ["self", "rack"] (defScope (sub (top 11) 1)) := ⟨rfl, rfl, rfl, by decide +kernel, rfl, by decide +kernel, by decide +kernel⟩
theorem bi_Loft_free (kV doc pm : Value) (an : Option Addr) (cdv ct : Value) (us : List Value) (hl : us.length = 2) : bindArgs (PySem.W.fnOf "free" "Loft.free" (defArgs (sub (top 11) 1)) (defBody (sub (top 11) 1)) (defScope (sub (top 11) 1)) .none kV doc pm an cdv ct) ⟨us, []⟩ = pure ((["self", "rack"] : List Str).zip us) := match us, hl with | [_, _], _ => rfl
theorem sc_Loft_put : FnScope N_Loft_put ["self", "name", "long"] (defScope (sub (top 11) 2)) := ⟨rfl, rfl, rfl, by decide +kernel, rfl, by decide +kernel, by decide +kernel⟩
theorem bi_Loft_put (kV doc pm : Value) (an : Option Addr) (cdv ct : Value) (us : List Value) (hl : us.length = 3) : bindArgs (PySem.W.fnOf "put" "Loft.put" (defArgs (sub (top 11) 2)) (defBody (sub (top 11) 2)) (defScope (sub (top 11) 2)) .none kV doc pm an cdv ct) ⟨us, []⟩ = pure ((["self", "name", "long"] : List Str).zip us) := match us, hl with | [_, _, _], _ => rfl
theorem sc_Loft_lend : FnScope N_Loft_lend ["self", "name", "who"] (defScope (sub (top 11) 3)) := ⟨rfl, rfl, rfl, by decide +kernel, rfl, by decide +kernel, by decide +kernel⟩
theorem bi_Loft_lend (kV doc pm : Value) (an : Option Addr) (cdv ct : Value) (us : List Value) (hl : us.length = 3) : bindArgs (PySem.W.fnOf "lend" "Loft.lend" (defArgs (sub (top 11) 3)) (defBody (sub (top 11) 3)) (defScope (sub (top 11) 3)) .none kV doc pm an cdv ct) ⟨us, []⟩ = pure ((["self", "name", "who"] : List Str).zip us) := match us, hl with | [_, _, _], _ => rfl
theorem sc_Loft_bring : FnScope N_Loft_bring ["self", "name"] (defScope (sub (top 11) 4)) := ⟨rfl, rfl, rfl, by decide +kernel, rfl, by decide +kernel, by decide +kernel⟩
theorem bi_Loft_bring (kV doc pm : Value) (an : Option Addr) (cdv ct : Value) (us : List Value) (hl : us.length = 2) : bindArgs (PySem.W.fnOf "bring" "Loft.bring" (defArgs (sub (top 11) 4)) (defBody (sub (top 11) 4)) (defScope (sub (top 11) 4)) .none kV doc pm an cdv ct) ⟨us, []⟩ = pure ((["self", "name"] : List Str).zip us) := match us, hl with | [_, _], _ => rfl
theorem sc_Loft_owed : FnScope N_Loft_owed ["self"] (defScope (sub (top 11) 5)) := ⟨rfl, rfl, rfl, by decide +kernel, rfl, by decide +kernel, by decide +kernel⟩
theorem bi_Loft_owed (kV doc pm : Value) (an : Option Addr) (cdv ct : Value) (us : List Value) (hl : us.length = 1) : bindArgs (PySem.W.fnOf "owed" "Loft.owed" (defArgs (sub (top 11) 5)) (defBody (sub (top 11) 5)) (defScope (sub (top 11) 5)) .none kV doc pm an cdv ct) ⟨us, []⟩ = pure ((["self"] : List Str).zip us) := match us, hl with | [_], _ => rfl
theorem sc_Loft_longest_free : FnScope N_Loft_longest_free ["self"] (defScope (sub (top 11) 6)) := ⟨rfl, rfl, rfl, by decide +kernel, rfl, by decide +kernel, by decide +kernel⟩
theorem bi_Loft_longest_free (kV doc pm : Value) (an : Option Addr) (cdv ct : Value) (us : List Value) (hl : us.length = 1) : bindArgs (PySem.W.fnOf "longest_free" "Loft.longest_free" (defArgs (sub (top 11) 6)) (defBody (sub (top 11) 6)) (defScope (sub (top 11) 6)) .none kV doc pm an cdv ct) ⟨us, []⟩ = pure ((["self"] : List Str).zip us) := match us, hl with | [_], _ => rfl
theorem sc_Loft_shown : FnScope N_Loft_shown ["self"] (defScope (sub (top 11) 7)) := ⟨rfl, rfl, rfl, by decide +kernel, rfl, by decide +kernel, by decide +kernel⟩
theorem bi_Loft_shown (kV doc pm : Value) (an : Option Addr) (cdv ct : Value) (us : List Value) (hl : us.length = 1) : bindArgs (PySem.W.fnOf "shown" "Loft.shown" (defArgs (sub (top 11) 7)) (defBody (sub (top 11) 7)) (defScope (sub (top 11) 7)) .none kV doc pm an cdv ct) ⟨us, []⟩ = pure ((["self"] : List Str).zip us) := match us, hl with | [_], _ => rfl
theorem sc_damp_left : FnScope N_damp_left ["damp", "air", "hours"] (defScope (top 12)) := ⟨rfl, rfl, rfl, by decide +kernel, rfl, by decide +kernel, by decide +kernel⟩
theorem bi_damp_left (kV doc pm : Value) (an : Option Addr) (cdv ct : Value) (us : List Value) (hl : us.length = 3) : bindArgs (PySem.W.fnOf "damp_left" "damp_left" (defArgs (top 12)) (defBody (top 12)) (defScope (top 12)) .none kV doc pm an cdv ct) ⟨us, []⟩ = pure ((["damp", "air", "hours"] : List Str).zip us) := match us, hl with | [_, _, _], _ => rfl
theorem sc_moth_eaten : FnScope N_moth_eaten ["days", "holes"] (defScope (top 13)) := ⟨rfl, rfl, rfl, by decide +kernel, rfl, by decide +kernel, by decide +kernel⟩
theorem bi_moth_eaten (kV doc pm : Value) (an : Option Addr) (cdv ct : Value) (us : List Value) (hl : us.length = 2) : bindArgs (PySem.W.fnOf "moth_eaten" "moth_eaten" (defArgs (top 13)) (defBody (top 13)) (defScope (top 13)) .none kV doc pm an cdv ct) ⟨us, []⟩ = pure ((["days", "holes"] : List Str).zip us) := match us, hl with | [_, _], _ => rfl
theorem sc__law_dice : FnScope N__law_dice ["cell"] (defScope (top 15)) := ⟨rfl, rfl, rfl, by decide +kernel, rfl, by decide +kernel, by decide +kernel⟩
theorem bi__law_dice (kV doc pm : Value) (an : Option Addr) (cdv ct : Value) (us : List Value) (hl : us.length = 1) : bindArgs (PySem.W.fnOf "_law_dice" "_law_dice" (defArgs (top 15)) (defBody (top 15)) (defScope (top 15)) .none kV doc pm an cdv ct) ⟨us, []⟩ = pure ((["cell"] : List Str).zip us) := match us, hl with | [_], _ => rfl
theorem sc__law_roll : FnScope N__law_roll ["dice", "many"] (defScope (top 16)) := ⟨rfl, rfl, rfl, by decide +kernel, rfl, by decide +kernel, by decide +kernel⟩
theorem bi__law_roll (kV doc pm : Value) (an : Option Addr) (cdv ct : Value) (us : List Value) (hl : us.length = 2) : bindArgs (PySem.W.fnOf "_law_roll" "_law_roll" (defArgs (top 16)) (defBody (top 16)) (defScope (top 16)) .none kV doc pm an cdv ct) ⟨us, []⟩ = pure ((["dice", "many"] : List Str).zip us) := match us, hl with | [_, _], _ => rfl
theorem sc__law_rounds : FnScope N__law_rounds ["script", "most"] (defScope (top 17)) := ⟨rfl, rfl, rfl, by decide +kernel, rfl, by decide +kernel, by decide +kernel⟩
theorem bi__law_rounds (kV doc pm : Value) (an : Option Addr) (cdv ct : Value) (us : List Value) (hl : us.length = 2) : bindArgs (PySem.W.fnOf "_law_rounds" "_law_rounds" (defArgs (top 17)) (defBody (top 17)) (defScope (top 17)) .none kV doc pm an cdv ct) ⟨us, []⟩ = pure ((["script", "most"] : List Str).zip us) := match us, hl with | [_, _], _ => rfl
abbrev N__law_told : List Str := ["what"]
theorem sc__law_told : FnScope N__law_told ["what"] (defScope (top 18)) := ⟨rfl, rfl, rfl, by decide +kernel, rfl, by decide +kernel, by decide +kernel⟩
theorem bi__law_told (kV doc pm : Value) (an : Option Addr) (cdv ct : Value) (us : List Value) (hl : us.length = 1) : bindArgs (PySem.W.fnOf "_law_told" "_law_told" (defArgs (top 18)) (defBody (top 18)) (defScope (top 18)) .none kV doc pm an cdv ct) ⟨us, []⟩ = pure ((["what"] : List Str).zip us) := match us, hl with | [_], _ => rfl
theorem sc__law_rest1 : FnScope N__law_rest1 ["dice", "lent", "loft", "free"] (defScope (top 19)) := ⟨rfl, rfl, rfl, by decide +kernel, rfl, by decide +kernel, by decide +kernel⟩
theorem bi__law_rest1 (kV doc pm : Value) (an : Option Addr) (cdv ct : Value) (us : List Value) (hl : us.length = 4) : bindArgs (PySem.W.fnOf "_law_rest1" "_law_rest1" (defArgs (top 19)) (defBody (top 19)) (defScope (top 19)) .none kV doc pm an cdv ct) ⟨us, []⟩ = pure ((["dice", "lent", "loft", "free"] : List Str).zip us) := match us, hl with | [_, _, _, _], _ => rfl
theorem sc_law : FnScope N_law ["script"] (defScope (top 20)) := ⟨rfl, rfl, rfl, by decide +kernel, rfl, by decide +kernel, by decide +kernel⟩
theorem bi_law (kV doc pm : Value) (an : Option Addr) (cdv ct : Value) (us : List Value) (hl : us.length = 1) : bindArgs (PySem.W.fnOf "law" "law" (defArgs (top 20)) (defBody (top 20)) (defScope (top 20)) .none kV doc pm an cdv ct) ⟨us, []⟩ = pure ((["script"] : List Str).zip us) := match us, hl with | [_], _ => rfl
theorem dmem {d : He.DefD} (i : Nat) (h : fn[i]? = some d := by rfl) : d ∈ fn := List.mem_of_getElem? h
theorem facts_of (X : K.In h) (G : h.Ns mainGlobals mg) (c : He.SaysX fa fn [] (tf.map (·.at_)) (exT tf) w h K) : Facts K mg (cAof tf K) where
  ad := fun _ => rfl
  nb := fun x hx => He.free_ok X G (c.t.d.facts (fl_mem (L := faL) (.head _) (List.mem_map.mpr ⟨x, hx, rfl⟩)))
  gl := fun x hx => ⟨He.glo_ok X G (c.t.d.facts (fl_mem (L := faL) (.tail _ (.head _)) (List.mem_map.mpr ⟨x, hx, rfl⟩))), He.keep_ok (c.t.d.facts (fl_mem (L := faL) (.tail _ (.tail _ (.head _))) (List.mem_map.mpr ⟨x, hx, rfl⟩)))⟩
  eg := fun x hx => He.glo_ok X G (c.t.d.facts (fl_mem (L := faL) (.tail _ (.tail _ (.tail _ (.head _)))) (List.mem_map.mpr ⟨x, hx, rfl⟩)))
  ex := fun x hx => by
    obtain ⟨h1, h2, h3, h4⟩ := He.exc_ok (c.t.d.facts (fl_mem (L := faL) (.tail _ (.tail _ (.tail _ (.tail _ (.head _))))) (List.mem_map.mpr ⟨x, hx, rfl⟩)))
    have sub : ∀ x ∈ excR, x ∈ excL := by decide
    have hx2 : x ∈ excL := sub x hx
    exact ⟨He.glo_ok X G (c.t.d.facts (fl_mem (L := faL) (.tail _ (.tail _ (.tail _ (.head _)))) (List.mem_map.mpr ⟨x, hx2, rfl⟩))), h1, h2, h3, h4⟩
  ap := fun C hC a ha => He.exm_ok (c.t.d.facts (fl_mem (L := faL) (.tail _ (.tail _ (.tail _ (.tail _ (.tail _ (.head _)))))) (List.mem_flatMap.mpr ⟨C, hC, List.mem_map.mpr ⟨a, ha, rfl⟩⟩)))
  ok := fun C f e => by
    have hm : (C, f) ∈ okL := List.contains_iff_mem.mp e
    exact ⟨He.cls_ok (c.t.d.facts (fl_mem (L := faL) (.tail _ (.tail _ (.tail _ (.tail _ (.tail _ (.tail _ (.head _))))))) (List.mem_map.mpr ⟨_, hm, rfl⟩))), He.noat_ok (c.t.d.facts (fl_mem (L := faL) (.tail _ (.tail _ (.tail _ (.tail _ (.tail _ (.tail _ (.tail _ (.head _)))))))) (List.mem_map.mpr ⟨_, hm, rfl⟩)))⟩
  tell := by
    obtain ⟨fd, D⟩ := c.t.d.defs (dmem 13)
    obtain ⟨oc, od, dV, kV, doc, pm, an, cdv, ct, osl, rfl, lk, hcd, hD, hK⟩ := D.ex
    exact ⟨⟨He.ga K "_law_told", "what", defArgs (top 18), defScope (top 18), dV, kV, doc, pm, cdv, ct, oc, an, od, osl, N__law_told, _, _, _, _, _, _, He.glo_ok X G (c.t.d.facts (fl_mem (L := faL) (.tail _ (.head _)) (List.mem_map.mpr ⟨"_law_told", by decide, rfl⟩))), D.kp, lk, hcd, FunD.bindsN D bi__law_told, sc__law_told, rfl, .inl rfl, (.cons (by decide +kernel) (He.glo_ok X G (c.t.d.facts (fl_mem (L := faL) (.tail _ (.tail _ (.tail _ (.head _)))) (List.mem_map.mpr ⟨"BadSize", by decide, rfl⟩)))) (by decide) (.cons (by decide +kernel) (He.glo_ok X G (c.t.d.facts (fl_mem (L := faL) (.tail _ (.tail _ (.tail _ (.head _)))) (List.mem_map.mpr ⟨"BadPlan", by decide, rfl⟩)))) (by decide) (.cons (by decide +kernel) (He.glo_ok X G (c.t.d.facts (fl_mem (L := faL) (.tail _ (.tail _ (.tail _ (.head _)))) (List.mem_map.mpr ⟨"NoSuch", by decide, rfl⟩)))) (by decide) (.cons (by decide +kernel) (He.glo_ok X G (c.t.d.facts (fl_mem (L := faL) (.tail _ (.tail _ (.tail _ (.head _)))) (List.mem_map.mpr ⟨"NoRoom", by decide, rfl⟩)))) (by decide) (.cons (by decide +kernel) (He.glo_ok X G (c.t.d.facts (fl_mem (L := faL) (.tail _ (.tail _ (.tail _ (.head _)))) (List.mem_map.mpr ⟨"NoWay", by decide, rfl⟩)))) (by decide) (.cons (by decide +kernel) (He.glo_ok X G (c.t.d.facts (fl_mem (L := faL) (.tail _ (.tail _ (.tail _ (.head _)))) (List.mem_map.mpr ⟨"Snaps", by decide, rfl⟩)))) (by decide) (.cons (by decide +kernel) (He.glo_ok X G (c.t.d.facts (fl_mem (L := faL) (.tail _ (.tail _ (.tail _ (.head _)))) (List.mem_map.mpr ⟨"BadText", by decide, rfl⟩)))) (by decide) (.cons (by decide +kernel) (He.glo_ok X G (c.t.d.facts (fl_mem (L := faL) (.tail _ (.tail _ (.tail _ (.head _)))) (List.mem_map.mpr ⟨"BadDeed", by decide, rfl⟩)))) (by decide) .nil)))))))), by decide, by decide⟩⟩
  cl_Loft := He.cls_ok (c.t.d.facts (fl_mem (L := faL) (.tail _ (.tail _ (.tail _ (.tail _ (.tail _ (.tail _ (.tail _ (.tail _ (.head _))))))))) (.head _)))
  mk_Loft := He.mkr_ok (c.t.d.facts (fl_mem (L := faL) (.tail _ (.tail _ (.tail _ (.tail _ (.tail _ (.tail _ (.tail _ (.tail _ (.tail _ (.head _)))))))))) (.head _)))
  mt_Loft_free := He.meth_ok (c.t.d.facts (fl_mem (L := faL) (.tail _ (.tail _ (.tail _ (.tail _ (.tail _ (.tail _ (.tail _ (.tail _ (.tail _ (.tail _ (.head _))))))))))) (.head _)))
  mt_Loft_put := He.meth_ok (c.t.d.facts (fl_mem (L := faL) (.tail _ (.tail _ (.tail _ (.tail _ (.tail _ (.tail _ (.tail _ (.tail _ (.tail _ (.tail _ (.head _))))))))))) (.tail _ (.head _))))
  mt_Loft_lend := He.meth_ok (c.t.d.facts (fl_mem (L := faL) (.tail _ (.tail _ (.tail _ (.tail _ (.tail _ (.tail _ (.tail _ (.tail _ (.tail _ (.tail _ (.head _))))))))))) (.tail _ (.tail _ (.head _)))))
  mt_Loft_bring := He.meth_ok (c.t.d.facts (fl_mem (L := faL) (.tail _ (.tail _ (.tail _ (.tail _ (.tail _ (.tail _ (.tail _ (.tail _ (.tail _ (.tail _ (.head _))))))))))) (.tail _ (.tail _ (.tail _ (.head _))))))
  mt_Loft_owed := He.meth_ok (c.t.d.facts (fl_mem (L := faL) (.tail _ (.tail _ (.tail _ (.tail _ (.tail _ (.tail _ (.tail _ (.tail _ (.tail _ (.tail _ (.head _))))))))))) (.tail _ (.tail _ (.tail _ (.tail _ (.head _)))))))
  mt_Loft_longest_free := He.meth_ok (c.t.d.facts (fl_mem (L := faL) (.tail _ (.tail _ (.tail _ (.tail _ (.tail _ (.tail _ (.tail _ (.tail _ (.tail _ (.tail _ (.head _))))))))))) (.tail _ (.tail _ (.tail _ (.tail _ (.tail _ (.head _))))))))
  mt_Loft_shown := He.meth_ok (c.t.d.facts (fl_mem (L := faL) (.tail _ (.tail _ (.tail _ (.tail _ (.tail _ (.tail _ (.tail _ (.tail _ (.tail _ (.tail _ (.head _))))))))))) (.tail _ (.tail _ (.tail _ (.tail _ (.tail _ (.tail _ (.head _)))))))))
theorem fn_law {fd : FuncData} (G : Facts K mg (cAof tf K)) (S : He.SaysD fa fn K) (hx : exT tf K = true) (TB : ∀ p ∈ tf.map (fun t => He.cT K t.at_), LamX.TabB base mg p.1 p.2) (D_law : FunD K "law" "law" (defArgs (top 20)) (defBody (top 20)) (defScope (top 20)) [] [] (He.ga K "law") fd) : FnOk P w K mg base (L2N.CX P w) 7 (He.ga K "law") fd ["script"] (SP K (cAof tf K) 1 f_law) := by
  obtain ⟨fd_Loft___init__, D_Loft___init__⟩ := S.defs (dmem 0)
  have p_Loft___init__ : Prom (L2N.CX P w) P w K mg base (cAof tf K) 1 (He.ma K (cAof tf K "Loft") "__init__") ["self", "racks"] 2 f_Loft___init__ := prom_of (k := 0) D_Loft___init__ sc_Loft___init__ rfl bi_Loft___init__ fun cdv A outer s H E hcd _ hr => b_Loft___init__ G  A outer s H E hr
  obtain ⟨fd_Loft_free, D_Loft_free⟩ := S.defs (dmem 1)
  have p_Loft_free : Prom (L2N.CX P w) P w K mg base (cAof tf K) 2 (He.ma K (cAof tf K "Loft") "free") ["self", "rack"] 2 f_Loft_free := prom_of (k := 1) D_Loft_free sc_Loft_free rfl bi_Loft_free fun cdv A outer s H E hcd _ hr => b_Loft_free G  (t_Loft_free.tb K) (tb_mem (t := t_Loft_free) (.head _)) (fun _ _ _ => rfl) (tb_uni hx (t := t_Loft_free) (.head _)) rfl (tb_tab hx (t := t_Loft_free) (.head _) TB) A outer s H E hcd hr
  obtain ⟨fd_Loft_put, D_Loft_put⟩ := S.defs (dmem 2)
  have p_Loft_put : Prom (L2N.CX P w) P w K mg base (cAof tf K) 3 (He.ma K (cAof tf K "Loft") "put") ["self", "name", "long"] 3 f_Loft_put := prom_of (k := 2) D_Loft_put sc_Loft_put rfl bi_Loft_put fun cdv A outer s H E hcd _ hr => b_Loft_put G p_Loft_free A outer s H E hr
  obtain ⟨fd_Loft_lend, D_Loft_lend⟩ := S.defs (dmem 3)
  have p_Loft_lend : Prom (L2N.CX P w) P w K mg base (cAof tf K) 1 (He.ma K (cAof tf K "Loft") "lend") ["self", "name", "who"] 3 f_Loft_lend := prom_of (k := 0) D_Loft_lend sc_Loft_lend rfl bi_Loft_lend fun cdv A outer s H E hcd _ hr => b_Loft_lend G  A outer s H E hr
  obtain ⟨fd_Loft_bring, D_Loft_bring⟩ := S.defs (dmem 4)
  have p_Loft_bring : Prom (L2.CX P w) P w K mg base (cAof tf K) 4 (He.ma K (cAof tf K "Loft") "bring") ["self", "name"] 2 f_Loft_bring := prom_of (k := 3) D_Loft_bring sc_Loft_bring rfl bi_Loft_bring fun cdv A outer s H E hcd _ hr => b_Loft_bring G p_Loft_put A outer s H E hr
  obtain ⟨fd_Loft_owed, D_Loft_owed⟩ := S.defs (dmem 5)
  have p_Loft_owed : Prom (L2N.CX P w) P w K mg base (cAof tf K) 1 (He.ma K (cAof tf K "Loft") "owed") ["self"] 1 f_Loft_owed := prom_of (k := 0) D_Loft_owed sc_Loft_owed rfl bi_Loft_owed fun cdv A outer s H E hcd _ hr => b_Loft_owed G  A outer s H E hr
  obtain ⟨fd_Loft_longest_free, D_Loft_longest_free⟩ := S.defs (dmem 6)
  have p_Loft_longest_free : Prom (L2N.CX P w) P w K mg base (cAof tf K) 3 (He.ma K (cAof tf K "Loft") "longest_free") ["self"] 1 f_Loft_longest_free := prom_of (k := 2) D_Loft_longest_free sc_Loft_longest_free rfl bi_Loft_longest_free fun cdv A outer s H E hcd _ hr => b_Loft_longest_free G p_Loft_free A outer s H E hr
  obtain ⟨fd_Loft_shown, D_Loft_shown⟩ := S.defs (dmem 7)
  have p_Loft_shown : Prom (L2N.CX P w) P w K mg base (cAof tf K) 1 (He.ma K (cAof tf K "Loft") "shown") ["self"] 1 f_Loft_shown := prom_of (k := 0) D_Loft_shown sc_Loft_shown rfl bi_Loft_shown fun cdv A outer s H E hcd _ hr => b_Loft_shown G  A outer s H E hr
  obtain ⟨fd_damp_left, D_damp_left⟩ := S.defs (dmem 8)
  have p_damp_left : Prom (L2N.CX P w) P w K mg base (cAof tf K) 1 (cAof tf K "damp_left") ["damp", "air", "hours"] 3 f_damp_left := prom_of (k := 0) D_damp_left sc_damp_left rfl bi_damp_left fun cdv A outer s H E hcd _ hr => b_damp_left G  A outer s H E hr
  obtain ⟨fd_moth_eaten, D_moth_eaten⟩ := S.defs (dmem 9)
  have p_moth_eaten : Prom (L2N.CX P w) P w K mg base (cAof tf K) 1 (cAof tf K "moth_eaten") ["days", "holes"] 2 f_moth_eaten := prom_of (k := 0) D_moth_eaten sc_moth_eaten rfl bi_moth_eaten fun cdv A outer s H E hcd _ hr => b_moth_eaten G  A outer s H E hr
  obtain ⟨fd__law_dice, D__law_dice⟩ := S.defs (dmem 10)
  have p__law_dice : Prom (L2N.CX P w) P w K mg base (cAof tf K) 1 (cAof tf K "_law_dice") ["cell"] 1 f__law_dice := prom_of (k := 0) D__law_dice sc__law_dice rfl bi__law_dice fun cdv A outer s H E hcd _ hr => b__law_dice G  A outer s H E hr
  obtain ⟨fd__law_roll, D__law_roll⟩ := S.defs (dmem 11)
  have p__law_roll : Prom (L2N.CX P w) P w K mg base (cAof tf K) 1 (cAof tf K "_law_roll") ["dice", "many"] 2 f__law_roll := prom_of (k := 0) D__law_roll sc__law_roll rfl bi__law_roll fun cdv A outer s H E hcd _ hr => b__law_roll G  A outer s H E hr
  obtain ⟨fd__law_rounds, D__law_rounds⟩ := S.defs (dmem 12)
  have p__law_rounds : Prom (L2N.CX P w) P w K mg base (cAof tf K) 2 (cAof tf K "_law_rounds") ["script", "most"] 2 f__law_rounds := prom_of (k := 1) D__law_rounds sc__law_rounds rfl bi__law_rounds fun cdv A outer s H E hcd _ hr => b__law_rounds G p__law_dice A outer s H E hr
  obtain ⟨fd__law_rest1, D__law_rest1⟩ := S.defs (dmem 14)
  have p__law_rest1 : Prom (L2N.CX P w) P w K mg base (cAof tf K) 6 (cAof tf K "_law_rest1") ["dice", "lent", "loft", "free"] 4 f__law_rest1 := prom_of (k := 5) D__law_rest1 sc__law_rest1 rfl bi__law_rest1 fun cdv A outer s H E hcd _ hr => b__law_rest1 G p_Loft___init__ p_Loft_free p_Loft_longest_free p_Loft_owed p_Loft_put p__law_roll p_damp_left p_moth_eaten (t__law_rest1.tb K) (tb_mem (t := t__law_rest1) (.tail _ (.head _))) (fun _ _ _ => rfl) (tb_uni hx (t := t__law_rest1) (.tail _ (.head _))) rfl (tb_tab hx (t := t__law_rest1) (.tail _ (.head _)) TB) A outer s H E hcd hr
  exact fnok_of (k := 6) D_law sc_law rfl fun cdv A outer s H E hcd hr => b_law G p_Loft___init__ p_Loft_bring p_Loft_free p_Loft_lend p_Loft_put p_Loft_shown p__law_rest1 p__law_roll p__law_rounds (t_law.tb K) (tb_mem (t := t_law) (.tail _ (.tail _ (.head _)))) (fun _ _ _ => rfl) (tb_uni hx (t := t_law) (.tail _ (.tail _ (.head _)))) rfl (tb_tab hx (t := t_law) (.tail _ (.tail _ (.head _))) TB) A outer s H E hcd hr
end
open PySem PySem.W PySem.Calls PyProof.Rows in
theorem holds_of (m : ∀ ns : List Int, ns.length ≤ 63 → ∃ w', f_law [.ext (ns.map D.int)] ⟨[], [], []⟩ = .ok (.sh (.bl true)) w') : PySem.Challenge.rw_kitehall_k18_lofts.Holds := by
  w_on; o_law
  refine HandSHeadRun.head_any (r := OpenLaw.row PySem.Challenge.rw_kitehall_k18_lofts) (q := view (OpenLaw.row PySem.Challenge.rw_kitehall_k18_lofts).prog [20]) (H := hk) (ob := ob) (M := 4000) (loose := loose) (d := HandSHeadRun.topDef (OpenLaw.row PySem.Challenge.rw_kitehall_k18_lofts).prog 20) (kwd := []) ob_eq
    (by kernel_rfl) (fun s => by kernel_rfl) run (by kernel_rfl) (by kernel_rfl) (by kernel_rfl) (by rfl) (by first | assumption | decide +kernel) (by decide +kernel) ⟨rfl, rfl, rfl, rfl, rfl, by decide +kernel⟩ ?hw ?hc
  case hw => w_witness2
  case hc =>
    refine LamX.walk_ofTsE (l := PySem.Challenge.rw_kitehall_k18_lofts) (n := 63) (k := 7) (x := "script") (CX := fun w => L2N.CX (PySem.Challenge.rw_kitehall_k18_lofts).prog w) rfl (by decide) (by kernel_rfl) ⟨rfl, by decide, by decide⟩ ?F (fun w H s e s' z => law_cx w H s e s' z)
    intro w mg fa0 h Y G hmg0
    obtain ⟨K, KX, c⟩ := Y
    have hmg : mg ("law" : PySem.Str) = some (.ref fa0) := by
      have e : (HandSHeadRun.topDef (OpenLaw.row PySem.Challenge.rw_kitehall_k18_lofts).prog 20).name = ("law" : PySem.Str) := by kernel_rfl
      rw [← e]
      exact hmg0
    have Fx := facts_of KX G c
    have e := hmg.symm.trans (Fx.gl "law" (by decide)).1
    cases e
    obtain ⟨fd, D⟩ := c.t.d.defs (dmem 15)
    exact ⟨K, KX, law_end KX c D bi_law (fun base hK hN TB => fn_law Fx c.t.d c.more TB D) m⟩
end Lk18
theorem PySem.Challenge.cw_kitehall_k18_lofts_holds : PySem.Challenge.rw_kitehall_k18_lofts.Holds :=
  Lk18.holds_of fun ns _ => Lk18.law_math ns
