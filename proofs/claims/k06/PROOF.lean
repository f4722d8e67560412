import PyProof.Rows.All
import Wide.All
import OpenK.AllK
import Wide.FinOn
import HandS.ForMost
import HandS.ForExc
import HandS.TupAny
import HandS.Defaults
import HandS.IsInst
import HandS.Deep
import HandS.Text
import HandS.SortInts
import HandS.Replace
import HandS.Style
import HandS.Dict
import HandS.Codes
import KE.DataFind
import HandS.SetFor
import HandS.TupSets
import HandS.Zip
import KE.KSortedM
import HandS.Lambda
import HandS.TupMul
import KE.KSortTupG
import HandS.SortOrd
import HandS.SortRule
import PyProof.EqAt
import HandS.Exc
import HandS.HotCalls
import HandS.ExcIs
import HandS.HeadHook1
import HandS.HeadHook2
import KE.GoesEnum
import PyProof.StrBlock2
import HandS.NoneIn
import HandS.Conv
import KE.KTupTabMore
import KE.KStateDown
import Lean
import HandS.Base
import HandS.Call
import HandS.Ends
import HandS.More
import HandS.Words
import HandS.WordsExc
import HandS.Head0
import HandS.Head1
import HandS.Head2
import HandS.HeadEnd
import PySem.Challenge.RW_inkcarriage_k06_whole_lean
set_option Elab.async false
set_option linter.all false
set_option maxRecDepth 100000
set_option maxHeartbeats 8000000
/-! ## Sm0 -/
/-! Sm0: data trees, a store of mutable objects, how both lie in the abstract heap, how the heap goes on. -/
namespace Sm
open PySem PySem.Spec PyProof.Rows L2

/-- values without addresses; obj i: the i-th mutable object of the store -/
inductive D where
  | non | bl (b : Bool) | int (i : Int) | str (s : List Nat) | tup (xs : List D) | lst (xs : List D) | src (xs : List D) | dct (kvs : List (D × D)) | obj (i : Nat)
/-- what a mutable object is; dead: given up -/
inductive O where
  | lst (xs : List D) | dct (kvs : List (D × D)) | ins (c : Nat) (fs : List D) | dead
abbrev Store := List O
instance : Inhabited D := ⟨.non⟩
instance : Inhabited O := ⟨.dead⟩

/-- where classes and exceptions stand, a class's fields in the order of their first store -/
structure Tab where
  cls : Nat → Addr
  nms : Nat → List Str
  exc : Nat → Addr

/-- a text of code points -/
abbrev tx (s : List Nat) : Str := ⟨s.toArray⟩
def kOf : D → Option Key
  | .int i => some (.inl i)
  | .str s => some (.inr (tx s))
  | _ => none

/-- the addresses of the objects that may change -/
def Live (m : List Addr) (S : Store) (a : Addr) : Prop := ∃ (i : Nat) (o : O), m[i]? = some a ∧ S[i]? = some o ∧ o ≠ O.dead

def Kl (K : PySem.W.Frag) (a : Addr) (xs : List V) : Prop :=
  ∃ (o : Obj) (its : Array Value) (n : Nat), K.lookup a = some o ∧ o.cls = .type "list" ∧ o.dict = none ∧ o.data = .seq its n ∧ its.size ≤ sizeLine ∧ Vals xs its.toList
/-- a list that is only read: the script -/
def Sr (K : PySem.W.Frag) (H : Hp) (a : Addr) (xs : List V) : Prop := (∃ o, H a = some (.frz o (.lst xs))) ∨ Kl K a xs

mutual
inductive R (K : PySem.W.Frag) (m : List Addr) (L : Addr → Prop) (H : Hp) : D → V → Prop
  | non : R K m L H .non .non
  | bl (b : Bool) : R K m L H (.bl b) (.bl b)
  | int (i : Int) : R K m L H (.int i) (.int i)
  | str (s : List Nat) : R K m L H (.str s) (.str (tx s))
  | tup {a : Addr} {xs : List D} {vs : List V} : SqT K H a vs → Rs K m L H xs vs → R K m L H (.tup xs) (.ref a)
  | lst {a : Addr} {xs : List D} {vs : List V} : H a = some (.lst vs) → ¬ L a → Rs K m L H xs vs → R K m L H (.lst xs) (.ref a)
  | src {a : Addr} {xs : List D} {vs : List V} : Sr K H a vs → Rs K m L H xs vs → R K m L H (.src xs) (.ref a)
  | dct {a : Addr} {xs : List (D × D)} {vs : List (Key × V)} : H a = some (.dK vs) → ¬ L a → RK K m L H xs vs → R K m L H (.dct xs) (.ref a)
  | obj {i : Nat} {a : Addr} : m[i]? = some a → R K m L H (.obj i) (.ref a)
inductive Rs (K : PySem.W.Frag) (m : List Addr) (L : Addr → Prop) (H : Hp) : List D → List V → Prop
  | nil : Rs K m L H [] []
  | cons {d : D} {v : V} {ds : List D} {vs : List V} : R K m L H d v → Rs K m L H ds vs → Rs K m L H (d :: ds) (v :: vs)
inductive RK (K : PySem.W.Frag) (m : List Addr) (L : Addr → Prop) (H : Hp) : List (D × D) → List (Key × V) → Prop
  | nil : RK K m L H [] []
  | cons {d e : D} {k : Key} {v : V} {ds : List (D × D)} {vs : List (Key × V)} : kOf d = some k → R K m L H e v → RK K m L H ds vs → RK K m L H ((d, e) :: ds) ((k, v) :: vs)
end

/-- an object at its address -/
inductive RO (K : PySem.W.Frag) (T : Tab) (m : List Addr) (L : Addr → Prop) (H : Hp) : O → Addr → Prop
  | lst {a : Addr} {xs : List D} {vs : List V} : H a = some (.lst vs) → Rs K m L H xs vs → RO K T m L H (.lst xs) a
  | dct {a : Addr} {xs : List (D × D)} {vs : List (Key × V)} : H a = some (.dK vs) → RK K m L H xs vs → RO K T m L H (.dct xs) a
  | ins {a dx : Addr} {c : Nat} {xs : List D} {vs : List V} : H a = some (.ins (T.cls c) dx ((T.nms c).zip vs)) → Rs K m L H xs vs → vs.length ≤ (T.nms c).length → RO K T m L H (.ins c xs) a
  | dead {a : Addr} : RO K T m L H .dead a

/-- what may change: the live objects and the protected lists P -/
def Lv (P : Addr → Prop) (m : List Addr) (S : Store) (a : Addr) : Prop := P a ∨ Live m S a
structure RS (K : PySem.W.Frag) (T : Tab) (P : Addr → Prop) (m : List Addr) (S : Store) (H : Hp) : Prop where
  len : m.length = S.length
  at_ : ∀ (i : Nat) (a : Addr) (o : O), m[i]? = some a → S[i]? = some o → RO K T m (Lv P m S) H o a
  inj : ∀ (i j : Nat) (a : Addr) (o u : O), m[i]? = some a → m[j]? = some a → S[i]? = some o → S[j]? = some u → o ≠ .dead → u ≠ .dead → i = j
  prot : ∀ a, P a → ∃ u, H a = some u ∧ Mut (some u)
  disj : ∀ (i : Nat) (a : Addr), m[i]? = some a → ¬ P a
  trk : ∀ (i : Nat) (a : Addr), m[i]? = some a → ∃ o, H a = some o

/-- how things go on: what is tracked and may not change is kept -/
structure Ext (m : List Addr) (S : Store) (H : Hp) (m' : List Addr) (S' : Store) (H' : Hp) : Prop where
  pre : ∃ t, m' = m ++ t
  keep : ∀ b o, H b = some o → ¬ Live m S b → H' b = some o
  there : ∀ b o, H b = some o → ∃ o', H' b = some o'
  dead : ∀ i o, i < m.length → S'[i]? = some o → o ≠ O.dead → ∃ u, S[i]? = some u ∧ u ≠ O.dead
  fresh : ∀ i a, m.length ≤ i → m'[i]? = some a → H a = none

section
variable {K : PySem.W.Frag} {T : Tab} {m m' m'' : List Addr} {S S' S'' : Store} {H H' H'' : Hp} {L L' P P' : Addr → Prop}

theorem get_pre {α : Type} {l t : List α} {i : Nat} {a : α} (h : l[i]? = some a) : (l ++ t)[i]? = some a := by
  have hi := (List.getElem?_eq_some_iff.mp h).1
  rw [List.getElem?_append_left hi]; exact h

theorem Ext.refl : Ext m S H m S H :=
  ⟨⟨[], by simp⟩, fun _ _ e _ => e, fun _ o e => ⟨o, e⟩, fun i o _ e n => ⟨o, e, n⟩, fun i a hi e => by
    rw [List.getElem?_eq_none hi] at e; cases e⟩

theorem Ext.get (x : Ext m S H m' S' H') {i : Nat} {a : Addr} (h : m[i]? = some a) : m'[i]? = some a := by
  obtain ⟨t, rfl⟩ := x.pre
  exact get_pre h
theorem Ext.getBack (x : Ext m S H m' S' H') {i : Nat} {a : Addr} (hi : i < m.length) (h : m'[i]? = some a) : m[i]? = some a := by
  obtain ⟨t, rfl⟩ := x.pre
  rw [List.getElem?_append_left hi] at h; exact h
theorem Ext.le (x : Ext m S H m' S' H') : m.length ≤ m'.length := by
  obtain ⟨t, rfl⟩ := x.pre
  simp
/-- a tracked thing that may not change may not change later on -/
theorem Ext.notLive (x : Ext m S H m' S' H') {b : Addr} {o : HO} (h : H b = some o) (n : ¬ Live m S b) : ¬ Live m' S' b := by
  rintro ⟨i, u, e1, e2, e3⟩
  by_cases hi : i < m.length
  · obtain ⟨v, f1, f2⟩ := x.dead i u hi e2 e3
    exact n ⟨i, v, x.getBack hi e1, f1, f2⟩
  · have := x.fresh i b (by omega) e1
    rw [h] at this; cases this
theorem Ext.trans (x : Ext m S H m' S' H') (y : Ext m' S' H' m'' S'' H'') : Ext m S H m'' S'' H'' := by
  refine ⟨?_, fun b o e n => y.keep b o (x.keep b o e n) (x.notLive e n), fun b o e => ?_, fun i o hi e n => ?_, fun i a hi e => ?_⟩
  · obtain ⟨t, h1⟩ := x.pre
    obtain ⟨u, h2⟩ := y.pre
    exact ⟨t ++ u, by rw [h2, h1, List.append_assoc]⟩
  · obtain ⟨o', e'⟩ := x.there b o e
    exact y.there b o' e'
  · obtain ⟨u, f1, f2⟩ := y.dead i o (Nat.lt_of_lt_of_le hi x.le) e n
    exact x.dead i u hi f1 f2
  · by_cases hj : i < m'.length
    · exact x.fresh i a hi (y.getBack hj e)
    · have q := y.fresh i a (by omega) e
      cases r : H a with
      | none => rfl
      | some o =>
        obtain ⟨o', e'⟩ := x.there a o r
        rw [q] at e'; cases e'

theorem sqT_keep {a : Addr} {vs : List V} (k : ∀ b xs, Rd H b (.tup xs) → Rd H' b (.tup xs)) (h : SqT K H a vs) : SqT K H' a vs := by
  rcases h with h | h
  · exact .inl (k _ _ h)
  · exact .inr h

/-- what a relation over data leans on -/
structure Le (K : PySem.W.Frag) (m : List Addr) (L : Addr → Prop) (H : Hp) (m' : List Addr) (L' : Addr → Prop) (H' : Hp) : Prop where
  get : ∀ {i : Nat} {a : Addr}, m[i]? = some a → m'[i]? = some a
  tup : ∀ {b : Addr} {xs : List V}, Rd H b (.tup xs) → Rd H' b (.tup xs)
  lst : ∀ {b : Addr} {xs : List V}, H b = some (.lst xs) → ¬ L b → H' b = some (.lst xs) ∧ ¬ L' b
  frz : ∀ {b : Addr} {o : Obj} {u : HO}, H b = some (.frz o u) → H' b = some (.frz o u)
  dct : ∀ {b : Addr} {xs : List (Key × V)}, H b = some (.dK xs) → ¬ L b → H' b = some (.dK xs) ∧ ¬ L' b

mutual
theorem R.le (x : Le K m L H m' L' H') : ∀ (d : D) (v : V), R K m L H d v → R K m' L' H' d v
  | .non, _, h => by cases h; exact .non
  | .bl b, _, h => by cases h; exact .bl b
  | .int i, _, h => by cases h; exact .int i
  | .str s, _, h => by cases h; exact .str s
  | .tup xs, _, h => by
    cases h with
    | tup h1 h2 => exact .tup (sqT_keep (fun _ _ => x.tup) h1) (Rs.le x xs _ h2)
  | .lst xs, _, h => by
    cases h with
    | lst h1 n h2 => exact .lst (x.lst h1 n).1 (x.lst h1 n).2 (Rs.le x xs _ h2)
  | .src xs, _, h => by
    cases h with
    | src h1 h2 =>
      refine .src ?_ (Rs.le x xs _ h2)
      rcases h1 with ⟨o, h1⟩ | h1
      · exact .inl ⟨o, x.frz h1⟩
      · exact .inr h1
  | .dct xs, _, h => by
    cases h with
    | dct h1 n h2 => exact .dct (x.dct h1 n).1 (x.dct h1 n).2 (RK.le x xs _ h2)
  | .obj i, _, h => by
    cases h with
    | obj h1 => exact .obj (x.get h1)
theorem Rs.le (x : Le K m L H m' L' H') : ∀ (ds : List D) (vs : List V), Rs K m L H ds vs → Rs K m' L' H' ds vs
  | [], _, h => by cases h; exact .nil
  | d :: ds, _, h => by
    cases h with
    | cons h1 h2 => exact .cons (R.le x d _ h1) (Rs.le x ds _ h2)
theorem RK.le (x : Le K m L H m' L' H') : ∀ (ds : List (D × D)) (vs : List (Key × V)), RK K m L H ds vs → RK K m' L' H' ds vs
  | [], _, h => by cases h; exact .nil
  | (d, e) :: ds, _, h => by
    cases h with
    | cons h0 h1 h2 => exact .cons h0 (R.le x e _ h1) (RK.le x ds _ h2)
end
theorem RO.le (x : Le K m L H m' L' H') {o : O} {a : Addr} (h : RO K T m L H o a) (k : H' a = H a) : RO K T m' L' H' o a := by
  cases h with
  | lst h1 h2 => exact .lst (k.trans h1) (Rs.le x _ _ h2)
  | dct h1 h2 => exact .dct (k.trans h1) (RK.le x _ _ h2)
  | ins h1 h2 h3 => exact .ins (k.trans h1) (Rs.le x _ _ h2) h3
  | dead => exact .dead

/-- a live object is a list, a dict or an instance, tracked -/
theorem RS.live (r : RS K T P m S H) {a : Addr} (l : Live m S a) : (∃ vs, H a = some (.lst vs)) ∨ (∃ vs, H a = some (.dK vs)) ∨ ∃ C dx fs, H a = some (.ins C dx fs) := by
  obtain ⟨i, o, e1, e2, e3⟩ := l
  cases r.at_ i a o e1 e2 with
  | lst h _ => exact .inl ⟨_, h⟩
  | dct h _ => exact .inr (.inl ⟨_, h⟩)
  | ins h _ _ => exact .inr (.inr ⟨_, _, _, h⟩)
  | dead => exact (e3 rfl).elim
theorem RS.notTup (r : RS K T P m S H) {a : Addr} {xs : List V} (h : Rd H a (.tup xs)) : ¬ Live m S a := fun l => by
  rcases r.live l with ⟨_, e⟩ | ⟨_, e⟩ | ⟨_, _, _, e⟩ <;> rcases h with h | ⟨_, h⟩ <;> rw [e] at h <;> cases h
theorem rd_keep {b : Addr} {u : HO} (k : ∀ o, H b = some o → H' b = some o) (h : Rd H b u) : Rd H' b u := by
  rcases h with h | ⟨o, h⟩
  · exact .inl (k _ h)
  · exact .inr ⟨o, k _ h⟩
theorem Ext.notLv (x : Ext m S H m' S' H') {b : Addr} {o : HO} (h : H b = some o) (n : ¬ Lv P m S b) : ¬ Lv P m' S' b := fun l =>
  l.elim (fun p => n (.inl p)) (x.notLive h fun q => n (.inr q))
theorem Ext.toLe (x : Ext m S H m' S' H') (r : RS K T P m S H) : Le K m (Lv P m S) H m' (Lv P m' S') H' where
  get := x.get
  tup := fun {b xs} h => rd_keep (fun o e => x.keep b o e (r.notTup h)) h
  lst := fun {b xs} h n => ⟨x.keep b _ h fun l => n (.inr l), x.notLv h n⟩
  frz := fun {b o u} h => x.keep b _ h fun l => by
    rcases r.live l with ⟨_, e⟩ | ⟨_, e⟩ | ⟨_, _, _, e⟩ <;> rw [h] at e <;> cases e
  dct := fun {b xs} h n => ⟨x.keep b _ h fun l => n (.inr l), x.notLv h n⟩
theorem R.ext (x : Ext m S H m' S' H') (r : RS K T P m S H) {d : D} {v : V} (h : R K m (Lv P m S) H d v) : R K m' (Lv P m' S') H' d v := R.le (x.toLe r) d v h
theorem Rs.ext (x : Ext m S H m' S' H') (r : RS K T P m S H) {d : List D} {v : List V} (h : Rs K m (Lv P m S) H d v) : Rs K m' (Lv P m' S') H' d v := Rs.le (x.toLe r) d v h
theorem RK.ext (x : Ext m S H m' S' H') (r : RS K T P m S H) {d : List (D × D)} {v : List (Key × V)} (h : RK K m (Lv P m S) H d v) : RK K m' (Lv P m' S') H' d v := RK.le (x.toLe r) d v h
theorem Rs.length {ds : List D} : ∀ {vs : List V}, Rs K m L H ds vs → ds.length = vs.length := by
  induction ds with
  | nil => intro vs h; cases h; rfl
  | cons d ds ih => intro vs h; cases h with | cons h1 h2 => simp [ih h2]
theorem RK.length {ds : List (D × D)} : ∀ {vs : List (Key × V)}, RK K m L H ds vs → ds.length = vs.length := by
  induction ds with
  | nil => intro vs h; cases h; rfl
  | cons d ds ih => intro vs h; cases h with | cons h0 h1 h2 => simp [ih h2]
theorem Rs.get {ds : List D} : ∀ {vs : List V} {i : Nat} {v : V}, Rs K m L H ds vs → vs[i]? = some v → ∃ d, ds[i]? = some d ∧ R K m L H d v := by
  induction ds with
  | nil => intro vs i v h e; cases h; simp at e
  | cons d ds ih =>
    intro vs i v h e
    cases h with
    | cons h1 h2 =>
      cases i with
      | zero => simp at e; subst e; exact ⟨d, rfl, h1⟩
      | succ i => exact ih (i := i) h2 (by simpa using e)
theorem Rs.getD {ds : List D} : ∀ {vs : List V} {i : Nat} {d : D}, Rs K m L H ds vs → ds[i]? = some d → ∃ v, vs[i]? = some v ∧ R K m L H d v := by
  induction ds with
  | nil => intro vs i v h e; simp at e
  | cons d ds ih =>
    intro vs i v h e
    cases h with
    | cons h1 h2 =>
      cases i with
      | zero => simp at e; subst e; exact ⟨_, rfl, h1⟩
      | succ i => exact ih (i := i) h2 (by simpa using e)
theorem Rs.append {ds es : List D} : ∀ {vs ws : List V}, Rs K m L H ds vs → Rs K m L H es ws → Rs K m L H (ds ++ es) (vs ++ ws) := by
  induction ds with
  | nil => intro vs ws h g; cases h; exact g
  | cons d ds ih => intro vs ws h g; cases h with | cons h1 h2 => exact .cons h1 (ih h2 g)
theorem Rs.snoc {ds : List D} {d : D} {vs : List V} {v : V} (h : Rs K m L H ds vs) (g : R K m L H d v) : Rs K m L H (ds ++ [d]) (vs ++ [v]) := h.append (.cons g .nil)
theorem Rs.drop {ds : List D} : ∀ {vs : List V} (n : Nat), Rs K m L H ds vs → Rs K m L H (ds.drop n) (vs.drop n) := by
  induction ds with
  | nil => intro vs n h; cases h; cases n <;> exact .nil
  | cons d ds ih =>
    intro vs n h
    cases h with
    | cons h1 h2 =>
      cases n with
      | zero => exact .cons h1 h2
      | succ n => exact ih n h2
theorem Rs.take {ds : List D} : ∀ {vs : List V} (n : Nat), Rs K m L H ds vs → Rs K m L H (ds.take n) (vs.take n) := by
  induction ds with
  | nil => intro vs n h; cases h; cases n <;> exact .nil
  | cons d ds ih =>
    intro vs n h
    cases h with
    | cons h1 h2 =>
      cases n with
      | zero => exact .nil
      | succ n => exact .cons h1 (ih n h2)
theorem Rs.set {ds : List D} {d : D} {v : V} (g : R K m L H d v) : ∀ {vs : List V} (n : Nat), Rs K m L H ds vs → Rs K m L H (ds.set n d) (vs.set n v) := by
  induction ds with
  | nil => intro vs n h; cases h; exact .nil
  | cons e ds ih =>
    intro vs n h
    cases h with
    | cons h1 h2 =>
      cases n with
      | zero => exact .cons g h2
      | succ n => exact .cons h1 (ih n h2)
theorem Rs.erase {ds : List D} : ∀ {vs : List V} (n : Nat), Rs K m L H ds vs → Rs K m L H (ds.eraseIdx n) (vs.eraseIdx n) := by
  induction ds with
  | nil => intro vs n h; cases h; exact .nil
  | cons e ds ih =>
    intro vs n h
    cases h with
    | cons h1 h2 =>
      cases n with
      | zero => exact h2
      | succ n => exact .cons h1 (ih n h2)
theorem Rs.reverse {ds : List D} : ∀ {vs : List V}, Rs K m L H ds vs → Rs K m L H ds.reverse vs.reverse := by
  induction ds with
  | nil => intro vs h; cases h; exact .nil
  | cons e ds ih =>
    intro vs h
    cases h with
    | cons h1 h2 => rw [List.reverse_cons, List.reverse_cons]; exact (ih h2).snoc h1
theorem Rs.rep {ds : List D} {vs : List V} (h : Rs K m L H ds vs) : ∀ k : Nat, Rs K m L H (List.replicate k ds).flatten (List.replicate k vs).flatten
  | 0 => .nil
  | k + 1 => by
    rw [List.replicate_succ, List.replicate_succ, List.flatten_cons, List.flatten_cons]
    exact h.append (Rs.rep h k)

/-! ### the heap goes on -/
theorem ext_grow (k : ∀ b o, H b = some o → H' b = some o) : Ext m S H m S H' :=
  ⟨⟨[], by simp⟩, fun b u e _ => k b u e, fun b u e => ⟨u, k b u e⟩, fun i o _ e n => ⟨o, e, n⟩, fun i a hi e => by
    rw [List.getElem?_eq_none hi] at e; cases e⟩
theorem grow_upd {p : Addr} {o : HO} (hp : H p = none) : ∀ b u, H b = some u → (upd H p o) b = some u := fun b u e => by rw [upd_ne (ne_of_none e hp)]; exact e
theorem ext_upd {p : Addr} {o : HO} (hp : H p = none) : Ext m S H m S (upd H p o) := ext_grow (grow_upd hp)
theorem RS.ext0 (r : RS K T P m S H) (k : ∀ b o, H b = some o → H' b = some o) : RS K T P m S H' := by
  have x : Ext m S H m S H' := ext_grow k
  refine ⟨r.len, fun i a o e1 e2 => ?_, r.inj, fun a p => ?_, r.disj, fun i a e => ?_⟩
  · have q := r.at_ i a o e1 e2
    cases q with
    | lst h1 h2 => exact .lst (k _ _ h1) (Rs.ext x r h2)
    | dct h1 h2 => exact .dct (k _ _ h1) (RK.ext x r h2)
    | ins h1 h2 h3 => exact .ins (k _ _ h1) (Rs.ext x r h2) h3
    | dead => exact .dead
  · obtain ⟨xs, e, n⟩ := r.prot a p
    exact ⟨xs, k _ _ e, n⟩
  · obtain ⟨o, e⟩ := r.trk i a e
    exact ⟨o, k _ _ e⟩
theorem RS.upd (r : RS K T P m S H) {p : Addr} {o : HO} (hp : H p = none) : RS K T P m S (upd H p o) := r.ext0 (grow_upd hp)
theorem RS.fresh (r : RS K T P m S H) {p : Addr} (hp : H p = none) : ¬ Lv P m S p := fun l => by
  rcases l with l | l
  · obtain ⟨_, e, _⟩ := r.prot p l
    rw [hp] at e; cases e
  · rcases r.live l with ⟨_, e⟩ | ⟨_, e⟩ | ⟨_, _, _, e⟩ <;> rw [hp] at e <;> cases e

/-- an object is changed -/
theorem RS.write (r : RS K T P m S H) {i : Nat} {a : Addr} {o o' : O} {u : HO} (hi : m[i]? = some a) (ho : S[i]? = some o) (hd : o ≠ .dead)
    (new : Ext m S H m (S.set i o') (L2.upd H a u) → Le K m (Lv P m S) H m (Lv P m (S.set i o')) (L2.upd H a u) → RO K T m (Lv P m (S.set i o')) (L2.upd H a u) o' a) :
    Ext m S H m (S.set i o') (L2.upd H a u) ∧ RS K T P m (S.set i o') (L2.upd H a u) := by
  have hl : Live m S a := ⟨i, o, hi, ho, hd⟩
  have hil : i < S.length := (List.getElem?_eq_some_iff.mp ho).1
  have x : Ext m S H m (S.set i o') (L2.upd H a u) := by
    refine ⟨⟨[], by simp⟩, fun b w e n => ?_, fun b w e => ?_, fun j w hj e n => ?_, fun j b hj e => ?_⟩
    · rw [upd_ne (fun z => by rw [z] at n; exact n hl)]; exact e
    · by_cases hb : b = a
      · subst hb; exact ⟨_, upd_same⟩
      · exact ⟨w, by rw [upd_ne hb]; exact e⟩
    · by_cases hji : j = i
      · subst hji; exact ⟨o, ho, hd⟩
      · rw [List.getElem?_set_ne (Ne.symm hji)] at e
        exact ⟨w, e, n⟩
    · rw [List.getElem?_eq_none hj] at e; cases e
  have l := x.toLe r
  refine ⟨x, ⟨by rw [List.length_set]; exact r.len, fun j b w e1 e2 => ?_, fun j k b w z e1 e2 e3 e4 n1 n2 => ?_, fun b p => ?_, r.disj, fun j b e => ?_⟩⟩
  · by_cases hji : j = i
    · subst hji
      rw [List.getElem?_set_self hil] at e2
      rw [hi] at e1
      cases e1; cases e2
      exact new x l
    · rw [List.getElem?_set_ne (Ne.symm hji)] at e2
      by_cases hw : w = .dead
      · subst hw; exact .dead
      · have hb : b ≠ a := fun z => by
          subst z
          exact hji (r.inj j i b w o e1 hi e2 ho hw hd)
        exact (r.at_ j b w e1 e2).le l (upd_ne hb)
  · have up : ∀ {j : Nat} {w : O}, (S.set i o')[j]? = some w → w ≠ .dead → ∃ w', S[j]? = some w' ∧ w' ≠ .dead := fun {j w} e n => by
      by_cases hji : j = i
      · subst hji; exact ⟨o, ho, hd⟩
      · rw [List.getElem?_set_ne (Ne.symm hji)] at e
        exact ⟨w, e, n⟩
    obtain ⟨w', f1, g1⟩ := up e3 n1
    obtain ⟨z', f2, g2⟩ := up e4 n2
    exact r.inj j k b w' z' e1 e2 f1 f2 g1 g2
  · have hb : b ≠ a := fun z => r.disj i a hi (z ▸ p)
    obtain ⟨xs, e, n⟩ := r.prot b p
    exact ⟨xs, by rw [upd_ne hb]; exact e, n⟩
  · obtain ⟨w, e⟩ := r.trk j b e
    exact x.there b w e

/-- a new object: p may have been protected while it was made -/
theorem RS.new (r : RS K T P' m S H) {p : Addr} {o : O} (hP : ∀ a, P a → P' a) (hPp : ¬ P p) (hm : ∀ (i : Nat) (a : Addr), m[i]? = some a → a ≠ p) (hP' : ∀ a, P' a → P a ∨ a = p)
    (new : (∀ (d : List D) (v : List V), Rs K m (Lv P' m S) H d v → Rs K (m ++ [p]) (Lv P (m ++ [p]) (S ++ [o])) H d v) → (∀ (d : List (D × D)) (v : List (Key × V)), RK K m (Lv P' m S) H d v → RK K (m ++ [p]) (Lv P (m ++ [p]) (S ++ [o])) H d v) → RO K T (m ++ [p]) (Lv P (m ++ [p]) (S ++ [o])) H o p)
    (hf : P' p) (ht : ∃ u, H p = some u) :
    RS K T P (m ++ [p]) (S ++ [o]) H := by
  have hlen := r.len
  have lv : ∀ {b : Addr}, ¬ Lv P' m S b → b ≠ p → ¬ Lv P (m ++ [p]) (S ++ [o]) b := fun {b} n hb l => by
    rcases l with l | ⟨j, w, e1, e2, e3⟩
    · exact n (.inl (hP _ l))
    · by_cases hj : j < m.length
      · rw [List.getElem?_append_left hj] at e1
        rw [List.getElem?_append_left (by omega)] at e2
        exact n (.inr ⟨j, w, e1, e2, e3⟩)
      · have hj1 : j < (m ++ [p]).length := (List.getElem?_eq_some_iff.mp e1).1
        have hj2 : j = m.length := by simp at hj1; omega
        subst hj2
        rw [List.getElem?_append_right (Nat.le_refl _), Nat.sub_self] at e1
        cases e1
        exact hb rfl
  have ne : ∀ {b : Addr}, ¬ Lv P' m S b → b ≠ p := fun {b} n z => n (.inl (z ▸ hf))
  have l : Le K m (Lv P' m S) H (m ++ [p]) (Lv P (m ++ [p]) (S ++ [o])) H :=
    ⟨fun e => get_pre e, fun e => e, fun e n => ⟨e, lv n (ne n)⟩, fun e => e, fun e n => ⟨e, lv n (ne n)⟩⟩
  refine ⟨by simp [hlen], fun j b w e1 e2 => ?_, fun j j2 b w z e1 e2 e3 e4 n1 n2 => ?_, fun b q => r.prot b (hP b q), fun j b e q => ?_, fun j b e => ?_⟩
  · by_cases hj : j < m.length
    · rw [List.getElem?_append_left hj] at e1
      rw [List.getElem?_append_left (by omega)] at e2
      exact (r.at_ j b w e1 e2).le l rfl
    · have hj1 : j < (m ++ [p]).length := (List.getElem?_eq_some_iff.mp e1).1
      have hj2 : j = m.length := by simp at hj1; omega
      subst hj2
      rw [List.getElem?_append_right (Nat.le_refl _), Nat.sub_self] at e1
      rw [hlen, List.getElem?_append_right (Nat.le_refl _), Nat.sub_self] at e2
      cases e1; cases e2
      exact new (Rs.le l) (RK.le l)
  · have cases_ : ∀ {j : Nat} {w : O}, (m ++ [p])[j]? = some b → (S ++ [o])[j]? = some w → (j < m.length ∧ m[j]? = some b ∧ S[j]? = some w) ∨ (j = m.length ∧ b = p) := fun {j w} e f => by
      by_cases hj : j < m.length
      · rw [List.getElem?_append_left hj] at e
        rw [List.getElem?_append_left (by omega)] at f
        exact .inl ⟨hj, e, f⟩
      · have hj1 : j < (m ++ [p]).length := (List.getElem?_eq_some_iff.mp e).1
        have hj2 : j = m.length := by simp at hj1; omega
        subst hj2
        rw [List.getElem?_append_right (Nat.le_refl _), Nat.sub_self] at e
        cases e
        exact .inr ⟨rfl, rfl⟩
    rcases cases_ e1 e3 with ⟨h1, h2, h3⟩ | ⟨h1, h2⟩ <;> rcases cases_ e2 e4 with ⟨g1, g2, g3⟩ | ⟨g1, g2⟩
    · exact r.inj j j2 b w z h2 g2 h3 g3 n1 n2
    · exact (hm _ _ h2 g2).elim
    · exact (hm _ _ g2 h2).elim
    · rw [h1, g1]
  · by_cases hj : j < m.length
    · rw [List.getElem?_append_left hj] at e
      exact r.disj j b e (hP b q)
    · have hj1 : j < (m ++ [p]).length := (List.getElem?_eq_some_iff.mp e).1
      have hj2 : j = m.length := by simp at hj1; omega
      subst hj2
      rw [List.getElem?_append_right (Nat.le_refl _), Nat.sub_self] at e
      cases e
      exact hPp q
  · by_cases hj : j < m.length
    · rw [List.getElem?_append_left hj] at e
      exact r.trk j b e
    · have hj1 : j < (m ++ [p]).length := (List.getElem?_eq_some_iff.mp e).1
      have hj2 : j = m.length := by simp at hj1; omega
      subst hj2
      rw [List.getElem?_append_right (Nat.le_refl _), Nat.sub_self] at e
      cases e
      exact ht
theorem ext_new {p : Addr} {o : O} (x : Ext m S H m' S' H') (hp : H p = none) (hl : m'.length = S'.length) : Ext m S H (m' ++ [p]) (S' ++ [o]) H' := by
  refine ⟨?_, x.keep, x.there, fun j w hj e n => ?_, fun j b hj e => ?_⟩
  · obtain ⟨t, h⟩ := x.pre
    exact ⟨t ++ [p], by rw [h, List.append_assoc]⟩
  · have := x.le
    rw [List.getElem?_append_left (by omega)] at e
    exact x.dead j w hj e n
  · by_cases hj1 : j < m'.length
    · rw [List.getElem?_append_left hj1] at e
      exact x.fresh j b hj e
    · have hj2 : j < (m' ++ [p]).length := (List.getElem?_eq_some_iff.mp e).1
      have hj3 : j = m'.length := by simp at hj2; omega
      subst hj3
      rw [List.getElem?_append_right (Nat.le_refl _), Nat.sub_self] at e
      cases e
      exact hp

/-- a protected list beside -/
def PP (P : Addr → Prop) (p : Addr) (a : Addr) : Prop := P a ∨ a = p
theorem RS.prot1 (r : RS K T P m S H) {p : Addr} {u : HO} (hp : H p = none) (hu : Mut (some u)) : RS K T (PP P p) m S (L2.upd H p u) ∧ Le K m (Lv P m S) H m (Lv (PP P p) m S) (L2.upd H p u) := by
  have ne : ∀ {b : Addr} {u : HO}, H b = some u → b ≠ p := fun {b u} e z => by
    rw [z, hp] at e; cases e
  have lv : ∀ {b : Addr}, ¬ Lv P m S b → b ≠ p → ¬ Lv (PP P p) m S b := fun {b} n hb l => by
    rcases l with (l | l) | l
    · exact n (.inl l)
    · exact hb l
    · exact n (.inr l)
  have l : Le K m (Lv P m S) H m (Lv (PP P p) m S) (L2.upd H p u) :=
    ⟨fun e => e, fun e => rd_keep (grow_upd hp _) e, fun e n => ⟨grow_upd hp _ _ e, lv n (ne e)⟩, fun e => grow_upd hp _ _ e, fun e n => ⟨grow_upd hp _ _ e, lv n (ne e)⟩⟩
  have hm : ∀ (i : Nat) (a : Addr), m[i]? = some a → a ≠ p := fun i a e1 z => by
    subst z
    obtain ⟨o, e⟩ := r.trk i a e1
    rw [hp] at e; cases e
  refine ⟨⟨r.len, fun i a o e1 e2 => (r.at_ i a o e1 e2).le l (upd_ne (hm i a e1)), r.inj, fun a q => ?_, fun i a e q => ?_, fun i a e => ?_⟩, l⟩
  · rcases q with q | q
    · obtain ⟨ys, e, n⟩ := r.prot a q
      exact ⟨ys, grow_upd hp _ _ e, n⟩
    · subst q; exact ⟨u, upd_same, hu⟩
  · rcases q with q | q
    · exact r.disj i a e q
    · exact hm i a e q
  · obtain ⟨o, e⟩ := r.trk i a e
    exact ⟨o, grow_upd hp _ _ e⟩
theorem Rs.of {ds : List D} : ∀ {vs : List V}, Rs K m L H ds vs → (∀ d v, R K m L H d v → R K m' L' H' d v) → Rs K m' L' H' ds vs := by
  induction ds with
  | nil => intro vs h k; cases h; exact .nil
  | cons d ds ih => intro vs h k; cases h with | cons h1 h2 => exact .cons (k _ _ h1) (ih h2 k)
/-- protection left off -/
theorem RS.unprot (r : RS K T P' m S H) (hP : ∀ a, P a → P' a) : RS K T P m S H ∧ Le K m (Lv P' m S) H m (Lv P m S) H := by
  have lv : ∀ {b : Addr}, ¬ Lv P' m S b → ¬ Lv P m S b := fun {b} n l => n (l.elim (fun q => .inl (hP _ q)) .inr)
  have l : Le K m (Lv P' m S) H m (Lv P m S) H := ⟨fun e => e, fun e => e, fun e n => ⟨e, lv n⟩, fun e => e, fun e n => ⟨e, lv n⟩⟩
  exact ⟨⟨r.len, fun i a o e1 e2 => (r.at_ i a o e1 e2).le l rfl, r.inj, fun a q => r.prot a (hP a q), fun i a e q => r.disj i a e (hP a q), r.trk⟩, l⟩
/-- an object is given up: its list stands for ever -/
theorem RS.free (r : RS K T P m S H) {i : Nat} {o : O} (ho : S[i]? = some o) (hd : o ≠ .dead) : Ext m S H m (S.set i .dead) H ∧ RS K T P m (S.set i .dead) H := by
  have hil : i < S.length := (List.getElem?_eq_some_iff.mp ho).1
  have up : ∀ {j : Nat} {w : O}, (S.set i .dead)[j]? = some w → w ≠ .dead → S[j]? = some w ∧ j ≠ i := fun {j w} e n => by
    by_cases hji : j = i
    · subst hji
      rw [List.getElem?_set_self hil] at e
      cases e; exact (n rfl).elim
    · rw [List.getElem?_set_ne (Ne.symm hji)] at e
      exact ⟨e, hji⟩
  have x : Ext m S H m (S.set i .dead) H :=
    ⟨⟨[], by simp⟩, fun _ _ e _ => e, fun _ w e => ⟨w, e⟩, fun j w _ e n => ⟨w, (up e n).1, n⟩, fun j b hj e => by
      rw [List.getElem?_eq_none hj] at e; cases e⟩
  refine ⟨x, ⟨by rw [List.length_set]; exact r.len, fun j b w e1 e2 => ?_, fun j k b w z e1 e2 e3 e4 n1 n2 => r.inj j k b w z e1 e2 (up e3 n1).1 (up e4 n2).1 n1 n2, r.prot, r.disj, r.trk⟩⟩
  by_cases hw : w = .dead
  · subst hw; exact .dead
  · exact (r.at_ j b w e1 (up e2 hw).1).le (x.toLe r) rfl
theorem free_notLv (r : RS K T P m S H) {i : Nat} {a : Addr} {o : O} (hi : m[i]? = some a) (ho : S[i]? = some o) (hd : o ≠ .dead) : ¬ Lv P m (S.set i .dead) a := by
  have hil : i < S.length := (List.getElem?_eq_some_iff.mp ho).1
  rintro (q | ⟨j, w, e1, e2, e3⟩)
  · exact r.disj i a hi q
  by_cases hji : j = i
  · subst hji
    rw [List.getElem?_set_self hil] at e2
    cases e2; exact e3 rfl
  · rw [List.getElem?_set_ne (Ne.symm hji)] at e2
    exact hji (r.inj j i a w o e1 hi e2 ho e3 hd)
end
end Sm
/-! ## Sm1 -/
/-! Sm1: results, judgements, names, operators, tests. -/
namespace Sm
open PySem PySem.Spec PyProof.Rows L2

inductive Res (α : Type) where
  | ok (a : α) (S : Store) | exc (c : Nat) (S : Store) | stuck
abbrev Ev := List (Option D)
abbrev EM := Ev → Store → Res D
abbrev BM := Ev → Store → Res Bool
abbrev AM := Ev → Store → Res (List D)

def Res.bind {α β : Type} (r : Res α) (k : α → Store → Res β) : Res β :=
  match r with
  | .ok a S => k a S
  | .exc c S => .exc c S
  | .stuck => .stuck

def Meets {α : Type} (K : PySem.W.Frag) (T : Tab) (P : Addr → Prop) (m : List Addr) (S : Store) (H : Hp) (W : Nat → Hp → Prop) (G : List Addr → Store → Hp → α → Prop) : Res α → Prop
  | .ok a S' => ∀ m' H', Ext m S H m' S' H' → RS K T P m' S' H' → G m' S' H' a
  | .exc c S' => ∀ m' H', Ext m S H m' S' H' → RS K T P m' S' H' → W c H'
  | .stuck => False
section
variable {α β : Type} {K : PySem.W.Frag} {T : Tab} {P : Addr → Prop} {m m1 : List Addr} {S S1 : Store} {H H1 : Hp} {W : Nat → Hp → Prop} {G : List Addr → Store → Hp → α → Prop} {r : Res α}
theorem Meets.shift (x : Ext m S H m1 S1 H1) (h : Meets K T P m S H W G r) : Meets K T P m1 S1 H1 W G r := by
  cases r with
  | ok a S' => exact fun m' H' y rs => h m' H' (x.trans y) rs
  | exc c S' => exact fun m' H' y rs => h m' H' (x.trans y) rs
  | stuck => exact h
theorem Meets.imp {G' : List Addr → Store → Hp → α → Prop} (k : ∀ m' S' H' a, Ext m S H m' S' H' → RS K T P m' S' H' → G m' S' H' a → G' m' S' H' a) (h : Meets K T P m S H W G r) : Meets K T P m S H W G' r := by
  cases r with
  | ok a S' => exact fun m' H' y rs => k _ _ _ _ y rs (h m' H' y rs)
  | exc c S' => exact h
  | stuck => exact h
theorem Meets.bind {k : α → Store → Res β} {G : List Addr → Store → Hp → β → Prop} (h : Meets K T P m S H W G (r.bind k)) : Meets K T P m S H W (fun m1 S1 H1 a => Meets K T P m1 S1 H1 W G (k a S1)) r := by
  cases r with
  | ok a S' => exact fun m' H' y rs => Meets.shift y h
  | exc c S' => exact h
  | stuck => exact h
theorem Meets.here {a : α} (h : Meets K T P m S H W G (.ok a S)) (k : ∀ b o, H b = some o → H1 b = some o) (rs : RS K T P m S H) : G m S H1 a := h m H1 (ext_grow k) (rs.ext0 k)
theorem Meets.now {a : α} (h : Meets K T P m S H W G (.ok a S)) (rs : RS K T P m S H) : G m S H a := h m H .refl rs
end

def GD (K : PySem.W.Frag) (P : Addr → Prop) (Q : VK) : List Addr → Store → Hp → D → Prop := fun m S H d => ∀ v, R K m (Lv P m S) H d v → Q v H
def GB (Q : Bool → Hp → Prop) : List Addr → Store → Hp → Bool → Prop := fun _ _ H b => Q b H
def GA (K : PySem.W.Frag) (P : Addr → Prop) (Q : List V → Hp → Prop) : List Addr → Store → Hp → List D → Prop := fun m S H ds => ∀ vs, Rs K m (Lv P m S) H ds vs → Q vs H

/-- the slots -/
structure RE (K : PySem.W.Frag) (m : List Addr) (L : Addr → Prop) (H : Hp) (ρ : Ev) (σ : L2.St) : Prop where
  len : ρ.length = σ.length
  get : ∀ (i : Nat) (d : D), ρ[i]? = some (some d) → ∃ v, σ[i]? = some (some v) ∧ R K m L H d v
section
variable {K : PySem.W.Frag} {T : Tab} {P : Addr → Prop} {m m' : List Addr} {S S' : Store} {H H' : Hp} {ρ : Ev} {σ : L2.St}
theorem RE.ext (x : Ext m S H m' S' H') (r : RS K T P m S H) (e : RE K m (Lv P m S) H ρ σ) : RE K m' (Lv P m' S') H' ρ σ :=
  ⟨e.len, fun i d h => let ⟨v, h1, h2⟩ := e.get i d h; ⟨v, h1, R.ext x r h2⟩⟩
theorem RE.set {d : D} {v : V} (e : RE K m (Lv P m S) H ρ σ) (h : R K m (Lv P m S) H d v) (i : Nat) : RE K m (Lv P m S) H (ρ.set i (some d)) (σ.set i (some v)) := by
  refine ⟨by simp [e.len], fun j d' h' => ?_⟩
  by_cases hj : i = j
  · subst hj
    by_cases hi : i < ρ.length
    · rw [List.getElem?_set_self hi] at h'
      cases h'
      exact ⟨v, List.getElem?_set_self (by rw [← e.len]; exact hi), h⟩
    · rw [List.getElem?_eq_none (by simpa using hi)] at h'
      cases h'
  · rw [List.getElem?_set_ne hj] at h'
    obtain ⟨w, h1, h2⟩ := e.get j d' h'
    exact ⟨w, by rw [List.getElem?_set_ne hj]; exact h1, h2⟩
theorem RE.forget (e : RE K m (Lv P m S) H ρ σ) (i : Nat) (o : Option V) : RE K m (Lv P m S) H (ρ.set i none) (σ.set i o) := by
  refine ⟨by simp [e.len], fun j d' h' => ?_⟩
  by_cases hj : i = j
  · subst hj
    by_cases hi : i < ρ.length
    · rw [List.getElem?_set_self hi] at h'
      cases h'
    · rw [List.getElem?_eq_none (by simpa using hi)] at h'
      cases h'
  · rw [List.getElem?_set_ne hj] at h'
    obtain ⟨w, h1, h2⟩ := e.get j d' h'
    exact ⟨w, by rw [List.getElem?_set_ne hj]; exact h1, h2⟩
end

/-- what is wanted of an exception, at the slots σ -/
def WN (T : Tab) (W : WX) (σ : L2.St) : Nat → Hp → Prop := fun c H => W (.ref (T.exc c)) none σ H
def tE (K : PySem.W.Frag) (T : Tab) (W : WX) (f : EM) : TE := fun σ H Q => ∃ P m S ρ, RS K T P m S H ∧ RE K m (Lv P m S) H ρ σ ∧ Meets K T P m S H (WN T W σ) (GD K P Q) (f ρ S)
def tT (K : PySem.W.Frag) (T : Tab) (W : WX) (f : BM) : TT := fun σ H Q => ∃ P m S ρ, RS K T P m S H ∧ RE K m (Lv P m S) H ρ σ ∧ Meets K T P m S H (WN T W σ) (GB Q) (f ρ S)
def tA (K : PySem.W.Frag) (T : Tab) (W : WX) (f : AM) : TA := fun σ H Q => ∃ P m S ρ, RS K T P m S H ∧ RE K m (Lv P m S) H ρ σ ∧ Meets K T P m S H (WN T W σ) (GA K P Q) (f ρ S)
abbrev SE (X : Cx) (T : Tab) (W : WX) (e : Expr) (f : EM) : Prop := PE X e (tE X.K T W f)
abbrev ST (X : Cx) (T : Tab) (W : WX) (e : Expr) (f : BM) : Prop := PT X e (tT X.K T W f)
abbrev SW (X : Cx) (T : Tab) (W : WX) (e : Expr) (f : BM) : Prop := PW X e (tT X.K T W f)
abbrev SA (X : Cx) (T : Tab) (W : WX) (es : List Expr) (f : AM) : Prop := PA X es (tA X.K T W f)
theorem PE.mono {X : Cx} {e : Expr} {t t' : TE} (h : PE X e t) (k : ∀ σ H Q, t' σ H Q → t σ H Q) : PE X e t' := ⟨fun pins s σ H Q I q => h.run pins s σ H Q I (k σ H Q q)⟩
theorem PT.mono {X : Cx} {e : Expr} {t t' : TT} (h : PT X e t) (k : ∀ σ H Q, t' σ H Q → t σ H Q) : PT X e t' := ⟨fun pins s σ H Q I q => h.run pins s σ H Q I (k σ H Q q)⟩
theorem PW.mono {X : Cx} {e : Expr} {t t' : TT} (h : PW X e t) (k : ∀ σ H Q, t' σ H Q → t σ H Q) : PW X e t' := ⟨fun wh pins s σ H Q I q => h.run wh pins s σ H Q I (k σ H Q q)⟩
theorem PA.mono {X : Cx} {e : List Expr} {t t' : TA} (h : PA X e t) (k : ∀ σ H Q, t' σ H Q → t σ H Q) : PA X e t' := ⟨fun pos pins s σ H Q I q => h.run pos pins s σ H Q I (k σ H Q q)⟩
theorem PSs.mono {X : Cx} {e : List Stmt} {t t' : TS} (h : PSs X e t) (k : ∀ D σ H, t' D σ H → t D σ H) : PSs X e t' := ⟨fun pins s σ H D I q => h.run pins s σ H D I (k D σ H q)⟩
theorem PS.mono {X : Cx} {e : Stmt} {t t' : TS} (h : PS X e t) (k : ∀ D σ H, t' D σ H → t D σ H) : PS X e t' := ⟨fun pins s σ H D I q => h.run pins s σ H D I (k D σ H q)⟩

/-- the composition: evaluate f, then go on -/
theorem tE.use {K : PySem.W.Frag} {T : Tab} {W : WX} {P : Addr → Prop} {m : List Addr} {S : Store} {H : Hp} {ρ : Ev} {σ : L2.St} {f : EM} {α : Type} {G : List Addr → Store → Hp → α → Prop} {k : D → Store → Res α} {Q : VK} (rs : RS K T P m S H) (re : RE K m (Lv P m S) H ρ σ)
    (h : Meets K T P m S H (WN T W σ) G ((f ρ S).bind k))
    (go : ∀ m1 S1 H1 d v, Ext m S H m1 S1 H1 → RS K T P m1 S1 H1 → RE K m1 (Lv P m1 S1) H1 ρ σ → R K m1 (Lv P m1 S1) H1 d v → Meets K T P m1 S1 H1 (WN T W σ) G (k d S1) → Q v H1) : tE K T W f σ H Q :=
  ⟨P, m, S, ρ, rs, re, h.bind.imp fun m1 S1 H1 d x rs1 q v r => go m1 S1 H1 d v x rs1 (RE.ext x rs re) r q⟩
theorem tT.use {K : PySem.W.Frag} {T : Tab} {W : WX} {P : Addr → Prop} {m : List Addr} {S : Store} {H : Hp} {ρ : Ev} {σ : L2.St} {f : BM} {α : Type} {G : List Addr → Store → Hp → α → Prop} {k : Bool → Store → Res α} {Q : Bool → Hp → Prop} (rs : RS K T P m S H) (re : RE K m (Lv P m S) H ρ σ)
    (h : Meets K T P m S H (WN T W σ) G ((f ρ S).bind k))
    (go : ∀ m1 S1 H1 d, Ext m S H m1 S1 H1 → RS K T P m1 S1 H1 → RE K m1 (Lv P m1 S1) H1 ρ σ → Meets K T P m1 S1 H1 (WN T W σ) G (k d S1) → Q d H1) : tT K T W f σ H Q :=
  ⟨P, m, S, ρ, rs, re, h.bind.imp fun m1 S1 H1 d x rs1 q => go m1 S1 H1 d x rs1 (RE.ext x rs re) q⟩
theorem tA.use {K : PySem.W.Frag} {T : Tab} {W : WX} {P : Addr → Prop} {m : List Addr} {S : Store} {H : Hp} {ρ : Ev} {σ : L2.St} {f : AM} {α : Type} {G : List Addr → Store → Hp → α → Prop} {k : List D → Store → Res α} {Q : List V → Hp → Prop} (rs : RS K T P m S H) (re : RE K m (Lv P m S) H ρ σ)
    (h : Meets K T P m S H (WN T W σ) G ((f ρ S).bind k))
    (go : ∀ m1 S1 H1 d v, Ext m S H m1 S1 H1 → RS K T P m1 S1 H1 → RE K m1 (Lv P m1 S1) H1 ρ σ → Rs K m1 (Lv P m1 S1) H1 d v → Meets K T P m1 S1 H1 (WN T W σ) G (k d S1) → Q v H1) : tA K T W f σ H Q :=
  ⟨P, m, S, ρ, rs, re, h.bind.imp fun m1 S1 H1 d x rs1 q v r => go m1 S1 H1 d v x rs1 (RE.ext x rs re) r q⟩

/-! ### names, constants -/
@[simp] def eVar (i : Nat) : EM := fun ρ S => match ρ[i]? with
  | some (some d) => .ok d S
  | _ => .stuck
@[simp] def eC (d : D) : EM := fun _ S => .ok d S
section
variable {X : Cx} {T : Tab} {W : WX}
theorem s_var (i : Nat) {x : Str} {pos : Pos} (hN : X.N[i]? = some x := by rfl) (hv : Vis X.env.scope x := by first | exact Or.inl rfl | exact Or.inr (Or.inl rfl) | exact Or.inr (Or.inr rfl)) (hd : (x == ("__debug__" : Str)) = false := by decide)
    (hcd : (x == ("__classdict__" : Str)) = false := by decide) : SE X T W (.Name x pos) (eVar i) := by
  refine PE.mono (pe_var hN hv hd hcd) fun σ H Q ⟨P, m, S, ρ, rs, re, h⟩ => ?_
  unfold eVar at h
  cases e : ρ[i]? with
  | none => simp only [e] at h; exact h.elim
  | some o =>
    cases o with
    | none => simp only [e] at h; exact h.elim
    | some d =>
      simp only [e] at h
      obtain ⟨v, h1, h2⟩ := re.get i d e
      exact ⟨v, h1, h.now rs v h2⟩
/-- a constant: its value has one form -/
theorem s_const {e : Expr} {d : D} {v : V} (he : PE X e (tC v)) (r : ∀ K m L H, R K m L H d v) : SE X T W e (eC d) :=
  PE.mono he fun σ H Q ⟨P, m, S, ρ, rs, re, h⟩ => h.now rs v (r _ _ _ _)
theorem s_int {i : Int} {j pos} : SE X T W (.Constant (.int i) j pos) (eC (.int i)) := s_const pe_int fun _ _ _ _ => .int i
theorem s_bl {b : Bool} {j pos} : SE X T W (.Constant (.bool b) j pos) (eC (.bl b)) := s_const pe_bl fun _ _ _ _ => .bl b
theorem s_non {j pos} : SE X T W (.Constant .none j pos) (eC .non) := s_const pe_non fun _ _ _ _ => .non
theorem s_str {x : Str} {s : List Nat} {j pos} (hx : x = tx s) : SE X T W (.Constant (.str x) j pos) (eC (.str s)) := by
  subst hx
  exact s_const pe_str fun _ _ _ _ => .str s
theorem s_gint {x : Str} {i : Int} {t : Tok} {pos : Pos} (hg : Gl X x) (hm : X.mg x = some (.int i t)) (hd : (x == ("__debug__" : Str)) = false := by decide) : SE X T W (.Name x pos) (eC (.int i)) :=
  s_const (pe_glob (v := .int i) hg hm ⟨_, rfl⟩ hd) fun _ _ _ _ => .int i
theorem s_gstr {x z : Str} {s : List Nat} {t : Tok} {pos : Pos} (hg : Gl X x) (hm : X.mg x = some (.str z t)) (hz : z = tx s) (hd : (x == ("__debug__" : Str)) = false := by decide) : SE X T W (.Name x pos) (eC (.str s)) := by
  subst hz
  exact s_const (pe_glob (v := .str (tx s)) hg hm ⟨_, rfl⟩ hd) fun _ _ _ _ => .str s
/-- a tuple of texts of the module -/
def KT (K : PySem.W.Frag) (a : Addr) (xs : List V) : Prop :=
  ∃ (o : Obj) (its : Array Value) (n : Nat), K.lookup a = some o ∧ o.cls = .type "tuple" ∧ o.data = .seq its n ∧ its.size ≤ sizeLine ∧ Vals xs its.toList
theorem rs_strs {K : PySem.W.Frag} {m : List Addr} {L : Addr → Prop} {H : Hp} : ∀ ws : List (List Nat), Rs K m L H (ws.map D.str) (ws.map fun s => V.str (tx s))
  | [] => .nil
  | s :: ws => .cons (.str s) (rs_strs ws)
theorem s_gtup {x : Str} {ws : List (List Nat)} {a : Addr} {pos : Pos} (hg : Gl X x) (hm : X.mg x = some (.ref a)) (hk : KT X.K a (ws.map fun s => V.str (tx s))) (hd : (x == ("__debug__" : Str)) = false := by decide) : SE X T W (.Name x pos) (eC (.tup (ws.map D.str))) :=
  PE.mono (pe_glob (v := .ref a) hg hm rfl hd) fun σ H Q ⟨P, m, S, ρ, rs, re, h⟩ => h.now rs (.ref a) (.tup (.inr hk) (rs_strs ws))

/-! ### operators by values -/
/-- g answers as f does, on data; the store stays -/
def SOp (X : Cx) (T : Tab) (f : Value → Value → Sem Value) (g : Store → D → D → Option D) : Prop :=
  ∃ r : R2, OpR X f r ∧ ∀ P m S H x y dx dy d (Q : VK), RS X.K T P m S H → R X.K m (Lv P m S) H dx x → R X.K m (Lv P m S) H dy y → g S dx dy = some d →
    (∀ H' v, (∀ b o, H b = some o → H' b = some o) → R X.K m (Lv P m S) H' d v → Q v H') → r x y H Q
@[simp] def give (o : Option D) (S : Store) : Res D := match o with
  | some d => .ok d S
  | none => .stuck
@[simp] def eOp (g : Store → D → D → Option D) (f1 f2 : EM) : EM := fun ρ S => (f1 ρ S).bind fun x S1 => (f2 ρ S1).bind fun y S2 => give (g S2 x y) S2
theorem Meets.give {K : PySem.W.Frag} {T : Tab} {P : Addr → Prop} {m : List Addr} {S : Store} {H : Hp} {W : Nat → Hp → Prop} {Q : VK} {o : Option D} (rs : RS K T P m S H) (h : Meets K T P m S H W (GD K P Q) (give o S)) :
    ∃ d, o = some d ∧ ∀ H' v, (∀ b o, H b = some o → H' b = some o) → R K m (Lv P m S) H' d v → Q v H' := by
  cases o with
  | none => exact h.elim
  | some d => exact ⟨d, rfl, fun H' v k r => h.here k rs v r⟩
variable {a b : Expr} {f1 f2 f3 : EM} {pos : Pos}
theorem s_op {op : Operator} {g : Store → D → D → Option D} (ho : SOp X T (binaryOp op) g) (ha : SE X T W a f1) (hb : SE X T W b f2) : SE X T W (.BinOp a op b pos) (eOp g f1 f2) := by
  obtain ⟨r, hr, hg⟩ := ho
  refine PE.mono (pe_op hr ha hb) fun σ H Q ⟨P, m, S, ρ, rs, re, h⟩ => ?_
  refine tE.use rs re h fun m1 S1 H1 d v x1 rs1 re1 r1 h1 => ?_
  refine tE.use rs1 re1 h1 fun m2 S2 H2 e u x2 rs2 re2 r2 h2 => ?_
  obtain ⟨z, ez, q⟩ := h2.give rs2
  exact hg P m2 S2 H2 v u d e z Q rs2 (R.ext x2 rs1 r1) r2 ez q
theorem s_cmp {op : CmpOp} {g : Store → D → D → Option D} (ho : SOp X T (compareOp op) g) (ha : SE X T W a f1) (hb : SE X T W b f2) (hm : behindInMarks op b = false) : SE X T W (.Compare a [op] [b] pos) (eOp g f1 f2) := by
  obtain ⟨r, hr, hg⟩ := ho
  refine PE.mono (pe_cmpR hr ha hb hm) fun σ H Q ⟨P, m, S, ρ, rs, re, h⟩ => ?_
  refine tE.use rs re h fun m1 S1 H1 d v x1 rs1 re1 r1 h1 => ?_
  refine tE.use rs1 re1 h1 fun m2 S2 H2 e u x2 rs2 re2 r2 h2 => ?_
  obtain ⟨z, ez, q⟩ := h2.give rs2
  exact hg P m2 S2 H2 v u d e z Q rs2 (R.ext x2 rs1 r1) r2 ez q
/-- as a test: the value must be a bool -/
@[simp] def bOf (d : D) (S : Store) : Res Bool := match d with
  | .bl b => .ok b S
  | _ => .stuck
@[simp] def bE (f : EM) : BM := fun ρ S => (f ρ S).bind bOf
theorem Meets.bOf {K : PySem.W.Frag} {T : Tab} {P : Addr → Prop} {m : List Addr} {S : Store} {H : Hp} {W : Nat → Hp → Prop} {Q : Bool → Hp → Prop} {d : D} {v : V} (rs : RS K T P m S H) (r : R K m (Lv P m S) H d v) (h : Meets K T P m S H W (GB Q) (bOf d S)) : ∃ b, v = .bl b ∧ Q b H := by
  cases d with
  | bl b => cases r; exact ⟨b, rfl, h.now rs⟩
  | _ => exact h.elim
theorem t_val {e : Expr} {f : EM} (h : SE X T W e f) (he : ∀ whole, isTrue e X.env whole = (do let v ← whole; standAt e.pos; holding [v] (truthy v)) := by intro _; rfl) : ST X T W e (bE f) := by
  refine PT.mono (pt_val h he) fun σ H Q ⟨P, m, S, ρ, rs, re, h⟩ => ?_
  refine tE.use rs re h fun m1 S1 H1 d v x1 rs1 re1 r1 h1 => ?_
  exact h1.bOf rs1 r1
theorem t_cmp {op : CmpOp} {g : Store → D → D → Option D} (ho : SOp X T (compareOp op) g) (ha : SE X T W a f1) (hb : SE X T W b f2) (hm : behindInMarks op b = false) : ST X T W (.Compare a [op] [b] pos) (bE (eOp g f1 f2)) := by
  obtain ⟨r, hr, hg⟩ := ho
  refine PT.mono (pt_cmpR hr ha hb hm) fun σ H Q ⟨P, m, S, ρ, rs, re, h⟩ => ?_
  have h0 : Meets X.K T P m S H (WN T W σ) (GB Q) ((f1 ρ S).bind fun x S1 => ((f2 ρ S1).bind fun y S2 => give (g S2 x y) S2).bind bOf) := by
    have e : bE (eOp g f1 f2) ρ S = (f1 ρ S).bind fun x S1 => ((f2 ρ S1).bind fun y S2 => give (g S2 x y) S2).bind bOf := by
      simp only [bE, eOp]
      cases f1 ρ S <;> rfl
    rw [← e]; exact h
  refine tE.use rs re h0 fun m1 S1 H1 d v x1 rs1 re1 r1 h1 => ?_
  have h1' : Meets X.K T P m1 S1 H1 (WN T W σ) (GB Q) ((f2 ρ S1).bind fun y S2 => (give (g S2 d y) S2).bind bOf) := by
    have e : ((f2 ρ S1).bind fun y S2 => give (g S2 d y) S2).bind bOf = (f2 ρ S1).bind fun y S2 => (give (g S2 d y) S2).bind bOf := by
      cases f2 ρ S1 <;> rfl
    rw [← e]; exact h1
  refine tE.use rs1 re1 h1' fun m2 S2 H2 e u x2 rs2 re2 r2 h2 => ?_
  cases eg : g S2 d e with
  | none => rw [eg] at h2; exact h2.elim
  | some z =>
    rw [eg] at h2
    refine hg P m2 S2 H2 v u d e z _ rs2 (R.ext x2 rs1 r1) r2 eg fun H' w k rw' => ?_
    have h2' : Meets X.K T P m2 S2 H' (WN T W σ) (GB Q) (bOf z S2) := Meets.shift (ext_grow k) h2
    exact h2'.bOf (rs2.ext0 k) rw'

/-! ### and, or, not, if -/
@[simp] def bAnd (f g : BM) : BM := fun ρ S => (f ρ S).bind fun b S1 => if b = true then g ρ S1 else .ok false S1
@[simp] def bOr (f g : BM) : BM := fun ρ S => (f ρ S).bind fun b S1 => if b = true then .ok true S1 else g ρ S1
@[simp] def bNot (f : BM) : BM := fun ρ S => (f ρ S).bind fun b S1 => .ok (!b) S1
@[simp] def eIf (c : BM) (f g : EM) : EM := fun ρ S => (c ρ S).bind fun b S1 => if b = true then f ρ S1 else g ρ S1
@[simp] def eAnd (f g : EM) : EM := fun ρ S => ((f ρ S).bind bOf).bind fun b S1 => if b = true then g ρ S1 else .ok (.bl false) S1
@[simp] def eOr (f g : EM) : EM := fun ρ S => ((f ρ S).bind bOf).bind fun b S1 => if b = true then .ok (.bl true) S1 else g ρ S1
@[simp] def eNot (f : EM) : EM := fun ρ S => ((f ρ S).bind bOf).bind fun b S1 => .ok (.bl !b) S1
variable {c : Expr} {rest : List Expr} {g1 g2 : BM}
theorem w_and1 (ha : ST X T W a g1) : SW X T W (.BoolOp .And [a] pos) g1 := pw_and1 ha
theorem w_or1 (ha : ST X T W a g1) : SW X T W (.BoolOp .Or [a] pos) g1 := pw_or1 ha
theorem w_and (ha : ST X T W a g1) (hb : SW X T W (.BoolOp .And (b :: rest) pos) g2) : SW X T W (.BoolOp .And (a :: b :: rest) pos) (bAnd g1 g2) := by
  refine PW.mono (pw_and ha hb) fun σ H Q ⟨P, m, S, ρ, rs, re, h⟩ => ?_
  refine tT.use rs re h fun m1 S1 H1 d x1 rs1 re1 h1 => ?_
  cases d with
  | true => exact ⟨P, m1, S1, ρ, rs1, re1, h1⟩
  | false => exact h1.now rs1
theorem w_or (ha : ST X T W a g1) (hb : SW X T W (.BoolOp .Or (b :: rest) pos) g2) : SW X T W (.BoolOp .Or (a :: b :: rest) pos) (bOr g1 g2) := by
  refine PW.mono (pw_or ha hb) fun σ H Q ⟨P, m, S, ρ, rs, re, h⟩ => ?_
  refine tT.use rs re h fun m1 S1 H1 d x1 rs1 re1 h1 => ?_
  cases d with
  | false => exact ⟨P, m1, S1, ρ, rs1, re1, h1⟩
  | true => exact h1.now rs1
theorem t_w {e : Expr} {f : BM} (h : SW X T W e f) : ST X T W e f := h.pt
theorem t_not (ha : ST X T W a g1) : ST X T W (.UnaryOp .Not a pos) (bNot g1) := by
  refine PT.mono (pt_not ha) fun σ H Q ⟨P, m, S, ρ, rs, re, h⟩ => ?_
  exact tT.use rs re h fun m1 S1 H1 d x1 rs1 re1 h1 => h1.now rs1
theorem s_ifExp (hc : ST X T W c g1) (ha : SE X T W a f1) (hb : SE X T W b f2) : SE X T W (.IfExp c a b pos) (eIf g1 f1 f2) := by
  refine PE.mono (pe_ifExp hc ha hb) fun σ H Q ⟨P, m, S, ρ, rs, re, h⟩ => ?_
  refine tT.use rs re h fun m1 S1 H1 d x1 rs1 re1 h1 => ?_
  cases d with
  | true => exact ⟨P, m1, S1, ρ, rs1, re1, h1⟩
  | false => exact ⟨P, m1, S1, ρ, rs1, re1, h1⟩
theorem bind_assoc {α β γ : Type} (r : Res α) (k : α → Store → Res β) (l : β → Store → Res γ) : (r.bind k).bind l = r.bind fun a S => (k a S).bind l := by cases r <;> rfl
theorem s_one {op} (h : SE X T W a f1) : SE X T W (.BoolOp op [a] pos) f1 := pe_one h
theorem s_and (ha : SE X T W a f1) (hb : SE X T W (.BoolOp .And (b :: rest) pos) f2) : SE X T W (.BoolOp .And (a :: b :: rest) pos) (eAnd f1 f2) := by
  refine PE.mono (pe_and ha hb) fun σ H Q ⟨P, m, S, ρ, rs, re, h⟩ => ?_
  rw [show eAnd f1 f2 ρ S = (f1 ρ S).bind fun a S => (bOf a S).bind fun b S1 => if b = true then f2 ρ S1 else .ok (.bl false) S1 from bind_assoc _ _ _] at h
  refine tE.use rs re h fun m1 S1 H1 d v x1 rs1 re1 r1 h1 => ?_
  cases d with
  | bl k =>
    cases r1
    refine ⟨k, rfl, ?_⟩
    cases k with
    | true => exact ⟨P, m1, S1, ρ, rs1, re1, h1⟩
    | false => exact h1.now rs1 _ (.bl false)
  | _ => exact h1.elim
theorem s_or (ha : SE X T W a f1) (hb : SE X T W (.BoolOp .Or (b :: rest) pos) f2) : SE X T W (.BoolOp .Or (a :: b :: rest) pos) (eOr f1 f2) := by
  refine PE.mono (pe_or ha hb) fun σ H Q ⟨P, m, S, ρ, rs, re, h⟩ => ?_
  rw [show eOr f1 f2 ρ S = (f1 ρ S).bind fun a S => (bOf a S).bind fun b S1 => if b = true then .ok (.bl true) S1 else f2 ρ S1 from bind_assoc _ _ _] at h
  refine tE.use rs re h fun m1 S1 H1 d v x1 rs1 re1 r1 h1 => ?_
  cases d with
  | bl k =>
    cases r1
    refine ⟨k, rfl, ?_⟩
    cases k with
    | false => exact ⟨P, m1, S1, ρ, rs1, re1, h1⟩
    | true => exact h1.now rs1 _ (.bl true)
  | _ => exact h1.elim
theorem s_not (ha : SE X T W a f1) : SE X T W (.UnaryOp .Not a pos) (eNot f1) := by
  refine PE.mono (pe_not ha) fun σ H Q ⟨P, m, S, ρ, rs, re, h⟩ => ?_
  rw [show eNot f1 ρ S = (f1 ρ S).bind fun a S => (bOf a S).bind fun b S1 => .ok (.bl !b) S1 from bind_assoc _ _ _] at h
  refine tE.use rs re h fun m1 S1 H1 d v x1 rs1 re1 r1 h1 => ?_
  cases d with
  | bl k =>
    cases r1
    exact ⟨k, rfl, h1.now rs1 _ (.bl _)⟩
  | _ => exact h1.elim

/-! ### argument lists, tuples -/
@[simp] def aNil : AM := fun _ S => .ok [] S
@[simp] def aCons (f : EM) (g : AM) : AM := fun ρ S => (f ρ S).bind fun d S1 => (g ρ S1).bind fun ds S2 => .ok (d :: ds) S2
variable {es : List Expr} {fa : AM}
theorem a_nil : SA X T W [] aNil := PA.mono pa_nil fun σ H Q ⟨P, m, S, ρ, rs, re, h⟩ => h.now rs [] .nil
theorem a_cons {e : Expr} (ha : SE X T W e f1) (hr : SA X T W es fa) (hs : starEach (e :: es) X.env = (false, eval e X.env) :: starEach es X.env := by rfl) : SA X T W (e :: es) (aCons f1 fa) := by
  refine PA.mono (pa_cons ha hr hs) fun σ H Q ⟨P, m, S, ρ, rs, re, h⟩ => ?_
  refine tE.use rs re h fun m1 S1 H1 d v x1 rs1 re1 r1 h1 => ?_
  refine tA.use rs1 re1 h1 fun m2 S2 H2 ds vs x2 rs2 re2 r2 h2 => ?_
  exact h2.now rs2 (v :: vs) (.cons (R.ext x2 rs1 r1) r2)
@[simp] def big (n : Nat) : Bool := decide (n ≤ 16777216)
@[simp] def eTup (f : AM) : EM := fun ρ S => (f ρ S).bind fun ds S1 => if big ds.length = true then .ok (.tup ds) S1 else .stuck
theorem big_ok {n : Nat} (h : big n = true) : n ≤ sizeLine := by rw [sizeLine_eq]; exact of_decide_eq_true h
theorem s_tup {x1} (h : SA X T W es fa) : SE X T W (.Tuple es x1 pos) (eTup fa) := by
  refine PE.mono (pe_tup h) fun σ H Q ⟨P, m, S, ρ, rs, re, h⟩ => ?_
  refine tA.use rs re h fun m1 S1 H1 ds vs x1 rs1 re1 r1 h1 => ?_
  by_cases hb : big ds.length = true
  · rw [if_pos hb] at h1
    refine ⟨by rw [← r1.length]; exact big_ok hb, fun p hp => ?_⟩
    have x : Ext m1 S1 H1 m1 S1 (upd H1 p (.tup vs)) := ext_upd hp
    exact h1.here (grow_upd hp) rs1 _ (.tup (SqT.of upd_same) (Rs.ext x rs1 r1))
  · rw [if_neg hb] at h1; exact h1.elim
end
end Sm
/-! ## Sm2 -/
/-! Sm2: calls, fields, statements, loops, comprehensions, defs. -/
namespace Sm
open PySem PySem.Spec PyProof.Rows L2

/-! ### own defs -/
abbrev FM := List D → Store → Res D
/-- the promise: what f gives, laid in the heap -/
def spOf (K : PySem.W.Frag) (T : Tab) (f : FM) : Sp := fun vs H Q E => ∃ P m S ds, RS K T P m S H ∧ Rs K m (Lv P m S) H ds vs ∧ Meets K T P m S H (fun c H' => E (.ref (T.exc c)) none H') (GD K P Q) (f ds S)
@[simp] def eCall (f : FM) (a : AM) : EM := fun ρ S => (a ρ S).bind fun ds S1 => f ds S1
section
variable {X : Cx} {T : Tab} {W : WX} {k : Nat} {f C : Addr} {fd : FuncData} {ps : List Str} {x mth : Str} {p pos apos : Pos} {e o : Expr} {es : List Expr} {g : FM} {a : AM} {fo : EM}
theorem s_call (F : FnOk X.prog X.w X.K X.mg X.base (L2.CX X.prog X.w) k f fd ps (spOf X.K T g)) (hr : Room k X.A) (tk : Takes X W) (hg : Gl X x) (hm : X.mg x = some (.ref f)) (hk : PySem.W.keepIn X.K (.ref f) = true) (hb : Binds X.K fd ps [])
    (ha : SA X T W (e :: es) a) (hdb : (x == ("__debug__" : Str)) = false := by decide) (he : starEach (e :: es) X.env = (false, eval e X.env) :: starEach es X.env := by rfl) (hpl : (backTo pos (starEach es X.env)).any (·.1) = false := by rfl) :
    SE X T W (.Call (.Name x p) (e :: es) [] pos) (eCall g a) := by
  refine PE.mono (pe_callS F hr hg hm hk hb (fun σ => passAt tk σ) ha hdb he hpl) fun σ H Q ⟨P, m, S, ρ, rs, re, h⟩ => ?_
  exact tA.use rs re h fun m1 S1 H1 ds vs x1 rs1 re1 r1 h1 => ⟨P, m1, S1, ds, rs1, r1, h1⟩
theorem s_call0 (F : FnOk X.prog X.w X.K X.mg X.base (L2.CX X.prog X.w) k f fd ps (spOf X.K T g)) (hr : Room k X.A) (tk : Takes X W) (hg : Gl X x) (hm : X.mg x = some (.ref f)) (hk : PySem.W.keepIn X.K (.ref f) = true) (hb : Binds X.K fd ps [])
    (hdb : (x == ("__debug__" : Str)) = false := by decide) : SE X T W (.Call (.Name x p) [] [] pos) (eCall g aNil) := by
  refine ⟨fun pins s σ H Q I h => ?_⟩
  obtain ⟨P, m, S, ρ, rs, re, h⟩ := h
  refine wpAny_Call_Name_kw (ld_glob I hg hm ?_ hdb)
  exact PySem.W.callWith_K0 I.kIn hk (run_fnS (us := []) (vs := []) (E := WE W) F hr hb (passAt tk σ) I .nil ⟨P, m, S, [], rs, .nil, h⟩)

/-! ### classes of one's own -/
structure ClsF (K : PySem.W.Frag) (T : Tab) (c : Nat) (N : List Str) : Prop where
  nms : T.nms c = N
  cl : Cls K (T.cls c)
  na : ∀ f ∈ N, NoAttr K (T.cls c) f
  nd : N.Nodup
  few : N.length < 1000
theorem zip_get : ∀ {N : List Str} {vs : List V} {i : Nat} {nm : Str} {v : V}, N.Nodup → N[i]? = some nm → vs[i]? = some v → (N.zip vs).lookup nm = some v
  | [], _, _, _, _, _, h, _ => by simp at h
  | _ :: _, [], _, _, _, _, _, h => by simp at h
  | n :: N, w :: vs, 0, nm, v, _, h1, h2 => by
    simp at h1 h2; subst h1; subst h2; simp [List.lookup]
  | n :: N, w :: vs, i + 1, nm, v, nd, h1, h2 => by
    have h1' : N[i]? = some nm := by simpa using h1
    have hne : ¬ nm = n := fun e => (List.nodup_cons.mp nd).1 (e ▸ List.mem_of_getElem? h1')
    have hb : (nm == n) = false := by simpa using hne
    show (match nm == n with | true => some w | false => (N.zip vs).lookup nm) = some v
    rw [hb]
    exact zip_get (List.nodup_cons.mp nd).2 h1' (by simpa using h2)
theorem zip_none : ∀ {N : List Str} {vs : List V} {nm : Str}, nm ∉ N → (N.zip vs).lookup nm = none
  | [], _, _, _ => by simp
  | _ :: _, [], _, _ => by simp
  | n :: N, w :: vs, nm, h => by
    have hne : ¬ nm = n := fun e => h (by simp [e])
    have hb : (nm == n) = false := by simpa using hne
    show (match nm == n with | true => some w | false => (N.zip vs).lookup nm) = none
    rw [hb]
    exact zip_none (fun z => h (by simp [z]))
theorem zip_put : ∀ {N : List Str} {vs : List V} {i : Nat} {nm : Str} {v : V}, N.Nodup → N[i]? = some nm → i < vs.length → putF nm v (N.zip vs) = N.zip (vs.set i v)
  | [], _, _, _, _, _, h, _ => by simp at h
  | _ :: _, [], _, _, _, _, _, h => by simp at h
  | n :: N, w :: vs, 0, nm, v, _, h1, h2 => by
    simp at h1; subst h1
    show (if n = n then (n, v) :: N.zip vs else _) = _
    rw [if_pos rfl]; rfl
  | n :: N, w :: vs, i + 1, nm, v, nd, h1, h2 => by
    have h1' : N[i]? = some nm := by simpa using h1
    have hne : ¬ n = nm := fun e => (List.nodup_cons.mp nd).1 (e ▸ List.mem_of_getElem? h1')
    show (if n = nm then _ else (n, w) :: putF nm v (N.zip vs)) = _
    rw [if_neg hne, zip_put (List.nodup_cons.mp nd).2 h1' (by simpa using h2)]
    rfl
theorem zip_add : ∀ {N : List Str} {vs : List V} {nm : Str} {v : V}, N.Nodup → N[vs.length]? = some nm → putF nm v (N.zip vs) = N.zip (vs ++ [v])
  | [], _, _, _, _, h => by simp at h
  | n :: N, [], nm, v, _, h => by
    simp at h; subst h; simp [putF]
  | n :: N, w :: vs, nm, v, nd, h1 => by
    have h1' : N[vs.length]? = some nm := by simpa using h1
    have hne : ¬ n = nm := fun e => (List.nodup_cons.mp nd).1 (e ▸ List.mem_of_getElem? h1')
    show (if n = nm then _ else (n, w) :: putF nm v (N.zip vs)) = _
    rw [if_neg hne, zip_add (List.nodup_cons.mp nd).2 h1']
    rfl

/-- o.f, the i-th field of class c -/
@[simp] def getF (c i : Nat) (S : Store) (d : D) : Option D := match d with
  | .obj j => (match S[j]? with
    | some (.ins c' fs) => if c' = c then fs[i]? else none
    | _ => none)
  | _ => none
@[simp] def eFld (c i : Nat) (fo : EM) : EM := fun ρ S => (fo ρ S).bind fun d S1 => give (getF c i S1 d) S1
theorem s_fld {c i : Nat} {N : List Str} {nm : Str} (F : ClsF X.K T c N) (hi : N[i]? = some nm) (ho : SE X T W o fo) (hb : attributeBase o nm X.env (eval o X.env) = eval o X.env := by rfl) : SE X T W (.Attribute o nm pos) (eFld c i fo) := by
  refine PE.mono (pe_fld ho hb) fun σ H Q ⟨P, m, S, ρ, rs, re, h⟩ => ?_
  refine tE.use rs re h fun m1 S1 H1 d v x1 rs1 re1 r1 h1 => ?_
  obtain ⟨z, ez, q⟩ := h1.give rs1
  cases d with
  | obj j =>
    cases r1 with
    | obj hj =>
      rename_i a
      unfold getF at ez
      cases hs : S1[j]? with
      | none => simp only [hs] at ez; cases ez
      | some u =>
        cases u with
        | ins c' fs =>
          simp only [hs] at ez
          by_cases hc : c' = c
          · subst hc
            rw [if_pos rfl] at ez
            cases rs1.at_ j a _ hj hs with
            | ins e1 e2 e3 =>
              rename_i dx vs
              obtain ⟨w, hw, rw'⟩ := Rs.getD e2 ez
              rw [F.nms] at e1
              exact ⟨a, _, dx, _, w, rfl, e1, F.cl, F.na nm (List.mem_of_getElem? hi), zip_get F.nd hi hw, q H1 w (fun _ _ e => e) rw'⟩
          · rw [if_neg hc] at ez; cases ez
        | _ => simp only [hs] at ez; cases ez
  | _ => cases ez

/-- o.m(e, ..) -/
@[simp] def isIns (c : Nat) (S : Store) (d : D) : Bool := match d with
  | .obj j => (match S[j]? with
    | some (.ins c' _) => decide (c' = c)
    | _ => false)
  | _ => false
@[simp] def eMeth (c : Nat) (f : FM) (fo : EM) (a : AM) : EM := fun ρ S => (fo ρ S).bind fun d S1 => if isIns c S1 d = true then (a ρ S1).bind fun ds S2 => f (d :: ds) S2 else .stuck
theorem isIns_at {K : PySem.W.Frag} {P : Addr → Prop} {m : List Addr} {S : Store} {H : Hp} {c : Nat} {d : D} {v : V} (rs : RS K T P m S H) (r : R K m (Lv P m S) H d v) (h : isIns c S d = true) :
    ∃ a dx vs, v = .ref a ∧ H a = some (.ins (T.cls c) dx ((T.nms c).zip vs)) := by
  cases d with
  | obj j =>
    cases r with
    | obj hj =>
      rename_i a
      unfold isIns at h
      cases hs : S[j]? with
      | none => simp only [hs] at h; cases h
      | some u =>
        cases u with
        | ins c' fs =>
          simp only [hs, decide_eq_true_eq] at h
          subst h
          cases rs.at_ j a _ hj hs with
          | ins e1 e2 e3 => exact ⟨a, _, _, rfl, e1⟩
        | _ => simp only [hs] at h; cases h
  | _ => cases h
theorem s_meth {c : Nat} {N : List Str} {pl : Sem Bool} (CF : ClsF X.K T c N) (hmN : mth ∉ N) (hm : Meth X.K (T.cls c) mth f) (F : FnOk X.prog X.w X.K X.mg X.base (L2.CX X.prog X.w) k f fd ps (spOf X.K T g)) (hr : Room k X.A) (tk : Takes X W) (hb : Binds X.K fd ps [])
    (ho : SE X T W o fo) (ha : SA X T W (e :: es) a)
    (hst : starEach (e :: es) X.env = (false, eval e X.env) :: starEach es X.env := by rfl) (hpl : (backTo pos (starEach es X.env)).any (·.1) = false := by rfl)
    (ht : eval (.Call (.Attribute o mth apos) (e :: es) [] pos) X.env = (do
      let ov ← eval o X.env
      standAt apos.atName
      let (f, first) ← holding [ov] (getMethod ov mth pl)
      callWith pos f first (backTo pos (starEach (e :: es) X.env)) (backToKw pos (keywordEach [] X.env))) := by rfl) :
    SE X T W (.Call (.Attribute o mth apos) (e :: es) [] pos) (eMeth c g fo a) := by
  refine ⟨fun pins s σ H Q I h => ?_⟩
  obtain ⟨P, m, S, ρ, rs, re, h⟩ := h
  have h' : tE X.K T W fo σ H (fun x H1 => ∃ a' dx fs, x = .ref a' ∧ H1 a' = some (.ins (T.cls c) dx fs) ∧ fs.lookup mth = none ∧ tA X.K T W a σ H1 fun vs H2 => spOf X.K T g (x :: vs) H2 Q (WE W σ)) := by
    refine tE.use rs re h fun m1 S1 H1 d v x1 rs1 re1 r1 h1 => ?_
    by_cases hi : isIns c S1 d = true
    · rw [if_pos hi] at h1
      obtain ⟨a', dx, vs, e1, e2⟩ := isIns_at rs1 r1 hi
      refine ⟨a', dx, _, e1, e2, by rw [CF.nms]; exact zip_none hmN, ?_⟩
      exact tA.use rs1 re1 h1 fun m2 S2 H2 ds vs x2 rs2 re2 r2 h2 => ⟨P, m2, S2, d :: ds, rs2, .cons (R.ext x2 rs1 r1) r2, h2⟩
    · rw [if_neg hi] at h1; exact h1.elim
  refine PySem.W.methodCall_KW (pl := pl) (thn (ho.run pins s σ H _ I h') fun u s1 ⟨x, H1, I1, rx, a', dx, fs, ex, ea, l, q⟩ => ?_) ht
  subst ex
  obtain rfl : u = Value.ref a' := rx
  refine getmeth_ok I1 ea CF.cl hm l ?_
  refine PySem.W.callWith_K (first := [.ref a']) (h₀ := X.base) I.ok.mod.kin hm.kp (thn (ha.run pos pins s1 σ H1 _ I1 q) fun us s2 ⟨vs, H2, I2, r, q2⟩ => ⟨I2.kIn, ?_⟩) hst hpl
  exact run_fnS (us := .ref a' :: us) (vs := .ref a' :: vs) (E := WE W) F hr hb (passAt tk σ) I2 (.cons rfl r) q2
theorem s_meth0 {c : Nat} {N : List Str} {pl : Sem Bool} (CF : ClsF X.K T c N) (hmN : mth ∉ N) (hm : Meth X.K (T.cls c) mth f) (F : FnOk X.prog X.w X.K X.mg X.base (L2.CX X.prog X.w) k f fd ps (spOf X.K T g)) (hr : Room k X.A) (tk : Takes X W) (hb : Binds X.K fd ps [])
    (ho : SE X T W o fo)
    (ht : eval (.Call (.Attribute o mth apos) [] [] pos) X.env = (do
      let ov ← eval o X.env
      standAt apos.atName
      let (f, first) ← holding [ov] (getMethod ov mth pl)
      callWith pos f first (backTo pos (starEach [] X.env)) (backToKw pos (keywordEach [] X.env))) := by rfl) :
    SE X T W (.Call (.Attribute o mth apos) [] [] pos) (eMeth c g fo aNil) := by
  refine ⟨fun pins s σ H Q I h => ?_⟩
  obtain ⟨P, m, S, ρ, rs, re, h⟩ := h
  have h' : tE X.K T W fo σ H (fun x H1 => ∃ a' dx fs, x = .ref a' ∧ H1 a' = some (.ins (T.cls c) dx fs) ∧ fs.lookup mth = none ∧ spOf X.K T g [x] H1 Q (WE W σ)) := by
    refine tE.use rs re h fun m1 S1 H1 d v x1 rs1 re1 r1 h1 => ?_
    by_cases hi : isIns c S1 d = true
    · rw [if_pos hi] at h1
      obtain ⟨a', dx, vs, e1, e2⟩ := isIns_at rs1 r1 hi
      exact ⟨a', dx, _, e1, e2, by rw [CF.nms]; exact zip_none hmN, P, m1, S1, [d], rs1, .cons r1 .nil, h1⟩
    · rw [if_neg hi] at h1; exact h1.elim
  refine PySem.W.methodCall_KW (pl := pl) (thn (ho.run pins s σ H _ I h') fun u s1 ⟨x, H1, I1, rx, a', dx, fs, ex, ea, l, q⟩ => ?_) ht
  subst ex
  obtain rfl : u = Value.ref a' := rx
  refine getmeth_ok I1 ea CF.cl hm l ?_
  exact PySem.W.callWith_K0 (first := [.ref a']) I1.kIn hm.kp (run_fnS (us := [.ref a']) (vs := [.ref a']) (E := WE W) F hr hb (passAt tk σ) I1 (.cons rfl .nil) q)

/-- C(e, ..) -/
@[simp] def eMake (c : Nat) (f : FM) (a : AM) : EM := fun ρ S => (a ρ S).bind fun ds S1 => (f (.obj S1.length :: ds) (S1 ++ [.ins c []])).bind fun d S2 => match d with
  | .non => .ok (.obj S1.length) S2
  | _ => .stuck
theorem run_makeS {pins : List (Addr × Obj)} {σ : L2.St} {H : Hp} {s : Shared} {Q : VK} {us : List Value} {vs : List V} {sp : Sp} {E : L2.St → XK} {CX : CXT} (M : Mk X.K C f) (F : FnOk X.prog X.w X.K X.mg X.base CX k f fd ps sp) (hr : Room (k + 1) X.A) (hb : Binds X.K fd ps [])
    (hx : PassesAt CX X σ (E σ)) (I : Inv X pins σ H s) (r : Vals vs us)
    (h : ∀ x dx, H x = none → H dx = none → dx ≠ x → sp (.ref x :: vs) (upd (upd H dx (.own x)) x (.ins C dx [])) (fun v H2 => v = .non ∧ Q (.ref x) H2) (E σ)) :
    wpAny (model X.prog X.w) X.A (call (.ref C) us) (EP X pins σ Q) X.xe s := by
  have hq := h (s.heap.objs.size + 1) s.heap.objs.size (I.hok.fresh (Nat.le_succ _)) (I.hok.fresh (Nat.le_refl _)) (Nat.ne_of_lt (Nat.lt_succ_self _))
  have I2 := Inv.made (C := C) I
  have r2 : Vals (V.ref (s.heap.objs.size + 1) :: vs) (Value.ref (s.heap.objs.size + 1) :: us) := .cons rfl r
  have hl : (Value.ref (s.heap.objs.size + 1) :: us ++ []).length = ps.length := by
    have e := r2.length
    rw [F.len _ _ _ _ hq] at e
    rw [List.append_nil]
    exact e.symm
  have hb' := hb _ (Value.ref (s.heap.objs.size + 1) :: us) I2.kIn hl
  rw [List.append_nil] at hb'
  refine wpAny_call (make_map (f := f) I.kIn M.makes M.init (beq_iff_eq.mp M.fn) (codeAny_mono (F.run _ X.stack _ _ ⟨Value.ref (s.heap.objs.size + 1) :: us, []⟩ (Value.ref (s.heap.objs.size + 1) :: us) _ _ (E σ) (hr.make C us [])
    (I2.env0.make C us []) hb' r2 hq) fun r s' hq' => ?_))
  cases r with
  | error e => exact hx pins _ _ e s' I2 hq'
  | ok fl =>
    cases fl with
    | ret u =>
      obtain ⟨v, H', I3, rv, ev, q3⟩ := I2.after hq'
      subst ev
      exact ⟨rv, ⟨V.ref (s.heap.objs.size + 1), H', I3, rfl, q3⟩⟩
    | next => exact False.elim hq'
    | brk => exact False.elim hq'
    | cont => exact False.elim hq'
theorem made_ok {K : PySem.W.Frag} {P : Addr → Prop} {m : List Addr} {S : Store} {H : Hp} {c : Nat} {x dx : Addr} (rs : RS K T P m S H) (hx : H x = none) (hd : H dx = none) (ne : dx ≠ x) :
    Ext m S H (m ++ [x]) (S ++ [.ins c []]) (upd (upd H dx (.own x)) x (.ins (T.cls c) dx [])) ∧ RS K T P (m ++ [x]) (S ++ [.ins c []]) (upd (upd H dx (.own x)) x (.ins (T.cls c) dx [])) := by
  have hx1 : (upd H dx (.own x)) x = none := by rw [upd_ne (Ne.symm ne)]; exact hx
  have rs1 := rs.upd (o := .own x) hd
  obtain ⟨rs2, le⟩ := rs1.prot1 (u := .ins (T.cls c) dx []) hx1 trivial
  have k : ∀ b o, H b = some o → (upd (upd H dx (.own x)) x (.ins (T.cls c) dx [])) b = some o := fun b o e => grow_upd hx1 _ _ (grow_upd hd _ _ e)
  refine ⟨ext_new (ext_grow k) hx rs.len, RS.new rs2 (P := P) (fun a q => .inl q) (fun q => rs.fresh hx (.inl q)) (fun i a e z => ?_) (fun a q => q) (fun _ _ => ?_) (.inr rfl) ⟨_, upd_same⟩⟩
  · subst z
    obtain ⟨o, e'⟩ := rs.trk i a e
    rw [hx] at e'; cases e'
  · refine RO.ins (dx := dx) (vs := []) ?_ .nil (Nat.zero_le _)
    rw [List.zip_nil_right]
    exact upd_same
theorem s_make {c : Nat} (M : Mk X.K (T.cls c) f) (F : FnOk X.prog X.w X.K X.mg X.base (L2.CX X.prog X.w) k f fd ps (spOf X.K T g)) (hr : Room (k + 1) X.A) (tk : Takes X W) (hg : Gl X x) (hm : X.mg x = some (.ref (T.cls c))) (hb : Binds X.K fd ps [])
    (ha : SA X T W (e :: es) a) (hdb : (x == ("__debug__" : Str)) = false := by decide) (he : starEach (e :: es) X.env = (false, eval e X.env) :: starEach es X.env := by rfl) (hpl : (backTo pos (starEach es X.env)).any (·.1) = false := by rfl) :
    SE X T W (.Call (.Name x p) (e :: es) [] pos) (eMake c g a) := by
  refine ⟨fun pins s σ H Q I h => ?_⟩
  obtain ⟨P, m, S, ρ, rs, re, h⟩ := h
  have h' : tA X.K T W a σ H (fun vs H1 => ∀ x dx, H1 x = none → H1 dx = none → dx ≠ x → spOf X.K T g (.ref x :: vs) (upd (upd H1 dx (.own x)) x (.ins (T.cls c) dx [])) (fun v H2 => v = .non ∧ Q (.ref x) H2) (WE W σ)) := by
    refine tA.use rs re h fun m1 S1 H1 ds vs x1 rs1 re1 r1 h1 => fun y dx hy hd ne => ?_
    obtain ⟨x2, rs2⟩ := made_ok (c := c) rs1 hy hd ne
    have hlen : m1.length = S1.length := rs1.len
    refine ⟨P, m1 ++ [y], S1 ++ [.ins c []], .obj S1.length :: ds, rs2, .cons (.obj (by rw [← hlen]; simp)) (Rs.ext x2 rs1 r1), ?_⟩
    refine (Meets.shift x2 h1).bind.imp fun m3 S3 H3 d x3 rs3 q v r3 => ?_
    cases d with
    | non =>
      cases r3
      exact ⟨rfl, q.now rs3 _ (.obj (x3.get (by rw [← hlen]; simp)))⟩
    | _ => exact q.elim
  refine wpAny_Call_Name_kw (ld_glob I hg hm ?_ hdb)
  refine PySem.W.callWith_K (h₀ := X.base) I.ok.mod.kin M.kp (thn (ha.run pos pins s σ H _ I h') fun us s1 ⟨vs, H1, I1, r, q⟩ => ⟨I1.kIn, ?_⟩) he hpl
  exact run_makeS (E := WE W) M F hr hb (passAt tk σ) I1 r q
end

/-! ### statements -/
inductive SR where
  | nx (ρ : Ev) (S : Store) | rt (d : D) (S : Store) | bk (ρ : Ev) (S : Store) | ct (ρ : Ev) (S : Store) | exc (c : Nat) (ρ : Ev) (S : Store) | stuck
abbrev SM := Ev → Store → SR
def Res.sb {α : Type} (r : Res α) (ρ : Ev) (k : α → Store → SR) : SR := match r with
  | .ok a S => k a S
  | .exc c S => .exc c ρ S
  | .stuck => .stuck
def SMeets (K : PySem.W.Frag) (T : Tab) (P : Addr → Prop) (m : List Addr) (S : Store) (H : Hp) (W : WX) (E : Ends) : SR → Prop
  | .nx ρ' S' => ∀ m' H' σ', Ext m S H m' S' H' → RS K T P m' S' H' → RE K m' (Lv P m' S') H' ρ' σ' → E.nx σ' H'
  | .bk ρ' S' => ∀ m' H' σ', Ext m S H m' S' H' → RS K T P m' S' H' → RE K m' (Lv P m' S') H' ρ' σ' → E.bk σ' H'
  | .ct ρ' S' => ∀ m' H' σ', Ext m S H m' S' H' → RS K T P m' S' H' → RE K m' (Lv P m' S') H' ρ' σ' → E.ct σ' H'
  | .rt d S' => ∀ m' H' v, Ext m S H m' S' H' → RS K T P m' S' H' → R K m' (Lv P m' S') H' d v → E.rt v H'
  | .exc c ρ' S' => ∀ m' H' σ', Ext m S H m' S' H' → RS K T P m' S' H' → RE K m' (Lv P m' S') H' ρ' σ' → W (.ref (T.exc c)) none σ' H'
  | .stuck => False
section
variable {α : Type} {K : PySem.W.Frag} {T : Tab} {P : Addr → Prop} {m m1 : List Addr} {S S1 : Store} {H H1 : Hp} {W : WX} {E E' : Ends} {r : SR} {ρ : Ev} {σ : L2.St}
theorem SMeets.shift (x : Ext m S H m1 S1 H1) (h : SMeets K T P m S H W E r) : SMeets K T P m1 S1 H1 W E r := by
  cases r with
  | nx => exact fun m' H' σ' y rs re => h m' H' σ' (x.trans y) rs re
  | bk => exact fun m' H' σ' y rs re => h m' H' σ' (x.trans y) rs re
  | ct => exact fun m' H' σ' y rs re => h m' H' σ' (x.trans y) rs re
  | rt => exact fun m' H' σ' y rs re => h m' H' σ' (x.trans y) rs re
  | exc => exact fun m' H' σ' y rs re => h m' H' σ' (x.trans y) rs re
  | stuck => exact h
theorem SMeets.sb {r : Res α} {k : α → Store → SR} (rs : RS K T P m S H) (re : RE K m (Lv P m S) H ρ σ) (h : SMeets K T P m S H W E (r.sb ρ k)) : Meets K T P m S H (WN T W σ) (fun m1 S1 H1 a => SMeets K T P m1 S1 H1 W E (k a S1)) r := by
  cases r with
  | ok a S' => exact fun m' H' y rs' => SMeets.shift y h
  | exc c S' => exact fun m' H' y rs' => h m' H' σ y rs' (RE.ext y rs re)
  | stuck => exact h
end
def tS (K : PySem.W.Frag) (T : Tab) (W : WX) (g : SM) : TS := fun E σ H => ∃ P m S ρ, RS K T P m S H ∧ RE K m (Lv P m S) H ρ σ ∧ SMeets K T P m S H W E (g ρ S)
abbrev S1 (X : Cx) (T : Tab) (W : WX) (s : Stmt) (g : SM) : Prop := PS X s (tS X.K T W g)
abbrev SS (X : Cx) (T : Tab) (W : WX) (s : List Stmt) (g : SM) : Prop := PSs X s (tS X.K T W g)
section
variable {K : PySem.W.Frag} {T : Tab} {P : Addr → Prop} {m : List Addr} {S : Store} {H : Hp} {W : WX} {E : Ends} {ρ : Ev} {σ : L2.St}
theorem tE.suse {f : EM} {k : D → Store → SR} {Q : VK} (rs : RS K T P m S H) (re : RE K m (Lv P m S) H ρ σ) (h : SMeets K T P m S H W E ((f ρ S).sb ρ k))
    (go : ∀ m1 S1 H1 d v, Ext m S H m1 S1 H1 → RS K T P m1 S1 H1 → RE K m1 (Lv P m1 S1) H1 ρ σ → R K m1 (Lv P m1 S1) H1 d v → SMeets K T P m1 S1 H1 W E (k d S1) → Q v H1) : tE K T W f σ H Q :=
  ⟨P, m, S, ρ, rs, re, (SMeets.sb rs re h).imp fun m1 S1 H1 d x rs1 q v r => go m1 S1 H1 d v x rs1 (RE.ext x rs re) r q⟩
theorem tT.suse {f : BM} {k : Bool → Store → SR} {Q : Bool → Hp → Prop} (rs : RS K T P m S H) (re : RE K m (Lv P m S) H ρ σ) (h : SMeets K T P m S H W E ((f ρ S).sb ρ k))
    (go : ∀ m1 S1 H1 d, Ext m S H m1 S1 H1 → RS K T P m1 S1 H1 → RE K m1 (Lv P m1 S1) H1 ρ σ → SMeets K T P m1 S1 H1 W E (k d S1) → Q d H1) : tT K T W f σ H Q :=
  ⟨P, m, S, ρ, rs, re, (SMeets.sb rs re h).imp fun m1 S1 H1 d x rs1 q => go m1 S1 H1 d x rs1 (RE.ext x rs re) q⟩
theorem tA.suse {f : AM} {k : List D → Store → SR} {Q : List V → Hp → Prop} (rs : RS K T P m S H) (re : RE K m (Lv P m S) H ρ σ) (h : SMeets K T P m S H W E ((f ρ S).sb ρ k))
    (go : ∀ m1 S1 H1 d v, Ext m S H m1 S1 H1 → RS K T P m1 S1 H1 → RE K m1 (Lv P m1 S1) H1 ρ σ → Rs K m1 (Lv P m1 S1) H1 d v → SMeets K T P m1 S1 H1 W E (k d S1) → Q v H1) : tA K T W f σ H Q :=
  ⟨P, m, S, ρ, rs, re, (SMeets.sb rs re h).imp fun m1 S1 H1 d x rs1 q v r => go m1 S1 H1 d v x rs1 (RE.ext x rs re) r q⟩
end
@[simp] def sNil : SM := fun ρ S => .nx ρ S
def sSeq (g1 g2 : SM) : SM := fun ρ S => match g1 ρ S with
  | .nx ρ' S' => g2 ρ' S'
  | r => r
@[simp] def sStuck : SM := fun _ _ => .stuck
@[simp] def sSet (i : Nat) (f : EM) : SM := fun ρ S => (f ρ S).sb ρ fun d S1 => .nx (ρ.set i (some d)) S1
@[simp] def sExpr (f : EM) : SM := fun ρ S => (f ρ S).sb ρ fun _ S1 => .nx ρ S1
@[simp] def sRet (f : EM) : SM := fun ρ S => (f ρ S).sb ρ fun d S1 => .rt d S1
@[simp] def sIf (c : BM) (g1 g2 : SM) : SM := fun ρ S => (c ρ S).sb ρ fun b S1 => if b = true then g1 ρ S1 else g2 ρ S1
@[simp] def sRaise (c : Nat) : SM := fun ρ S => .exc c ρ S
section
variable {X : Cx} {T : Tab} {W : WX} {st : Stmt} {rest : List Stmt} {g1 g2 : SM} {e : Expr} {f fo : EM} {c : BM} {pos : Pos}
theorem ss_nil : SS X T W [] sNil := PSs.mono pss_nil fun E σ H ⟨P, m, S, ρ, rs, re, h⟩ => h m H σ .refl rs re
theorem ss_cons (h1 : S1 X T W st g1) (h2 : SS X T W rest g2) : SS X T W (st :: rest) (sSeq g1 g2) := by
  refine PSs.mono (pss_cons h1 h2) fun E σ H ⟨P, m, S, ρ, rs, re, h⟩ => ⟨P, m, S, ρ, rs, re, ?_⟩
  unfold sSeq at h
  cases hg : g1 ρ S with
  | nx ρ' S' => rw [hg] at h; exact fun m' H' σ' x rs' re' => ⟨P, m', S', ρ', rs', re', SMeets.shift x h⟩
  | bk => rw [hg] at h; exact h
  | ct => rw [hg] at h; exact h
  | rt => rw [hg] at h; exact h
  | exc => rw [hg] at h; exact h
  | stuck => rw [hg] at h; exact h
theorem ss_one (h1 : S1 X T W st g1) : SS X T W [st] g1 := pss_one h1
theorem ss_never {sts : List Stmt} : SS X T W sts sStuck := PSs.mono pss_never fun E σ H ⟨P, m, S, ρ, rs, re, h⟩ => h
theorem s_pass : S1 X T W (.Pass pos) sNil := PS.mono ps_pass fun E σ H ⟨P, m, S, ρ, rs, re, h⟩ => h m H σ .refl rs re
theorem s_set {i : Nat} {x : Str} {pos' : Pos} (hN : X.N.Nodup) (hi : X.N[i]? = some x) (hx : Loc X.env.scope x) (he : SE X T W e f) (hs : swapsWith e (some (.Name x pos')) pos.line X.env = pure false := by rfl)
    (hf : X.fn x = true ∨ X.env.scope.names.lookup x = some .local := by first | exact .inl rfl | exact .inr rfl | assumption) : S1 X T W (.Assign [.Name x pos'] e pos) (sSet i f) := by
  refine PS.mono (ps_set hN hi hx he hs hf) fun E σ H ⟨P, m, S, ρ, rs, re, h⟩ => ?_
  refine tE.suse rs re h fun m1 S1 H1 d v x1 rs1 re1 r1 h1 => ?_
  exact h1 m1 H1 _ .refl rs1 (re1.set r1 i)
theorem s_expr (he : SE X T W e f) (hs : swapsWith e none pos.line X.env = pure false := by rfl) : S1 X T W (.Expr e pos) (sExpr f) := by
  refine PS.mono (ps_expr he hs) fun E σ H ⟨P, m, S, ρ, rs, re, h⟩ => ?_
  exact tE.suse rs re h fun m1 S1 H1 d v x1 rs1 re1 r1 h1 => h1 m1 H1 σ .refl rs1 re1
theorem s_ret (he : SE X T W e f) : S1 X T W (.Return (some e) pos) (sRet f) := by
  refine PS.mono (ps_ret he) fun E σ H ⟨P, m, S, ρ, rs, re, h⟩ => ?_
  exact tE.suse rs re h fun m1 S1 H1 d v x1 rs1 re1 r1 h1 => h1 m1 H1 v .refl rs1 r1
theorem s_retN : S1 X T W (.Return none pos) (sRet (eC .non)) := PS.mono ps_retN fun E σ H ⟨P, m, S, ρ, rs, re, h⟩ => h m H .non .refl rs .non
theorem s_if {t : Expr} {a b : List Stmt} (hc : ST X T W t c) (ha : SS X T W a g1) (hb : SS X T W b g2) : S1 X T W (.If t a b pos) (sIf c g1 g2) := by
  refine PS.mono (ps_if hc ha hb) fun E σ H ⟨P, m, S, ρ, rs, re, h⟩ => ?_
  refine tT.suse rs re h fun m1 S1 H1 d x1 rs1 re1 h1 => ?_
  cases d with
  | true => exact ⟨P, m1, S1, ρ, rs1, re1, h1⟩
  | false => exact ⟨P, m1, S1, ρ, rs1, re1, h1⟩
theorem s_raise {k : Nat} {x msg : Str} {j : Nat} {p p2 pos2 : Pos} (hc : X.calm = true) (tk : Takes X W) (q : PySem.W.excIn X.K (T.exc k) [.type "ValueError", .type "Exception", .type "BaseException", .type "object"] "ValueError.__new__" = true)
    (gC : X.mg x = some (.ref (T.exc k))) (kC : PySem.W.keepIn X.K (.ref (T.exc k)) = true) (bC : PySem.W.subIn X.K (.ref (T.exc k)) (.type "BaseException") = some true) (tC : PySem.W.typeIn X.K (.ref (T.exc k)) = some (.type "type")) (hg : Gl X x) (hdb : (x == ("__debug__" : Str)) = false := by decide) :
    S1 X T W (.Raise (some (.Call (.Name x p) [.Constant (.str msg) j p2] [] pos)) none pos2) (sRaise k) :=
  PS.mono (ps_raise hc tk (pmk_own PySem.F.excBase_ValueError q gC kC (raises_own bC tC) hg hdb)) fun E σ H ⟨P, m, S, ρ, rs, re, h⟩ => h m H σ .refl rs re

/-- o.f = e -/
@[simp] def setF (c i : Nat) (d y : D) (S : Store) : Option Store := match d with
  | .obj j => (match S[j]? with
    | some (.ins c' fs) => if c' = c then (if i < fs.length then some (S.set j (.ins c (fs.set i y))) else if i = fs.length then some (S.set j (.ins c (fs ++ [y]))) else none) else none
    | _ => none)
  | _ => none
@[simp] def sFld (c i : Nat) (fo f : EM) : SM := fun ρ S => (f ρ S).sb ρ fun y S1 => (fo ρ S1).sb ρ fun d S2 => match setF c i d y S2 with
  | some S3 => .nx ρ S3
  | none => .stuck
theorem s_setFld {cc i : Nat} {N : List Str} {nm : Str} {o : Expr} {pos' : Pos} (F : ClsF X.K T cc N) (hi : N[i]? = some nm) (ho : SE X T W o fo) (he : SE X T W e f) (hs : swapsWith e (some (.Attribute o nm pos')) pos.line X.env = pure false := by rfl) :
    S1 X T W (.Assign [.Attribute o nm pos'] e pos) (Sm.sFld cc i fo f) := by
  refine PS.mono (ps_fld ho he hs) fun E σ H ⟨P, m, S, ρ, rs, re, h⟩ => ?_
  refine tE.suse rs re h fun m1 S1 H1 y vy x1 rs1 re1 r1 h1 => ?_
  refine tE.suse rs1 re1 h1 fun m2 S2 H2 d v x2 rs2 re2 r2 h2 => ?_
  have ry : R X.K m2 (Lv P m2 S2) H2 y vy := R.ext x2 rs1 r1
  cases hsf : setF cc i d y S2 with
  | none => simp only [hsf] at h2; exact h2.elim
  | some S3 =>
    simp only [hsf] at h2
    cases d with
    | obj j =>
      cases r2 with
      | obj hj =>
        rename_i a
        unfold setF at hsf
        cases hs2 : S2[j]? with
        | none => simp only [hs2] at hsf; cases hsf
        | some u =>
          cases u with
          | ins c' fs =>
            simp only [hs2] at hsf
            by_cases hc : c' = cc
            · subst hc
              rw [if_pos rfl] at hsf
              cases rs2.at_ j a _ hj hs2 with
              | ins e1 e2 e3 =>
                rename_i dx vs
                have hlen := e2.length
                have hN := F.nms
                have hfew := F.few
                refine ⟨a, _, dx, _, rfl, e1, F.cl, F.na nm (List.mem_of_getElem? hi), ?_, ?_⟩
                · rw [List.length_zip, hN]; omega
                · by_cases hlt : i < fs.length
                  · rw [if_pos hlt] at hsf
                    cases hsf
                    have ep : putF nm vy ((T.nms c').zip vs) = (T.nms c').zip (vs.set i vy) := by rw [hN]; exact zip_put F.nd hi (by omega)
                    rw [ep]
                    obtain ⟨x3, rs3⟩ := rs2.write (o' := .ins c' (fs.set i y)) (u := .ins (T.cls c') dx ((T.nms c').zip (vs.set i vy))) hj hs2 (by intro z; cases z) fun x3 le =>
                      .ins upd_same (Rs.set (R.le le _ _ ry) i (Rs.le le _ _ e2)) (by rw [List.length_set]; exact e3)
                    exact h2 m2 _ σ x3 rs3 (RE.ext x3 rs2 re2)
                  · rw [if_neg hlt] at hsf
                    by_cases heq : i = fs.length
                    · rw [if_pos heq] at hsf
                      cases hsf
                      have hvl : i = vs.length := by omega
                      have ep : putF nm vy ((T.nms c').zip vs) = (T.nms c').zip (vs ++ [vy]) := by rw [hN]; exact zip_add F.nd (by rw [← hvl]; exact hi)
                      rw [ep]
                      have hil : i < N.length := (List.getElem?_eq_some_iff.mp hi).1
                      obtain ⟨x3, rs3⟩ := rs2.write (o' := .ins c' (fs ++ [y])) (u := .ins (T.cls c') dx ((T.nms c').zip (vs ++ [vy]))) hj hs2 (by intro z; cases z) fun x3 le =>
                        .ins upd_same (Rs.snoc (Rs.le le _ _ e2) (R.le le _ _ ry)) (by rw [List.length_append, List.length_singleton, hN]; omega)
                      exact h2 m2 _ σ x3 rs3 (RE.ext x3 rs2 re2)
                    · rw [if_neg heq] at hsf; cases hsf
            · rw [if_neg hc] at hsf; cases hsf
          | _ => simp only [hs2] at hsf; cases hsf
    | _ => cases hsf
end

/-! ### defs -/
def callD (n k : Nat) (g : SM) : FM := fun ds S => if ds.length = n then (match g (ds.map some ++ List.replicate k none) S with
  | .nx _ S' => .ok .non S'
  | .rt d S' => .ok d S'
  | .exc c _ S' => .exc c S'
  | _ => .stuck) else .stuck
theorem rs_start {K : PySem.W.Frag} {m : List Addr} {L : Addr → Prop} {H : Hp} {N : List Str} : ∀ {ds : List D} {vs : List V}, Rs K m L H ds vs → RE K m L H (ds.map some ++ List.replicate (N.length - ds.length) none) (L2.start N vs) := by
  intro ds vs r
  have hl := r.length
  refine ⟨by simp [L2.start, hl], fun i d h => ?_⟩
  by_cases hi : i < ds.length
  · rw [List.getElem?_append_left (by simpa using hi), List.getElem?_map] at h
    cases e : ds[i]? with
    | none => rw [e] at h; cases h
    | some d' =>
      rw [e] at h
      cases h
      obtain ⟨v, h1, h2⟩ := Rs.getD r e
      refine ⟨v, ?_, h2⟩
      unfold L2.start
      rw [List.getElem?_append_left (by simp; omega), List.getElem?_map, h1]
      rfl
  · rw [List.getElem?_append_right (by simp; omega)] at h
    rw [List.getElem?_replicate] at h
    split at h <;> cases h
theorem def_ok {P : Program} {w : World} {K : PySem.W.Frag} {mg : Str → Option Value} {base : Heap} {T : Tab} {x qual : Str} {params : Arguments} {body : List Stmt} {scope : Scope} {f : Addr} {fd : FuncData} {N ps : List Str} {k n l : Nat} {g : SM}
    (F : FunD K x qual params body scope [] [] f fd) (S : FnScope N ps scope) (hn : ps.length = n) (hl : N.length - n = l)
    (hbody : ∀ (cdv : Value) (A : Around) (outer : List Env) (s : Shared) (H : Hp) (E : XK), Room k (A.deeper (envOfC qual scope s.heap.objs.size f cdv)) →
      Takes (cxOf (L2.CX P w) P w K mg base N qual scope f cdv A outer s H E) (fun cls d _ H => E cls d H) →
      PassesOwn (model P w) (cxOf (L2.CX P w) P w K mg base N qual scope f cdv A outer s H E).A (cxOf (L2.CX P w) P w K mg base N qual scope f cdv A outer s H E).env (cxOf (L2.CX P w) P w K mg base N qual scope f cdv A outer s H E).xe →
      SS (cxOf (L2.CX P w) P w K mg base N qual scope f cdv A outer s H E) T (fun cls d _ H => E cls d H) body g) :
    FnOk P w K mg base (L2.CX P w) (k + 1) f fd ps (spOf K T (callD n l g)) := by
  subst hn
  have hlen : ∀ vs H Q E, spOf K T (callD ps.length l g) vs H Q E → vs.length = ps.length := fun vs H Q E ⟨P, m, S, ds, rs, r, h⟩ => by
    unfold callD at h
    by_cases hd : ds.length = ps.length
    · rw [← r.length]; exact hd
    · rw [if_neg hd] at h; exact h.elim
  refine F.ok S hlen fun cdv A outer s H vs Q E hr hsp => ⟨_, hbody cdv A outer s H E hr (takes_of rfl rfl rfl rfl) (passes_of rfl), ?_⟩
  have hvl := hlen _ _ _ _ hsp
  obtain ⟨P', m, S', ds, rs, r, h⟩ := hsp
  have hd : ds.length = ps.length := r.length.trans hvl
  unfold callD at h
  rw [if_pos hd] at h
  have re := rs_start (N := N) r
  rw [hd, hl] at re
  refine ⟨P', m, S', _, rs, re, ?_⟩
  cases hg : g (ds.map some ++ List.replicate l none) S' with
  | nx ρ2 S2 => rw [hg] at h; exact fun m' H' σ' x rs' re' => h m' H' x rs' .non .non
  | rt d S2 => rw [hg] at h; exact fun m' H' v x rs' r' => h m' H' x rs' v r'
  | exc c ρ2 S2 => rw [hg] at h; exact fun m' H' σ' x rs' re' => h m' H' x rs'
  | bk => rw [hg] at h; exact h.elim
  | ct => rw [hg] at h; exact h.elim
  | stuck => rw [hg] at h; exact h.elim
end Sm
/-! ## Sm3 -/
/-! Sm3: targets, what is walked, for, while, comprehensions, fresh lists. -/
namespace Sm
open PySem PySem.Spec PyProof.Rows L2

/-! ### targets -/
inductive Tg where
  | nm (i : Nat) | tup (ts : List Tg)
mutual
def Tg.put : Tg → D → Ev → Option Ev
  | .nm i, d, ρ => some (ρ.set i (some d))
  | .tup ts, .tup ds, ρ => Tg.puts ts ds ρ
  | .tup _, _, _ => none
def Tg.puts : List Tg → List D → Ev → Option Ev
  | [], [], ρ => some ρ
  | t :: ts, d :: ds, ρ => match Tg.put t d ρ with
    | some ρ1 => Tg.puts ts ds ρ1
    | none => none
  | _, _, _ => none
end
mutual
def Tg.slots : Tg → List Nat
  | .nm i => [i]
  | .tup ts => Tg.slotsL ts
def Tg.slotsL : List Tg → List Nat
  | [] => []
  | t :: ts => Tg.slots t ++ Tg.slotsL ts
end
theorem Tg.puts_len : ∀ {ts : List Tg} {ds : List D} {ρ ρ' : Ev}, Tg.puts ts ds ρ = some ρ' → ts.length = ds.length
  | [], [], _, _, _ => rfl
  | [], _ :: _, _, _, h => by unfold Tg.puts at h; cases h
  | _ :: _, [], _, _, h => by unfold Tg.puts at h; cases h
  | t :: ts, d :: ds, ρ, ρ', h => by
    unfold Tg.puts at h
    split at h
    · rw [List.length_cons, List.length_cons, Tg.puts_len h]
    · cases h
def KeepBut (l : List Nat) (σ σ' : L2.St) : Prop := σ'.length = σ.length ∧ ∀ j, j ∉ l → σ'[j]? = σ[j]?
def tG (K : PySem.W.Frag) (T : Tab) (tg : Tg) : TG := fun v σ H Q => ∃ P m S ρ d ρ', RS K T P m S H ∧ RE K m (Lv P m S) H ρ σ ∧ R K m (Lv P m S) H d v ∧ tg.put d ρ = some ρ' ∧ ∀ σ', RE K m (Lv P m S) H ρ' σ' → KeepBut tg.slots σ σ' → Q σ' H
def tGs (K : PySem.W.Frag) (T : Tab) (ts : List Tg) : TGs := fun vs σ H Q => ∃ P m S ρ ds ρ', RS K T P m S H ∧ RE K m (Lv P m S) H ρ σ ∧ Rs K m (Lv P m S) H ds vs ∧ Tg.puts ts ds ρ = some ρ' ∧ ∀ σ', RE K m (Lv P m S) H ρ' σ' → KeepBut (Tg.slotsL ts) σ σ' → Q σ' H
theorem PG.mono {X : Cx} {e : Expr} {t t' : TG} (h : PG X e t) (k : ∀ v σ H Q, t' v σ H Q → t v σ H Q) : PG X e t' := ⟨fun pins s σ H v u Q I r q => h.run pins s σ H v u Q I r (k v σ H Q q)⟩
theorem PGs.mono {X : Cx} {e : List Expr} {t t' : TGs} (h : PGs X e t) (k : ∀ v σ H Q, t' v σ H Q → t v σ H Q) : PGs X e t' := ⟨fun pins s σ H v u Q I r q => h.run pins s σ H v u Q I r (k v σ H Q q)⟩
section
variable {X : Cx} {T : Tab} {pos : Pos}
theorem KeepBut.refl (l : List Nat) (σ : L2.St) : KeepBut l σ σ := ⟨rfl, fun _ _ => rfl⟩
theorem g_nm {i : Nat} {x : Str} (hN : X.N.Nodup) (hi : X.N[i]? = some x) (hx : Loc X.env.scope x) (hf : X.fn x = true ∨ X.env.scope.names.lookup x = some .local := by first | exact .inl rfl | exact .inr rfl | assumption) : PG X (.Name x pos) (tG X.K T (.nm i)) := by
  refine PG.mono (pg_name hN hi hx hf) fun v σ H Q ⟨P, m, S, ρ, d, ρ', rs, re, r, e, q⟩ => ?_
  cases e
  refine q _ (re.set r i) ⟨by simp, fun j hj => ?_⟩
  have : i ≠ j := fun z => hj (by simp [Tg.slots, z])
  rw [List.getElem?_set_ne this]
theorem gs_nil : PGs X [] (tGs X.K T []) := by
  refine PGs.mono pgs_nil fun vs σ H Q ⟨P, m, S, ρ, ds, ρ', rs, re, r, e, q⟩ => ?_
  have hl := Tg.puts_len e
  have : ds = [] := List.length_eq_zero_iff.mp (by simpa using hl.symm)
  subst this
  unfold Tg.puts at e
  cases e
  cases r
  exact ⟨rfl, q σ re (.refl _ _)⟩
theorem gs_cons {e : Expr} {es : List Expr} {t : Tg} {ts : List Tg} (h1 : PG X e (tG X.K T t)) (h2 : PGs X es (tGs X.K T ts))
    (hs : (assignEach (e :: es) X.env).map (·.2) = assign e X.env :: (assignEach es X.env).map (·.2) := by rfl) : PGs X (e :: es) (tGs X.K T (t :: ts)) := by
  refine PGs.mono (pgs_cons h1 h2 hs) fun vs σ H Q ⟨P, m, S, ρ, ds, ρ', rs, re, r, e, q⟩ => ?_
  have hl := Tg.puts_len e
  cases ds with
  | nil => simp at hl
  | cons d ds =>
    cases r with
    | cons r1 r2 =>
      rename_i v vs _
      unfold Tg.puts at e
      split at e
      · rename_i ρ1 e1
        refine ⟨v, vs, rfl, P, m, S, ρ, d, ρ1, rs, re, r1, e1, fun σ1 re1 k1 => ⟨P, m, S, ρ1, ds, ρ', rs, re1, r2, e, fun σ2 re2 k2 => q σ2 re2 ⟨k2.1.trans k1.1, fun j hj => ?_⟩⟩⟩
        have hj' : j ∉ t.slots ∧ j ∉ Tg.slotsL ts := by
          unfold Tg.slotsL at hj
          simpa using hj
        exact (k2.2 j hj'.2).trans (k1.2 j hj'.1)
      · cases e
theorem g_tup {es : List Expr} {k : Nat} {ts : List Tg} {n : Nat} (hc : X.calm = true) (h : PGs X es (tGs X.K T ts)) (ht : ts.length = n)
    (hn : (assignEach es X.env).length = n := by rfl) (hst : (assignEach es X.env).findIdx? (·.1) = none := by rfl) : PG X (.Tuple es k pos) (tG X.K T (.tup ts)) := by
  refine PG.mono (pg_tup hc h hn hst) fun v σ H Q ⟨P, m, S, ρ, d, ρ', rs, re, r, e, q⟩ => ?_
  cases d with
  | tup ds =>
    cases r with
    | tup hq r =>
      rename_i a vs _
      have e' : Tg.puts ts ds ρ = some ρ' := by unfold Tg.put at e; exact e
      refine ⟨a, vs, rfl, hq, ?_, P, m, S, ρ, ds, ρ', rs, re, r, e', fun σ' re' k' => q σ' re' k'⟩
      rw [← r.length, ← Tg.puts_len e', ht]
  | _ => unfold Tg.put at e; cases e
end

/-! ### what is walked -/
structure Wk where
  n : Nat
  cur : Store → Nat → Option D
  fin : Store → Bool
theorem Le.trans {K : PySem.W.Frag} {m m' m'' : List Addr} {L L' L'' : Addr → Prop} {H H' H'' : Hp} (x : Le K m L H m' L' H') (y : Le K m' L' H' m'' L'' H'') : Le K m L H m'' L'' H'' :=
  ⟨fun e => y.get (x.get e), fun e => y.tup (x.tup e), fun e n => let ⟨a, b⟩ := x.lst e n; y.lst a b, fun e => y.frz (x.frz e), fun e n => let ⟨a, b⟩ := x.dct e n; y.dct a b⟩
theorem Le.refl {K : PySem.W.Frag} {m : List Addr} {L : Addr → Prop} {H : Hp} : Le K m L H m L H := ⟨fun e => e, fun e => e, fun e n => ⟨e, n⟩, fun e => e, fun e n => ⟨e, n⟩⟩
structure Walks (K : PySem.W.Frag) (T : Tab) (m1 : List Addr) (L1 : Addr → Prop) (H1 : Hp) (J : It) (w : Wk) : Prop where
  go : ∀ P m S H i d, Le K m1 L1 H1 m (Lv P m S) H → RS K T P m S H → i < w.n → w.cur S i = some d → J.go i H ∧ ∀ x H', J.yld i H x H' → (∀ b o, H b = some o → H' b = some o) ∧ R K m (Lv P m S) H' d x
  stop : ∀ P m S H, Le K m1 L1 H1 m (Lv P m S) H → RS K T P m S H → w.fin S = true → J.stop w.n H
abbrev WM := Ev → Store → Res Wk
def GW (K : PySem.W.Frag) (T : Tab) (P : Addr → Prop) (Q : It → Hp → Prop) : List Addr → Store → Hp → Wk → Prop := fun m S H w => ∀ J, Walks K T m (Lv P m S) H J w → Q J H
def tI (K : PySem.W.Frag) (T : Tab) (W : WX) (f : WM) : TI := fun σ H Q => ∃ P m S ρ, RS K T P m S H ∧ RE K m (Lv P m S) H ρ σ ∧ Meets K T P m S H (WN T W σ) (GW K T P Q) (f ρ S)
abbrev SI (X : Cx) (T : Tab) (W : WX) (tg iter : Expr) (f : WM) : Prop := PI X tg iter (tI X.K T W f)
theorem PI.mono {X : Cx} {tg e : Expr} {t t' : TI} (h : PI X tg e t) (k : ∀ σ H Q, t' σ H Q → t σ H Q) : PI X tg e t' := ⟨fun pins s σ H Q I q => h.run pins s σ H Q I (k σ H Q q)⟩
/-- a list, a tuple, a text -/
def iSeq (K : PySem.W.Frag) (tl : TE) : TI := fun σ H Q => tl σ H fun x H1 => (∃ a, x = .ref a ∧ (∃ xs, SqL K H1 a xs) ∧ Q (Itl K a) H1) ∨ (∃ a, x = .ref a ∧ (∃ xs, SqT K H1 a xs) ∧ Q (Itt K a) H1) ∨ ∃ y, x = .str y ∧ Q (Its y) H1
theorem pi_seq {X : Cx} {tg l : Expr} {tl : TE} (hl : PE X l tl) : PI X tg l (iSeq X.K tl) := by
  refine ⟨fun pins s σ H R I h => ?_⟩
  refine thn (hl.run pins s σ H _ I h) fun v s1 ⟨x, H1, I1, r1, q1⟩ => ?_
  rcases q1 with ⟨a, e, ⟨xs, hq⟩, q⟩ | ⟨a, e, ⟨xs, hq⟩, q⟩ | ⟨y, e, q⟩
  · subst e
    cases r1
    obtain ⟨its, rv, p, hz⟩ := I1.list hq
    refine wpAny_pyIter_list p.isList ?_
    refine ⟨s1.heap.objs.size, [s1.heap.objs.size], _, _, H1, rfl, I1.kept (t' := s1.toks) fun b o e => Heap.get?_push_of_some _ e, turn_list a _, ⟨_, Heap.get?_push_size _ rfl, rfl, rfl⟩, fun b hb => ?_, q⟩
    have e : b = s1.heap.objs.size := by simpa using hb
    subst e
    exact I1.fpOk (Nat.le_refl _) (I1.hok.fresh (Nat.le_refl _))
  · subst e
    cases r1
    obtain ⟨its, rv, p, hz⟩ := I1.tuple hq
    refine wpAny_pyIter_tuple (show s1.heap.IsTuple a its.toArray from p) ?_
    refine ⟨s1.heap.objs.size, [s1.heap.objs.size], _, _, H1, rfl, I1.kept (t' := s1.toks) fun b o e => Heap.get?_push_of_some _ e, turn_tuple a _, ⟨_, Heap.get?_push_size _ rfl, rfl, rfl⟩, fun b hb => ?_, q⟩
    have e : b = s1.heap.objs.size := by simpa using hb
    subst e
    exact I1.fpOk (Nat.le_refl _) (I1.hok.fresh (Nat.le_refl _))
  · subst e
    obtain ⟨t, rfl⟩ := r1
    cases ha : y.cps.all (· < 128)
    · exact wpAny_pyIter_wide ha (pi_one (tk := s1.toks) I1 _ (turn_str _ y t "str_iterator" (.inr rfl)) ⟨_, Heap.get?_push_size _ rfl, rfl, rfl⟩ q)
    · exact wpAny_pyIter_ascii ha (pi_one (tk := s1.toks) I1 _ (turn_str _ y t "str_ascii_iterator" (.inl rfl)) ⟨_, Heap.get?_push_size _ rfl, rfl, rfl⟩ q)
/-- what an iterable datum walks -/
def wkL (ds : List D) : Wk := ⟨ds.length, fun _ i => ds[i]?, fun _ => true⟩
def wkO (j n : Nat) : Wk := ⟨n, fun S i => match S[j]? with
  | some (.lst es) => if es.length = n then es[i]? else none
  | _ => none, fun S => match S[j]? with
  | some (.lst es) => decide (es.length = n)
  | _ => false⟩
@[simp] def wkOf (S : Store) (d : D) : Option Wk := match d with
  | .lst ds => some (wkL ds)
  | .src ds => some (wkL ds)
  | .tup ds => some (wkL ds)
  | .str s => some (wkL (s.map fun c => .str [c]))
  | .obj j => (match S[j]? with
    | some (.lst ds) => some (wkO j ds.length)
    | _ => none)
  | _ => none
@[simp] def giveW (o : Option Wk) (S : Store) : Res Wk := match o with
  | some w => .ok w S
  | none => .stuck
@[simp] def wSeq (f : EM) : WM := fun ρ S => (f ρ S).bind fun d S1 => giveW (wkOf S1 d) S1
theorem sr_seq {K : PySem.W.Frag} {H : Hp} {a : Addr} {xs : List V} (h : Sr K H a xs) : SqL K H a xs := by
  rcases h with h | h
  · exact .inl (.inr h)
  · exact .inr h
theorem walks_lst {K : PySem.W.Frag} {T : Tab} {m : List Addr} {L : Addr → Prop} {H : Hp} {a : Addr} {vs : List V} {ds : List D} (h : (H a = some (.lst vs) ∧ ¬ L a) ∨ Sr K H a vs) (r : Rs K m L H ds vs) : Walks K T m L H (Itl K a) (wkL ds) := by
  have sl : ∀ {m' L' H'}, Le K m L H m' L' H' → SqL K H' a vs := fun {m' L' H'} le => by
    rcases h with ⟨h, n⟩ | ⟨o, h⟩ | h
    · exact .inl (.inl (le.lst h n).1)
    · exact .inl (.inr ⟨o, le.frz h⟩)
    · exact .inr h
  refine ⟨fun P m' S' H' i d le rs hi e => ?_, fun P m' S' H' le rs _ => ⟨vs, sl le, by rw [← r.length]; exact Nat.le_refl _⟩⟩
  obtain ⟨v, h1, h2⟩ := Rs.getD (Rs.le le _ _ r) (show ds[i]? = some d from e)
  refine ⟨⟨vs, v, sl le, h1⟩, fun x H'' ⟨eH, y⟩ => ?_⟩
  subst eH
  have := y vs (sl le)
  rw [h1] at this; cases this
  exact ⟨fun _ _ e => e, h2⟩
theorem walks_tup {K : PySem.W.Frag} {T : Tab} {m : List Addr} {L : Addr → Prop} {H : Hp} {a : Addr} {vs : List V} {ds : List D} (h : SqT K H a vs) (r : Rs K m L H ds vs) : Walks K T m L H (Itt K a) (wkL ds) := by
  have sl : ∀ {m' L' H'}, Le K m L H m' L' H' → SqT K H' a vs := fun {m' L' H'} le => sqT_keep (fun _ _ => le.tup) h
  refine ⟨fun P m' S' H' i d le rs hi e => ?_, fun P m' S' H' le rs _ => ⟨vs, sl le, by rw [← r.length]; exact Nat.le_refl _⟩⟩
  obtain ⟨v, h1, h2⟩ := Rs.getD (Rs.le le _ _ r) (show ds[i]? = some d from e)
  refine ⟨⟨vs, v, sl le, h1⟩, fun x H'' ⟨eH, y⟩ => ?_⟩
  subst eH
  have := y vs (sl le)
  rw [h1] at this; cases this
  exact ⟨fun _ _ e => e, h2⟩
theorem walks_str {K : PySem.W.Frag} {T : Tab} {m : List Addr} {L : Addr → Prop} {H : Hp} {s : List Nat} : Walks K T m L H (Its (tx s)) (wkL (s.map fun c => .str [c])) := by
  refine ⟨fun P m' S' H' i d le rs hi e => ?_, fun P m' S' H' le rs _ => ?_⟩
  · have hi' : i < s.length := by simpa [wkL] using hi
    have e' : (s.map fun c => D.str [c])[i]? = some d := e
    rw [List.getElem?_map, List.getElem?_eq_getElem hi'] at e'
    cases e'
    refine ⟨by show i < s.toArray.size; simpa using hi', fun x H'' ⟨eH, c, ec, ex⟩ => ?_⟩
    subst eH; subst ex
    have ec' : s.toArray[i]? = some c := ec
    rw [List.getElem?_toArray, List.getElem?_eq_getElem hi'] at ec'
    cases ec'
    exact ⟨fun _ _ e => e, .str [s[i]]⟩
  · show s.toArray.size ≤ (s.map fun c => D.str [c]).length
    simp
theorem walks_obj {K : PySem.W.Frag} {T : Tab} {m : List Addr} {L : Addr → Prop} {H : Hp} {a : Addr} {j n : Nat} (hj : m[j]? = some a) : Walks K T m L H (Itl K a) (wkO j n) := by
  refine ⟨fun P m' S' H' i d le rs hi e => ?_, fun P m' S' H' le rs hf => ?_⟩
  · have e' : (match S'[j]? with
      | some (.lst es) => if es.length = n then es[i]? else none
      | _ => none) = some d := e
    cases hs : S'[j]? with
    | none => simp only [hs] at e'; cases e'
    | some o =>
      cases o with
      | lst es =>
        simp only [hs] at e'
        split at e'
        · cases rs.at_ j a _ (le.get hj) hs with
          | lst h1 h2 =>
            obtain ⟨v, h3, h4⟩ := Rs.getD h2 e'
            refine ⟨⟨_, v, SqL.of h1, h3⟩, fun x H'' ⟨eH, y⟩ => ?_⟩
            subst eH
            have := y _ (SqL.of h1)
            rw [h3] at this; cases this
            exact ⟨fun _ _ e => e, h4⟩
        · cases e'
      | _ => simp only [hs] at e'; cases e'
  · have hf' : (match S'[j]? with
      | some (.lst es) => decide (es.length = n)
      | _ => false) = true := hf
    cases hs : S'[j]? with
    | none => simp only [hs] at hf'; cases hf'
    | some o =>
      cases o with
      | lst es =>
        simp only [hs, decide_eq_true_eq] at hf'
        cases rs.at_ j a _ (le.get hj) hs with
        | lst h1 h2 => exact ⟨_, SqL.of h1, by rw [← h2.length, hf']; exact Nat.le_refl _⟩
      | _ => simp only [hs] at hf'; cases hf'
section
variable {X : Cx} {T : Tab} {W : WX} {tg e e2 : Expr} {f f2 : EM} {pos p : Pos}
theorem Meets.giveW {K : PySem.W.Frag} {T : Tab} {P : Addr → Prop} {m : List Addr} {S : Store} {H : Hp} {W : Nat → Hp → Prop} {Q : It → Hp → Prop} {o : Option Wk} (rs : RS K T P m S H) (h : Meets K T P m S H W (GW K T P Q) (giveW o S)) :
    ∃ w, o = some w ∧ ∀ J, Walks K T m (Lv P m S) H J w → Q J H := by
  cases o with
  | none => exact h.elim
  | some d => exact ⟨d, rfl, fun J k => h.now rs J k⟩
theorem i_seq (he : SE X T W e f) : SI X T W tg e (wSeq f) := by
  refine PI.mono (pi_seq he) fun σ H Q ⟨P, m, S, ρ, rs, re, h⟩ => ?_
  refine tE.use rs re h fun m1 S1 H1 d v x1 rs1 re1 r1 h1 => ?_
  obtain ⟨w, ew, q⟩ := h1.giveW rs1
  cases d with
  | lst ds =>
    cases ew
    cases r1 with
    | lst hs n r => exact .inl ⟨_, rfl, ⟨_, SqL.of hs⟩, q _ (walks_lst (.inl ⟨hs, n⟩) r)⟩
  | src ds =>
    cases ew
    cases r1 with
    | src hs r => exact .inl ⟨_, rfl, ⟨_, sr_seq hs⟩, q _ (walks_lst (.inr hs) r)⟩
  | tup ds =>
    cases ew
    cases r1 with
    | tup hs r => exact .inr (.inl ⟨_, rfl, ⟨_, hs⟩, q _ (walks_tup hs r)⟩)
  | str s =>
    cases ew
    cases r1 with
    | str s => exact .inr (.inr ⟨_, rfl, q _ walks_str⟩)
  | obj j =>
    cases r1 with
    | obj hj =>
      unfold wkOf at ew
      cases hs : S1[j]? with
      | none => simp only [hs] at ew; cases ew
      | some o =>
        cases o with
        | lst ds =>
          simp only [hs] at ew
          cases ew
          cases rs1.at_ j _ _ hj hs with
          | lst h1 h2 => exact .inl ⟨_, rfl, ⟨_, SqL.of h1⟩, q _ (walks_obj hj)⟩
        | _ => simp only [hs] at ew; cases ew
  | _ => cases ew
/-- range(n), range(a, b) -/
def rngL (lo : Int) (n : Nat) : List D := (List.range n).map fun (i : Nat) => D.int (lo + i)
theorem walks_rng {K : PySem.W.Frag} {T : Tab} {m : List Addr} {L : Addr → Prop} {H : Hp} {lo : Int} {n : Nat} : Walks K T m L H (Itr lo n) (wkL (rngL lo n)) := by
  refine ⟨fun P m' S' H' i d le rs hi e => ?_, fun P m' S' H' le rs _ => ?_⟩
  · have hi' : i < n := by simpa [wkL, rngL] using hi
    have e' : (rngL lo n)[i]? = some d := e
    unfold rngL at e'
    rw [List.getElem?_map, List.getElem?_range hi'] at e'
    cases e'
    exact ⟨hi', fun x H'' ⟨eH, ex⟩ => by subst eH; subst ex; exact ⟨fun _ _ e => e, .int _⟩⟩
  · show n ≤ (rngL lo n).length
    simp [rngL]
@[simp] def inR (i : Int) : Bool := decide (-4611686018427387904 ≤ i) && decide (i < 4611686018427387904)
theorem inR_ok {i : Int} (h : inR i = true) : -(2 ^ 62) ≤ i ∧ i < 2 ^ 62 := by
  unfold inR at h
  simp only [Bool.and_eq_true, decide_eq_true_eq] at h
  exact ⟨by have := h.1; omega, by have := h.2; omega⟩
@[simp] def wkR1 (d : D) : Option Wk := match d with
  | .int j => if inR j = true then some (wkL (rngL 0 j.toNat)) else none
  | _ => none
@[simp] def wkR2 (d e : D) : Option Wk := match d, e with
  | .int i, .int j => if (inR i && inR j) = true then some (wkL (rngL i (j - i).toNat)) else none
  | _, _ => none
@[simp] def wR1 (f : EM) : WM := fun ρ S => (f ρ S).bind fun d S1 => giveW (wkR1 d) S1
@[simp] def wR2 (f f2 : EM) : WM := fun ρ S => (f ρ S).bind fun d S1 => (f2 ρ S1).bind fun e S2 => giveW (wkR2 d e) S2
theorem i_range1 (hg : Gl X "range") (hm : X.mg "range" = none) (ha : SE X T W e f) (hs : starEach [e] X.env = [(false, eval e X.env)] := by rfl) : SI X T W tg (.Call (.Name "range" p) [e] [] pos) (wR1 f) := by
  refine PI.mono (pi_range1 hg hm (pa_cons ha pa_nil (by rw [hs]; rfl)) hs) fun σ H Q ⟨P, m, S, ρ, rs, re, h⟩ => ?_
  refine tE.use rs re h fun m1 S1 H1 d v x1 rs1 re1 r1 h1 => ?_
  obtain ⟨w, ew, q⟩ := h1.giveW rs1
  cases d with
  | int j =>
    cases r1
    unfold wkR1 at ew
    by_cases hj : inR j = true
    · simp only [hj, if_true] at ew
      cases ew
      exact ⟨j, rfl, (inR_ok hj).1, (inR_ok hj).2, q _ walks_rng⟩
    · simp only [hj] at ew; cases ew
  | _ => cases ew
theorem i_range2 (hg : Gl X "range") (hm : X.mg "range" = none) (ha : SE X T W e f) (hb : SE X T W e2 f2) (hs : starEach [e, e2] X.env = [(false, eval e X.env), (false, eval e2 X.env)] := by rfl) (hs2 : starEach [e2] X.env = [(false, eval e2 X.env)] := by rfl) :
    SI X T W tg (.Call (.Name "range" p) [e, e2] [] pos) (wR2 f f2) := by
  refine PI.mono (pi_range2 hg hm (pa_cons ha (pa_cons hb pa_nil (by rw [hs2]; rfl)) (by rw [hs, hs2])) hs hs2) fun σ H Q ⟨P, m, S, ρ, rs, re, h⟩ => ?_
  refine tE.use rs re h fun m1 S1 H1 d v x1 rs1 re1 r1 h1 => ?_
  refine tE.use rs1 re1 h1 fun m2 S2 H2 d2 v2 x2 rs2 re2 r2 h2 => ?_
  obtain ⟨w, ew, q⟩ := h2.giveW rs2
  cases d with
  | int i =>
    cases d2 with
    | int j =>
      cases r1; cases r2
      unfold wkR2 at ew
      by_cases hj : (inR i && inR j) = true
      · simp only [hj, if_true] at ew
        cases ew
        obtain ⟨h3, h4⟩ := Bool.and_eq_true_iff.mp hj
        exact ⟨i, j, rfl, ⟨(inR_ok h3).1, (inR_ok h3).2, (inR_ok h4).1, (inR_ok h4).2⟩, q _ walks_rng⟩
      · simp only [hj] at ew; cases ew
    | _ => cases ew
  | _ => cases ew
end

/-! ### for -/
def forM (w : Wk) (tg : Tg) (body : SM) : Nat → Nat → Ev → Store → SR
  | 0, _, ρ, S => if w.fin S = true then .nx ρ S else .stuck
  | k + 1, i, ρ, S => match w.cur S i with
    | none => .stuck
    | some d => match tg.put d ρ with
      | none => .stuck
      | some ρ1 => match body ρ1 S with
        | .nx ρ2 S2 => forM w tg body k (i + 1) ρ2 S2
        | .ct ρ2 S2 => forM w tg body k (i + 1) ρ2 S2
        | .bk ρ2 S2 => .nx ρ2 S2
        | .rt d S2 => .rt d S2
        | .exc c ρ2 S2 => .exc c ρ2 S2
        | .stuck => .stuck
def sFor (fi : WM) (tg : Tg) (body : SM) : SM := fun ρ S => (fi ρ S).sb ρ fun w S1 => forM w tg body w.n 0 ρ S1
theorem SMeets.keep {K : PySem.W.Frag} {T : Tab} {P : Addr → Prop} {m : List Addr} {S : Store} {H H1 : Hp} {W : WX} {E : Ends} {r : SR} (k : ∀ b o, H b = some o → H1 b = some o) (h : SMeets K T P m S H W E r) : SMeets K T P m S H1 W E r := SMeets.shift (ext_grow k) h
theorem s_for {X : Cx} {T : Tab} {W : WX} {tg iter : Expr} {body : List Stmt} {fi : WM} {t : Tg} {g : SM} {pos : Pos} (hp : PassesOwn (model X.prog X.w) X.A X.env X.xe) (hc : X.calm = true) (hi : SI X T W tg iter fi) (hg : PG X tg (tG X.K T t)) (hb : SS X T W body g)
    (hs : ∀ x, foldedSetIterable iter X.env x = pure x := by intro _; rfl) : S1 X T W (.For tg iter body [] pos) (sFor fi t g) := by
  refine PS.mono (ps_for hp hc hi hg hb hs) fun E σ H ⟨P, m, S, ρ, rs, re, h⟩ => ?_
  refine ⟨P, m, S, ρ, rs, re, (SMeets.sb rs re h).imp fun m1 S1 H1 w x1 rs1 h1 J wk => ?_⟩
  refine ⟨fun i k σ' H' => ∃ m' S' ρ', i + k = w.n ∧ Le X.K m1 (Lv P m1 S1) H1 m' (Lv P m' S') H' ∧ RS X.K T P m' S' H' ∧ RE X.K m' (Lv P m' S') H' ρ' σ' ∧ SMeets X.K T P m' S' H' W E (forM w t g k i ρ' S'),
    ⟨w.n, m1, S1, ρ, by omega, .refl, rs1, RE.ext x1 rs re, h1⟩, ?_⟩
  rintro i k σ' H' ⟨m', S', ρ', hik, le, rs', re', h'⟩
  cases k with
  | zero =>
    unfold forM at h'
    by_cases hf : w.fin S' = true
    · rw [if_pos hf] at h'
      have hi0 : i = w.n := by omega
      subst hi0
      exact .inl ⟨wk.stop P m' S' H' le rs' hf, h' m' H' σ' .refl rs' re'⟩
    · rw [if_neg hf] at h'; exact h'.elim
  | succ k =>
    unfold forM at h'
    cases hcur : w.cur S' i with
    | none => simp only [hcur] at h'; exact h'.elim
    | some d =>
      simp only [hcur] at h'
      obtain ⟨jg, jy⟩ := wk.go P m' S' H' i d le rs' (by omega) hcur
      refine .inr ⟨jg, fun σ2 H2 => ∃ m2 S2 ρ2, Le X.K m1 (Lv P m1 S1) H1 m2 (Lv P m2 S2) H2 ∧ RS X.K T P m2 S2 H2 ∧ RE X.K m2 (Lv P m2 S2) H2 ρ2 σ2 ∧ SMeets X.K T P m2 S2 H2 W E (forM w t g k (i + 1) ρ2 S2),
        fun σ2 H2 ⟨m2, S2, ρ2, a, b, c, d⟩ => ⟨k, Nat.lt_succ_self _, m2, S2, ρ2, by omega, a, b, c, d⟩, fun x H'' y => ?_⟩
      obtain ⟨kg, rx⟩ := jy x H'' y
      have x2 : Ext m' S' H' m' S' H'' := ext_grow kg
      have rs2 := rs'.ext0 kg
      have re2 := RE.ext x2 rs' re'
      have le2 := le.trans (x2.toLe rs')
      have h2 := SMeets.shift x2 h'
      cases hput : t.put d ρ' with
      | none => simp only [hput] at h2; exact h2.elim
      | some ρ1 =>
        simp only [hput] at h2
        refine ⟨P, m', S', ρ', d, ρ1, rs2, re2, rx, hput, fun σ3 re3 _ => ⟨P, m', S', ρ1, rs2, re3, ?_⟩⟩
        cases hbod : g ρ1 S' with
        | nx ρ2 S2 =>
          simp only [hbod] at h2
          exact fun m3 H3 σ4 x3 rs3 re4 => ⟨m3, S2, ρ2, le2.trans (x3.toLe rs2), rs3, re4, SMeets.shift x3 h2⟩
        | ct ρ2 S2 =>
          simp only [hbod] at h2
          exact fun m3 H3 σ4 x3 rs3 re4 => ⟨m3, S2, ρ2, le2.trans (x3.toLe rs2), rs3, re4, SMeets.shift x3 h2⟩
        | bk ρ2 S2 => simp only [hbod] at h2; exact h2
        | rt d S2 => simp only [hbod] at h2; exact h2
        | exc c ρ2 S2 => simp only [hbod] at h2; exact h2
        | stuck => simp only [hbod] at h2; exact h2

/-! ### while -/
def whileM (c : BM) (body : SM) : Nat → Ev → Store → SR
  | 0, _, _ => .stuck
  | k + 1, ρ, S => (c ρ S).sb ρ fun b S1 => if b = true then (match body ρ S1 with
    | .nx ρ2 S2 => whileM c body k ρ2 S2
    | .ct ρ2 S2 => whileM c body k ρ2 S2
    | .bk ρ2 S2 => .nx ρ2 S2
    | .rt d S2 => .rt d S2
    | .exc c ρ2 S2 => .exc c ρ2 S2
    | .stuck => .stuck) else .nx ρ S1
open Classical in
noncomputable def sWhile (c : BM) (body : SM) : SM := fun ρ S => if h : ∃ k, whileM c body k ρ S ≠ .stuck then whileM c body h.choose ρ S else .stuck
theorem while_more (c : BM) (body : SM) : ∀ (k j : Nat) (ρ : Ev) (S : Store), whileM c body k ρ S ≠ .stuck → whileM c body (k + j) ρ S = whileM c body k ρ S
  | 0, _, _, _, h => (h rfl).elim
  | k + 1, j, ρ, S, h => by
    rw [show k + 1 + j = (k + j) + 1 by omega]
    unfold whileM at h ⊢
    cases hc : c ρ S with
    | exc => rfl
    | stuck => rfl
    | ok b S1 =>
      simp only [hc, Res.sb] at h ⊢
      cases b with
      | false => rfl
      | true =>
        simp only [if_true] at h ⊢
        cases hb : body ρ S1 with
        | nx ρ2 S2 => simp only [hb] at h ⊢; exact while_more c body k j ρ2 S2 h
        | ct ρ2 S2 => simp only [hb] at h ⊢; exact while_more c body k j ρ2 S2 h
        | _ => rfl
theorem sWhile_eq {c : BM} {body : SM} {ρ : Ev} {S : Store} (k : Nat) (h : whileM c body k ρ S ≠ .stuck) : sWhile c body ρ S = whileM c body k ρ S := by
  unfold sWhile
  have hx : ∃ k, whileM c body k ρ S ≠ .stuck := ⟨k, h⟩
  rw [dif_pos hx]
  have h1 := while_more c body _ k ρ S hx.choose_spec
  have h2 := while_more c body k hx.choose ρ S h
  rw [← h1, ← h2, Nat.add_comm]
theorem s_while {X : Cx} {T : Tab} {W : WX} {t : Expr} {body : List Stmt} {c : BM} {g : SM} {pos : Pos} (hp : PassesOwn (model X.prog X.w) X.A X.env X.xe) (hc : ST X T W t c) (hb : SS X T W body g) : S1 X T W (.While t body [] pos) (sWhile c g) := by
  refine PS.mono (ps_while hp hc hb) fun E σ H ⟨P, m, S, ρ, rs, re, h⟩ => ?_
  have h0 : ∃ k, SMeets X.K T P m S H W E (whileM c g k ρ S) := by
    unfold sWhile at h
    split at h
    · exact ⟨_, h⟩
    · exact h.elim
  obtain ⟨k0, h0⟩ := h0
  refine ⟨fun k σ' H' => ∃ m' S' ρ', RS X.K T P m' S' H' ∧ RE X.K m' (Lv P m' S') H' ρ' σ' ∧ SMeets X.K T P m' S' H' W E (whileM c g k ρ' S'), ⟨k0, m, S, ρ, rs, re, h0⟩, ?_⟩
  rintro k σ' H' ⟨m', S', ρ', rs', re', h'⟩
  cases k with
  | zero => exact h'.elim
  | succ k =>
    unfold whileM at h'
    refine tT.suse rs' re' h' fun m1 S1 H1 b x1 rs1 re1 h1 => ?_
    cases b with
    | false => exact h1 m1 H1 σ' .refl rs1 re1
    | true =>
      simp only [if_true] at h1
      refine ⟨fun σ2 H2 => ∃ m2 S2 ρ2, RS X.K T P m2 S2 H2 ∧ RE X.K m2 (Lv P m2 S2) H2 ρ2 σ2 ∧ SMeets X.K T P m2 S2 H2 W E (whileM c g k ρ2 S2), fun σ2 H2 ⟨m2, S2, ρ2, b, c, d⟩ => ⟨k, Nat.lt_succ_self _, m2, S2, ρ2, b, c, d⟩, P, m1, S1, ρ', rs1, re1, ?_⟩
      cases hbod : g ρ' S1 with
      | nx ρ2 S2 => simp only [hbod] at h1; exact fun m3 H3 σ4 x3 rs3 re4 => ⟨m3, S2, ρ2, rs3, re4, SMeets.shift x3 h1⟩
      | ct ρ2 S2 => simp only [hbod] at h1; exact fun m3 H3 σ4 x3 rs3 re4 => ⟨m3, S2, ρ2, rs3, re4, SMeets.shift x3 h1⟩
      | bk ρ2 S2 => simp only [hbod] at h1; exact h1
      | rt d S2 => simp only [hbod] at h1; exact h1
      | exc c ρ2 S2 => simp only [hbod] at h1; exact h1
      | stuck => simp only [hbod] at h1; exact h1

/-! ### fresh lists -/
abbrev LM := Ev → Store → Res (List D)
def GF (K : PySem.W.Frag) (T : Tab) (P : Addr → Prop) (H0 : Hp) (Q : VK) : List Addr → Store → Hp → List D → Prop := fun m S H ds => ∀ p vs, H0 p = none → H p = some (.lst vs) → RS K T (PP P p) m S H → Rs K m (Lv (PP P p) m S) H ds vs → Q (.ref p) H
def tF (K : PySem.W.Frag) (T : Tab) (W : WX) (f : LM) : TE := fun σ H Q => ∃ P m S ρ, RS K T P m S H ∧ RE K m (Lv P m S) H ρ σ ∧ Meets K T P m S H (WN T W σ) (GF K T P H Q) (f ρ S)
abbrev SF (X : Cx) (T : Tab) (W : WX) (e : Expr) (f : LM) : Prop := PE X e (tF X.K T W f)
@[simp] def eFrz (f : LM) : EM := fun ρ S => (f ρ S).bind fun ds S1 => .ok (.lst ds) S1
@[simp] def eNew (f : LM) : EM := fun ρ S => (f ρ S).bind fun ds S1 => .ok (.obj S1.length) (S1 ++ [.lst ds])
theorem none_back {m m' : List Addr} {S S' : Store} {H H' : Hp} (x : Ext m S H m' S' H') {p : Addr} (h : H' p = none) : H p = none := by
  cases e : H p with
  | none => rfl
  | some o =>
    obtain ⟨o', e'⟩ := x.there p o e
    rw [h] at e'; cases e'
theorem pp_sub {P : Addr → Prop} {p : Addr} : ∀ a, P a → PP P p a := fun _ q => .inl q
theorem frz_at {K : PySem.W.Frag} {T : Tab} {P : Addr → Prop} {m : List Addr} {S : Store} {H : Hp} {p : Addr} {vs : List V} {ds : List D} (rs : RS K T (PP P p) m S H) (hp : ¬ P p) (h : H p = some (.lst vs)) (r : Rs K m (Lv (PP P p) m S) H ds vs) : R K m (Lv P m S) H (.lst ds) (.ref p) := by
  obtain ⟨rs', le⟩ := rs.unprot (pp_sub (P := P) (p := p))
  refine .lst h (fun l => ?_) (Rs.le le _ _ r)
  rcases l with l | ⟨i, o, e1, e2, e3⟩
  · exact hp l
  · exact rs.disj i p e1 (.inr rfl)
theorem s_frz {X : Cx} {T : Tab} {W : WX} {e : Expr} {f : LM} (h : SF X T W e f) : SE X T W e (eFrz f) := by
  refine PE.mono h fun σ H Q ⟨P, m, S, ρ, rs, re, h⟩ => ⟨P, m, S, ρ, rs, re, h.bind.imp fun m1 S1 H1 ds x1 rs1 q p vs hp hl rsp r => ?_⟩
  exact q.now rs1 (.ref p) (frz_at rsp (fun z => by obtain ⟨_, e, _⟩ := rs.prot p z; rw [hp] at e; cases e) hl r)
theorem new_at {K : PySem.W.Frag} {T : Tab} {P : Addr → Prop} {m m0 : List Addr} {S S0 : Store} {H H0 : Hp} {p : Addr} {vs : List V} {ds : List D} (x : Ext m0 S0 H0 m S H) (hp : H0 p = none) (rs : RS K T (PP P p) m S H) (hP : ¬ P p) (h : H p = some (.lst vs)) (r : Rs K m (Lv (PP P p) m S) H ds vs) :
    Ext m0 S0 H0 (m ++ [p]) (S ++ [.lst ds]) H ∧ RS K T P (m ++ [p]) (S ++ [.lst ds]) H ∧ (m ++ [p])[S.length]? = some p := by
  refine ⟨ext_new x hp rs.len, RS.new rs (P := P) (fun a q => .inl q) hP (fun i a e z => rs.disj i a e (.inr z)) (fun a q => q) (fun k _ => .lst h (k _ _ r)) (.inr rfl) ⟨_, h⟩, by rw [← rs.len]; simp⟩
theorem s_new {X : Cx} {T : Tab} {W : WX} {e : Expr} {f : LM} (h : SF X T W e f) : SE X T W e (eNew f) := by
  refine PE.mono h fun σ H Q ⟨P, m, S, ρ, rs, re, h⟩ => ⟨P, m, S, ρ, rs, re, ?_⟩
  have hP : ∀ p, H p = none → ¬ P p := fun p hp z => by obtain ⟨_, e, _⟩ := rs.prot p z; rw [hp] at e; cases e
  cases hf : f ρ S with
  | ok ds S' =>
    unfold eNew at h
    rw [hf] at h
    intro m1 H1 x1 rs1 p vs hp hl rsp r
    obtain ⟨x2, rs2, g2⟩ := new_at x1 hp rsp (hP p hp) hl r
    exact h (m1 ++ [p]) H1 x2 rs2 _ (.obj g2)
  | exc c S' => unfold eNew at h; rw [hf] at h; exact h
  | stuck => unfold eNew at h; rw [hf] at h; exact h
/-- a list made at once -/
theorem fresh_upd {K : PySem.W.Frag} {T : Tab} {P : Addr → Prop} {m m0 : List Addr} {S S0 : Store} {H H0 : Hp} {W : Nat → Hp → Prop} {Q : VK} {ds : List D} {vs : List V} (x : Ext m0 S0 H0 m S H) (rs : RS K T P m S H) (r : Rs K m (Lv P m S) H ds vs) (h : Meets K T P m S H W (GF K T P H0 Q) (.ok ds S)) :
    ∀ p, H p = none → Q (.ref p) (L2.upd H p (.lst vs)) := fun p hp => by
  obtain ⟨rs2, le⟩ := rs.prot1 (u := .lst vs) hp trivial
  exact h m _ (ext_upd hp) (rs.upd hp) p vs (none_back x hp) upd_same rs2 (Rs.le le _ _ r)
@[simp] def fLst (f : AM) : LM := fun ρ S => (f ρ S).bind fun ds S1 => if big ds.length = true then .ok ds S1 else .stuck
theorem f_lst {X : Cx} {T : Tab} {W : WX} {es : List Expr} {fa : AM} {pos : Pos} (h : SA X T W es fa) : SF X T W (.List es pos) (fLst fa) := by
  refine PE.mono (pe_lst h) fun σ H Q ⟨P, m, S, ρ, rs, re, h⟩ => ?_
  refine tA.use rs re h fun m1 S1 H1 ds vs x1 rs1 re1 r1 h1 => ?_
  by_cases hb : big ds.length = true
  · rw [if_pos hb] at h1
    exact ⟨by rw [← r1.length]; exact big_ok hb, fresh_upd x1 rs1 r1 h1⟩
  · rw [if_neg hb] at h1; exact h1.elim

/-! ### comprehensions -/
def wipeE (ρ : Ev) : List Nat → Ev
  | [] => ρ
  | i :: is => (wipeE ρ is).set i none
@[simp] def Res.nx {α : Type} (r : Res α) : Res α := match r with
  | .ok a S => .ok a S
  | _ => .stuck
def compM (w : Wk) (tg : Tg) (tt : BM) (el : EM) (ρ0 : Ev) : Nat → Nat → Store → List D → Res (List D)
  | 0, _, S, acc => if w.fin S = true then .ok acc S else .stuck
  | k + 1, i, S, acc => match w.cur S i with
    | none => .stuck
    | some d => match tg.put d ρ0 with
      | none => .stuck
      | some ρ1 => (tt ρ1 S).nx.bind fun b S1 => if b = true then (el ρ1 S1).nx.bind fun y S2 => if acc.length < 16777216 then compM w tg tt el ρ0 k (i + 1) S2 (acc ++ [y]) else .stuck
        else compM w tg tt el ρ0 k (i + 1) S1 acc
def fComp (fi : WM) (tg : Tg) (tt : BM) (el : EM) (own : List Nat) : LM := fun ρ S => (fi ρ S).bind fun w S1 => compM w tg tt el (wipeE ρ own) w.n 0 S1 []
abbrev W0 : WX := fun _ _ _ _ => False
@[simp] def bYes : BM := fun _ S => .ok true S
theorem ts_nil {X : Cx} {T : Tab} {W : WX} : PTs X [] (tT X.K T W bYes) := ⟨fun pins s σ H Q I ⟨P, m, S, ρ, rs, re, h⟩ => pts_nil.run pins s σ H Q I (h.now rs)⟩
theorem ts_one {X : Cx} {T : Tab} {W : WX} {c : Expr} {f : BM} (h : ST X T W c f) : PTs X [c] (tT X.K T W f) := pts_one h
theorem re_wipe {K : PySem.W.Frag} {P : Addr → Prop} {m : List Addr} {S : Store} {H : Hp} {ρ : Ev} {σ : L2.St} (e : RE K m (Lv P m S) H ρ σ) : ∀ own, RE K m (Lv P m S) H (wipeE ρ own) (wipe σ own)
  | [] => e
  | i :: is => by
    unfold wipeE wipe
    exact RE.forget (re_wipe e is) i none
theorem wipe_get (σ : L2.St) : ∀ (vs : List Nat) (j : Nat), (wipe σ vs)[j]? = if j ∈ vs ∧ j < σ.length then some none else σ[j]?
  | [], j => by simp [wipe]
  | v :: vs, j => by
    unfold wipe
    by_cases h : v = j
    · subst h
      by_cases hl : v < σ.length
      · rw [List.getElem?_set_self (by rw [wipe_length]; exact hl), if_pos ⟨by simp, hl⟩]
      · rw [List.getElem?_eq_none (by simp [wipe_length]; omega), if_neg (fun z => hl z.2), List.getElem?_eq_none (by omega)]
    · rw [List.getElem?_set_ne h, wipe_get σ vs j]
      have : (j ∈ v :: vs) ↔ j ∈ vs := by simp [Ne.symm h]
      simp only [this]
theorem wipe_same {σ σ2 : L2.St} {vs l : List Nat} (h : ∀ j ∈ l, j ∈ vs) (k : KeepBut l (wipe σ vs) σ2) : wipe σ2 vs = wipe σ vs := by
  have hlen : σ2.length = σ.length := by rw [k.1, wipe_length]
  apply List.ext_getElem?
  intro j
  rw [wipe_get, wipe_get]
  by_cases hj : j ∈ vs
  · by_cases hl : j < σ.length
    · rw [if_pos ⟨hj, by omega⟩, if_pos ⟨hj, hl⟩]
    · rw [if_neg (fun z => hl (by omega)), if_neg (fun z => hl z.2), List.getElem?_eq_none (by omega), List.getElem?_eq_none (by omega)]
  · rw [if_neg (fun z => hj z.1), if_neg (fun z => hj z.1), k.2 j (fun z => hj (h j z)), wipe_get, if_neg (fun z => hj z.1)]
theorem Meets.bind0 {α β : Type} {K : PySem.W.Frag} {T : Tab} {P : Addr → Prop} {m : List Addr} {S : Store} {H : Hp} {W : Nat → Hp → Prop} {r : Res α} {k : α → Store → Res β} {G : List Addr → Store → Hp → β → Prop} (h : Meets K T P m S H W G (r.bind k)) : Meets K T P m S H W (fun _ S1 _ a => Meets K T P m S H W G (k a S1)) r := by
  cases r with
  | ok a S' => exact fun m' H' y rs => h
  | exc c S' => exact h
  | stuck => exact h
theorem Meets.noexc {α : Type} {K : PySem.W.Frag} {T : Tab} {P : Addr → Prop} {m : List Addr} {S : Store} {H : Hp} {W W' : Nat → Hp → Prop} {G : List Addr → Store → Hp → α → Prop} {r : Res α} (h : Meets K T P m S H W G r.nx) : Meets K T P m S H W' G r := by
  cases r with
  | ok a S' => exact h
  | exc c S' => exact h.elim
  | stuck => exact h.elim
theorem Meets.prot {α : Type} {K : PySem.W.Frag} {T : Tab} {P P' : Addr → Prop} {m : List Addr} {S : Store} {H : Hp} {W : Nat → Hp → Prop} {G : List Addr → Store → Hp → α → Prop} {r : Res α} (hP : ∀ a, P a → P' a) (h : Meets K T P m S H W G r) : Meets K T P' m S H W G r := by
  cases r with
  | ok a S' => exact fun m' H' x rs => h m' H' x (rs.unprot hP).1
  | exc c S' => exact fun m' H' x rs => h m' H' x (rs.unprot hP).1
  | stuck => exact h
theorem comp_imp {K : PySem.W.Frag} {T : Tab} {W : WX} {own : List (Str × Nat)} {ov : List Nat} {fi : WM} {t : Tg} {tt : BM} {el : EM} (hov : own.map (·.2) = ov) (hsl : ∀ j ∈ t.slots, j ∈ ov) {σ : L2.St} {H : Hp} {Q : VK}
    (h : tF K T W (fComp fi t tt el ov) σ H Q) : tLc (tI K T W fi) (tG K T t) (tT K T W0 tt) (tE K T W0 el) (own.map (·.2)) σ H Q := by
  obtain ⟨P, m, S, ρ, rs, re, h⟩ := h
  subst hov
  refine ⟨P, m, S, ρ, rs, re, h.bind.imp fun m1 S1 H1 w x1 rs1 h1 J wk => fun D hD => ?_⟩
  have hD0 : H D = none := none_back x1 hD
  obtain ⟨rsD, leD⟩ := rs1.prot1 (u := .lst []) hD trivial
  have reD : RE K m1 (Lv (PP P D) m1 S1) (L2.upd H1 D (.lst [])) ρ σ := ⟨re.len, fun i d e => let ⟨v, a, b⟩ := (RE.ext x1 rs re).get i d e; ⟨v, a, R.le leD d v b⟩⟩
  have xD : Ext m1 S1 H1 m1 S1 (L2.upd H1 D (.lst [])) := ext_upd hD
  refine ⟨fun i k H' => ∃ m' S' ds vs, i + k = w.n ∧ Ext m1 S1 H1 m' S' H' ∧ Le K m1 (Lv P m1 S1) H1 m' (Lv (PP P D) m' S') H' ∧ RS K T (PP P D) m' S' H' ∧ RE K m' (Lv (PP P D) m' S') H' ρ σ ∧ H' D = some (.lst vs) ∧ Rs K m' (Lv (PP P D) m' S') H' ds vs ∧
      Meets K T P m1 S1 H1 (WN T W σ) (GF K T P H Q) (compM w t tt el (wipeE ρ (own.map (·.2))) k i S' ds),
    ⟨w.n, m1, S1, [], [], by omega, xD, leD, rsD, reD, upd_same, .nil, h1⟩, ?_⟩
  rintro i k H' ⟨m', S', ds, vs, hik, xx, le, rs', re', hDl, r', h'⟩
  cases k with
  | zero =>
    unfold compM at h'
    by_cases hf : w.fin S' = true
    · rw [if_pos hf] at h'
      have hi0 : i = w.n := by omega
      subst hi0
      exact .inl ⟨wk.stop _ m' S' H' le rs' hf, h' m' H' xx (rs'.unprot pp_sub).1 D vs hD0 hDl rs' r'⟩
    · rw [if_neg hf] at h'; exact h'.elim
  | succ k =>
    unfold compM at h'
    cases hcur : w.cur S' i with
    | none => simp only [hcur] at h'; exact h'.elim
    | some d =>
      simp only [hcur] at h'
      obtain ⟨jg, jy⟩ := wk.go _ m' S' H' i d le rs' (by omega) hcur
      refine .inr ⟨jg, fun H2 => ∃ m2 S2 ds2 vs2, Ext m1 S1 H1 m2 S2 H2 ∧ Le K m1 (Lv P m1 S1) H1 m2 (Lv (PP P D) m2 S2) H2 ∧ RS K T (PP P D) m2 S2 H2 ∧ RE K m2 (Lv (PP P D) m2 S2) H2 ρ σ ∧ H2 D = some (.lst vs2) ∧ Rs K m2 (Lv (PP P D) m2 S2) H2 ds2 vs2 ∧
          Meets K T P m1 S1 H1 (WN T W σ) (GF K T P H Q) (compM w t tt el (wipeE ρ (own.map (·.2))) k (i + 1) S2 ds2),
        fun H2 ⟨m2, S2, ds2, vs2, z, a, b, c, d, e, f⟩ => ⟨k, Nat.lt_succ_self _, m2, S2, ds2, vs2, by omega, z, a, b, c, d, e, f⟩, fun x H'' y => ?_⟩
      obtain ⟨kg, rx⟩ := jy x H'' y
      have x2 : Ext m' S' H' m' S' H'' := ext_grow kg
      have rs2 := rs'.ext0 kg
      have re2 := RE.ext x2 rs' re'
      have le2 := le.trans (x2.toLe rs')
      have xx2 := xx.trans x2
      have r2 := Rs.ext x2 rs' r'
      have hDl2 := kg _ _ hDl
      have nD : ∀ {m S H}, RS K T (PP P D) m S H → ¬ Live m S D := fun {m S H} r ⟨i, o, e1, _, _⟩ => r.disj i D e1 (.inr rfl)
      cases hput : t.put d (wipeE ρ (own.map (·.2))) with
      | none => simp only [hput] at h'; exact h'.elim
      | some ρ1 =>
        simp only [hput] at h'
        refine ⟨PP P D, m', S', wipeE ρ (own.map (·.2)), d, ρ1, rs2, re_wipe re2 _, rx, hput, fun σ3 re3 kb => ⟨wipe_same hsl kb, PP P D, m', S', ρ1, rs2, re3, ?_⟩⟩
        refine (Meets.noexc (Meets.prot pp_sub (Meets.shift xx2 (Meets.bind0 h'))) : Meets K T (PP P D) m' S' H'' (WN T W0 σ3) _ (tt ρ1 S')).imp fun m3 S3 H3 b x3 rs3 h3 => ?_
        have r3 := Rs.ext x3 rs2 r2
        have hDl3 := x3.keep _ _ hDl2 (nD rs2)
        have le3 := le2.trans (x3.toLe rs2)
        have xx3 := xx2.trans x3
        have re33 := RE.ext x3 rs2 re2
        cases b with
        | false =>
          simp only [Bool.false_eq_true, if_false] at h3
          exact ⟨m3, S3, ds, vs, xx3, le3, rs3, re33, hDl3, r3, h3⟩
        | true =>
          simp only [if_true] at h3
          refine ⟨PP P D, m3, S3, ρ1, rs3, RE.ext x3 rs2 re3, (Meets.noexc (Meets.prot pp_sub (Meets.shift xx3 (Meets.bind0 h3))) : Meets K T (PP P D) m3 S3 H3 (WN T W0 σ3) _ (el ρ1 S3)).imp fun m4 S4 H4 y4 x4 rs4 h4 v4 rv4 => ?_⟩
          have r4 := Rs.ext x4 rs3 r3
          have hDl4 := x4.keep _ _ hDl3 (nD rs3)
          have hl4 := r4.length
          have xx4 := xx3.trans x4
          by_cases hz : ds.length < 16777216
          · rw [if_pos hz] at h4
            refine ⟨vs, hDl4, by rw [sizeLine_eq]; omega, ?_⟩
            -- the list at D is changed: nothing else sees it
            have le5 : Le K m4 (Lv (PP P D) m4 S4) H4 m4 (Lv (PP P D) m4 S4) (L2.upd H4 D (.lst (vs ++ [v4]))) := by
              have ne : ∀ {b : Addr}, ¬ Lv (PP P D) m4 S4 b → b ≠ D := fun {b} n z => n (.inl (.inr z))
              have nt : ∀ {b : Addr} {xs : List V}, Rd H4 b (.tup xs) → b ≠ D := fun {b xs} e z => by
                subst z
                rcases e with e | ⟨_, e⟩ <;> rw [hDl4] at e <;> cases e
              refine ⟨fun e => e, fun e => ?_, fun e n => ⟨?_, n⟩, fun e => ?_, fun e n => ⟨?_, n⟩⟩
              · exact rd_keep (fun o e' => by rw [upd_ne (nt e)]; exact e') e
              · rw [upd_ne (ne n)]; exact e
              · rw [upd_ne fun z => by rw [z, hDl4] at e; cases e]; exact e
              · rw [upd_ne (ne n)]; exact e
            have rs5 : RS K T (PP P D) m4 S4 (L2.upd H4 D (.lst (vs ++ [v4]))) := by
              refine ⟨rs4.len, fun j a o e1 e2 => (rs4.at_ j a o e1 e2).le le5 (upd_ne fun z => rs4.disj j a e1 (.inr z)), rs4.inj, fun a q => ?_, rs4.disj, fun j a e => ?_⟩
              · by_cases ha : a = D
                · subst ha; exact ⟨_, upd_same, trivial⟩
                · rw [upd_ne ha]; exact rs4.prot a q
              · obtain ⟨o, e'⟩ := rs4.trk j a e
                by_cases ha : a = D
                · subst ha; exact ⟨_, upd_same⟩
                · exact ⟨o, by rw [upd_ne ha]; exact e'⟩
            have re44 := RE.ext x4 rs3 re33
            have xx5 : Ext m1 S1 H1 m4 S4 (L2.upd H4 D (.lst (vs ++ [v4]))) := by
              refine ⟨xx4.pre, fun b o e n => ?_, fun b o e => ?_, xx4.dead, xx4.fresh⟩
              · rw [upd_ne (ne_of_none e hD)]; exact xx4.keep b o e n
              · rw [upd_ne (ne_of_none e hD)]; exact xx4.there b o e
            exact ⟨m4, S4, ds ++ [y4], vs ++ [v4], xx5, (le3.trans (x4.toLe rs3)).trans le5, rs5, ⟨re44.len, fun j d' e => let ⟨v, a, b⟩ := re44.get j d' e; ⟨v, a, R.le le5 d' v b⟩⟩, upd_same, Rs.snoc (Rs.le le5 _ _ r4) (R.le le5 _ _ rv4), h4⟩
          · rw [if_neg hz] at h4; exact h4.elim
theorem f_comp {X : Cx} {T : Tab} {W : WX} {elt tg iter : Expr} {ifs : List Expr} {scope : Scope} {own : List (Str × Nat)} {ov : List Nat} {pos : Pos} {fi : WM} {t : Tg} {tt : BM} {el : EM} (hc : X.calm = true) (hN : X.N.Nodup) (hi : SI X T W tg iter fi) (ok : BlkOk X.N X.env.scope scope own)
    (hov : own.map (·.2) = ov) (hsl : ∀ j ∈ t.slots, j ∈ ov)
    (hg : ∀ (s : Shared) (H : Hp) (C : Addr) (cl : List (Str × Addr)) (fp : List Addr), PG (X.blk s H scope (compEnvC scope cl C X.env) fp) tg (tG X.K T t)) (ht : ∀ (s : Shared) (H : Hp) (C : Addr) (cl : List (Str × Addr)) (fp : List Addr), PTs (X.blk s H scope (compEnvC scope cl C X.env) fp) ifs (tT X.K T W0 tt))
    (he : ∀ (s : Shared) (H : Hp) (C : Addr) (cl : List (Str × Addr)) (fp : List Addr), SE (X.blk s H scope (compEnvC scope cl C X.env) fp) T W0 elt el) (hs : ∀ x, foldedSetIterable iter X.env x = pure x := by intro _; rfl) :
    SF X T W (.ListComp elt [⟨tg, iter, ifs, 0⟩] scope pos) (fComp fi t tt el ov) :=
  PE.mono (pe_lc (te := tE X.K T W0 el) hc hN hi ok hg ht he hs) fun σ H Q h => comp_imp hov hsl h
theorem frz_imp {K : PySem.W.Frag} {T : Tab} {W : WX} {f : LM} {σ : L2.St} {H : Hp} {Q : VK} (h : tE K T W (eFrz f) σ H Q) : tF K T W f σ H Q := by
  obtain ⟨P, m, S, ρ, rs, re, h⟩ := h
  refine ⟨P, m, S, ρ, rs, re, h.bind.imp fun m1 S1 H1 ds x1 rs1 q p vs hp hl rsp r => ?_⟩
  exact q.now rs1 (.ref p) (frz_at rsp (fun z => by obtain ⟨_, e, _⟩ := rs.prot p z; rw [hp] at e; cases e) hl r)
theorem new_imp {K : PySem.W.Frag} {T : Tab} {W : WX} {f : LM} {σ : L2.St} {H : Hp} {Q : VK} (h : tE K T W (eNew f) σ H Q) : tF K T W f σ H Q := by
  obtain ⟨P, m, S, ρ, rs, re, h⟩ := h
  refine ⟨P, m, S, ρ, rs, re, ?_⟩
  have hP : ∀ p, H p = none → ¬ P p := fun p hp z => by obtain ⟨_, e, _⟩ := rs.prot p z; rw [hp] at e; cases e
  cases hf : f ρ S with
  | ok ds S' =>
    unfold eNew at h
    rw [hf] at h
    intro m1 H1 x1 rs1 p vs hp hl rsp r
    obtain ⟨x2, rs2, g2⟩ := new_at x1 hp rsp (hP p hp) hl r
    exact h (m1 ++ [p]) H1 x2 rs2 _ (.obj g2)
  | exc c S' => unfold eNew at h; rw [hf] at h; exact h
  | stuck => unfold eNew at h; rw [hf] at h; exact h
/-- name = [..], the list changed no more, or changed later on -/
theorem set_imp {K : PySem.W.Frag} {T : Tab} {W : WX} {i : Nat} {f : EM} {t : TE} (k : ∀ {σ H Q}, tE K T W f σ H Q → t σ H Q) {E : Ends} {σ : L2.St} {H : Hp} (h : tS K T W (sSet i f) E σ H) : tAsg t (gName i) E σ H := by
  obtain ⟨P, m, S, ρ, rs, re, h⟩ := h
  exact k (tE.suse rs re h fun m1 S1 H1 d v x1 rs1 re1 r1 h1 => h1 m1 H1 _ .refl rs1 (re1.set r1 i))
theorem s_setComp {X : Cx} {T : Tab} {W : WX} {i : Nat} {y : Str} {py : Pos} {elt tg iter : Expr} {ifs : List Expr} {scope : Scope} {own : List (Str × Nat)} {ov : List Nat} {pos spos : Pos} {fi : WM} {t : Tg} {tt : BM} {el f : EM}
    (k : ∀ {g : LM} {σ H Q}, g = fComp fi t tt el ov → tE X.K T W f σ H Q → tF X.K T W g σ H Q)
    (hc : X.calm = true) (hN : X.N.Nodup) (hy : X.N[i]? = some y) (hyl : X.env.scope.names.lookup y = some .local) (hsw : swapsWith (.ListComp elt [⟨tg, iter, ifs, 0⟩] scope pos) (some (.Name y py)) spos.line X.env = pure true)
    (hi : SI X T W tg iter fi) (ok : BlkOk X.N X.env.scope scope own) (hov : own.map (·.2) = ov) (hsl : ∀ j ∈ t.slots, j ∈ ov)
    (hg : ∀ (s : Shared) (H : Hp) (C : Addr) (cl : List (Str × Addr)) (fp : List Addr), PG (X.blk s H scope (compEnvC scope cl C X.env) fp) tg (tG X.K T t)) (ht : ∀ (s : Shared) (H : Hp) (C : Addr) (cl : List (Str × Addr)) (fp : List Addr), PTs (X.blk s H scope (compEnvC scope cl C X.env) fp) ifs (tT X.K T W0 tt))
    (he : ∀ (s : Shared) (H : Hp) (C : Addr) (cl : List (Str × Addr)) (fp : List Addr), SE (X.blk s H scope (compEnvC scope cl C X.env) fp) T W0 elt el) (hs : ∀ x, foldedSetIterable iter X.env x = pure x := by intro _; rfl) :
    S1 X T W (.Assign [.Name y py] (.ListComp elt [⟨tg, iter, ifs, 0⟩] scope pos) spos) (sSet i f) :=
  PS.mono (ps_setLc (te := tE X.K T W0 el) hc hN hy hyl hsw hi ok hg ht he hs) fun E σ H h => set_imp (fun q => comp_imp hov hsl (k rfl q)) h
theorem k_frz {K : PySem.W.Frag} {T : Tab} {W : WX} {g0 g : LM} {σ : L2.St} {H : Hp} {Q : VK} (e : g = g0) (h : tE K T W (eFrz g0) σ H Q) : tF K T W g σ H Q := e ▸ frz_imp h
theorem k_new {K : PySem.W.Frag} {T : Tab} {W : WX} {g0 g : LM} {σ : L2.St} {H : Hp} {Q : VK} (e : g = g0) (h : tE K T W (eNew g0) σ H Q) : tF K T W g σ H Q := e ▸ new_imp h
/-- a, b, .. = e -/
@[simp] def sAsg (t : Tg) (f : EM) : SM := fun ρ S => (f ρ S).sb ρ fun d S1 => match t.put d ρ with
  | some ρ1 => .nx ρ1 S1
  | none => .stuck
theorem s_asg {X : Cx} {T : Tab} {W : WX} {tg e : Expr} {t : Tg} {f : EM} {pos : Pos} (he : SE X T W e f) (hg : PG X tg (tG X.K T t)) (hs : swapsWithSole [tg] e pos.line X.env = pure false := by rfl) (hw : swappedStores [tg] e X.env = pure none := by rfl)
    (h1 : (assignEach [tg] X.env).map (·.2) = [assign tg X.env] := by rfl) : S1 X T W (.Assign [tg] e pos) (sAsg t f) := by
  refine PS.mono (ps_asg he hg hs hw h1) fun E σ H ⟨P, m, S, ρ, rs, re, h⟩ => ?_
  refine tE.suse rs re h fun m1 S1 H1 d v x1 rs1 re1 r1 h1 => ?_
  cases hp : t.put d ρ with
  | none => simp only [hp] at h1; exact h1.elim
  | some ρ1 =>
    simp only [hp] at h1
    exact ⟨P, m1, S1, ρ, d, ρ1, rs1, re1, r1, hp, fun σ' re' _ => h1 m1 H1 σ' .refl rs1 re'⟩
/-- a, b = x, y of plain local names -/
@[simp] def sPar (i j : Nat) (a : AM) : SM := fun ρ S => (a ρ S).sb ρ fun ds S1 => match ds with
  | [d, e] => .nx ((ρ.set i (some d)).set j (some e)) S1
  | _ => .stuck
theorem s_par {X : Cx} {T : Tab} {W : WX} {i j : Nat} {x y : Str} {a b : Expr} {fa : AM} {px py pt pos : Pos} {kt k2 pt2} (hc : X.calm = true) (hN : X.N.Nodup) (hi : X.N[i]? = some x) (hj : X.N[j]? = some y) (hij : i ≠ j)
    (hx : X.env.scope.names.lookup x = some .local) (hy : X.env.scope.names.lookup y = some .local) (ha : SA X T W [a, b] fa)
    (hw : swappedStores [.Tuple [.Name x px, .Name y py] kt pt] (.Tuple [a, b] k2 pt2) X.env = pure (some [x, y]) := by rfl)
    (hs : swapsWithSole [.Tuple [.Name x px, .Name y py] kt pt] (.Tuple [a, b] k2 pt2) pos.line X.env = pure false := by rfl) :
    S1 X T W (.Assign [.Tuple [.Name x px, .Name y py] kt pt] (.Tuple [a, b] k2 pt2) pos) (sPar i j fa) := by
  refine PS.mono (ps_par hc hN hi hj hij hx hy ha hw hs) fun E σ H ⟨P, m, S, ρ, rs, re, h⟩ => ?_
  refine tA.suse rs re h fun m1 S1 H1 ds vs x1 rs1 re1 r1 h1 => ?_
  match ds, r1, h1 with
  | [d, e], .cons ra (.cons rb .nil), h1 => exact ⟨_, _, rfl, h1 m1 H1 _ .refl rs1 ((re1.set ra i).set rb j)⟩
  | [], _, h1 => exact h1.elim
  | [_], _, h1 => exact h1.elim
  | _ :: _ :: _ :: _, _, h1 => exact h1.elim
end Sm
/-! ## Sm4 -/
/-! Sm4: operators, subscripts, built-in functions and methods, by data. -/
namespace Sm
open PySem PySem.Spec PyProof.Rows L2

/-! ### reading lists and tuples -/
@[simp] def lstOf (S : Store) (d : D) : Option (List D) := match d with
  | .lst xs => some xs
  | .src xs => some xs
  | .obj j => (match S[j]? with
    | some (.lst xs) => some xs
    | _ => none)
  | _ => none
@[simp] def lstT (S : Store) (d : D) : Option (List D) := match d with
  | .lst xs => some xs
  | .obj j => (match S[j]? with
    | some (.lst xs) => some xs
    | _ => none)
  | _ => none
section
variable {K : PySem.W.Frag} {T : Tab} {P : Addr → Prop} {m : List Addr} {S : Store} {H : Hp} {d : D} {v : V} {xs : List D}
theorem lst_at (rs : RS K T P m S H) (r : R K m (Lv P m S) H d v) (h : lstOf S d = some xs) : ∃ a vs, v = .ref a ∧ SqL K H a vs ∧ Rs K m (Lv P m S) H xs vs := by
  cases d with
  | lst ys => cases h; cases r with | lst h1 _ h2 => exact ⟨_, _, rfl, SqL.of h1, h2⟩
  | src ys => cases h; cases r with | src h1 h2 => exact ⟨_, _, rfl, sr_seq h1, h2⟩
  | obj j =>
    cases r with
    | obj hj =>
      unfold lstOf at h
      cases hs : S[j]? with
      | none => simp only [hs] at h; cases h
      | some o =>
        cases o with
        | lst ys =>
          simp only [hs] at h
          cases h
          cases rs.at_ j _ _ hj hs with
          | lst h1 h2 => exact ⟨_, _, rfl, SqL.of h1, h2⟩
        | _ => simp only [hs] at h; cases h
  | _ => cases h
theorem lstT_at (rs : RS K T P m S H) (r : R K m (Lv P m S) H d v) (h : lstT S d = some xs) : ∃ a vs, v = .ref a ∧ H a = some (.lst vs) ∧ Rs K m (Lv P m S) H xs vs := by
  cases d with
  | lst ys => cases h; cases r with | lst h1 _ h2 => exact ⟨_, _, rfl, h1, h2⟩
  | obj j =>
    cases r with
    | obj hj =>
      unfold lstT at h
      cases hs : S[j]? with
      | none => simp only [hs] at h; cases h
      | some o =>
        cases o with
        | lst ys =>
          simp only [hs] at h
          cases h
          cases rs.at_ j _ _ hj hs with
          | lst h1 h2 => exact ⟨_, _, rfl, h1, h2⟩
        | _ => simp only [hs] at h; cases h
  | _ => cases h
end

/-! ### equality of data -/
mutual
def D.py : D → PyData
  | .non => .none
  | .bl b => .bool b
  | .int i => .int i
  | .str s => .str (tx s)
  | .tup xs => .tuple (D.pys xs)
  | .lst xs => .list (D.pys xs)
  | .src xs => .list (D.pys xs)
  | .dct _ => .none
  | .obj _ => .none
def D.pys : List D → List PyData
  | [] => []
  | x :: xs => D.py x :: D.pys xs
end
mutual
/-- pure data, of texts of code points, at most n deep -/
def D.flat : Nat → D → Bool
  | _, .non => true
  | _, .bl _ => true
  | _, .int _ => true
  | _, .str s => s.all fun c => decide (c < 1114112)
  | n + 1, .tup xs => D.flats n xs
  | n + 1, .lst xs => D.flats n xs
  | n + 1, .src xs => D.flats n xs
  | _, _ => false
def D.flats : Nat → List D → Bool
  | _, [] => true
  | n, x :: xs => D.flat n x && D.flats n xs
end
mutual
def D.eqv : D → D → Bool
  | .non, .non => true
  | .bl a, .bl b => a == b
  | .bl a, .int j => (if a then 1 else 0) == j
  | .int i, .bl b => i == (if b then 1 else 0)
  | .int i, .int j => i == j
  | .str s, .str t => s == t
  | .tup xs, .tup ys => D.eqvs xs ys
  | .lst xs, .lst ys => D.eqvs xs ys
  | .lst xs, .src ys => D.eqvs xs ys
  | .src xs, .lst ys => D.eqvs xs ys
  | .src xs, .src ys => D.eqvs xs ys
  | _, _ => false
def D.eqvs : List D → List D → Bool
  | [], [] => true
  | x :: xs, y :: ys => D.eqv x y && D.eqvs xs ys
  | _, _ => false
end
theorem tx_inj {s t : List Nat} (h : tx s = tx t) : s = t := by
  have : s.toArray = t.toArray := congrArg Str.cps h
  simpa using congrArg Array.toList this
theorem tx_beq (s t : List Nat) : (tx s == tx t) = (s == t) := by
  by_cases h : s = t
  · subst h; simp
  · have h2 : ¬ tx s = tx t := fun e => h (tx_inj e)
    rw [beq_eq_false_iff_ne.mpr h, beq_eq_false_iff_ne.mpr h2]
mutual
theorem eqv_py : ∀ (n k : Nat) (d e : D), D.flat n d = true → D.flat k e = true → PyData.eqv d.py e.py = D.eqv d e
  | n, k, d, e, hd, he => by
    cases d with
    | dct => unfold D.flat at hd; cases n <;> cases hd
    | obj => unfold D.flat at hd; cases n <;> cases hd
    | non => cases e <;> (unfold D.py PyData.eqv D.eqv) <;> first | rfl | (unfold D.flat at he; cases k <;> cases he)
    | bl b => cases e <;> (unfold D.py PyData.eqv D.eqv) <;> first | rfl | (unfold D.flat at he; cases k <;> cases he)
    | int i => cases e <;> (unfold D.py PyData.eqv D.eqv) <;> first | rfl | (unfold D.flat at he; cases k <;> cases he)
    | str s =>
      cases e with
      | str t => unfold D.py PyData.eqv D.eqv; exact tx_beq s t
      | _ => (unfold D.py PyData.eqv D.eqv) <;> first | rfl | (unfold D.flat at he; cases k <;> cases he)
    | tup xs =>
      cases n with
      | zero => unfold D.flat at hd; cases hd
      | succ n =>
        cases e with
        | tup ys =>
          cases k with
          | zero => unfold D.flat at he; cases he
          | succ k => unfold D.py PyData.eqv D.eqv; exact eqv_pys n k xs ys (by unfold D.flat at hd; exact hd) (by unfold D.flat at he; exact he)
        | _ => (unfold D.py PyData.eqv D.eqv) <;> first | rfl | (unfold D.flat at he; cases k <;> cases he)
    | lst xs =>
      cases n with
      | zero => unfold D.flat at hd; cases hd
      | succ n =>
        cases e with
        | lst ys =>
          cases k with
          | zero => unfold D.flat at he; cases he
          | succ k => unfold D.py PyData.eqv D.eqv; exact eqv_pys n k xs ys (by unfold D.flat at hd; exact hd) (by unfold D.flat at he; exact he)
        | src ys =>
          cases k with
          | zero => unfold D.flat at he; cases he
          | succ k => unfold D.py PyData.eqv D.eqv; exact eqv_pys n k xs ys (by unfold D.flat at hd; exact hd) (by unfold D.flat at he; exact he)
        | _ => (unfold D.py PyData.eqv D.eqv) <;> first | rfl | (unfold D.flat at he; cases k <;> cases he)
    | src xs =>
      cases n with
      | zero => unfold D.flat at hd; cases hd
      | succ n =>
        cases e with
        | lst ys =>
          cases k with
          | zero => unfold D.flat at he; cases he
          | succ k => unfold D.py PyData.eqv D.eqv; exact eqv_pys n k xs ys (by unfold D.flat at hd; exact hd) (by unfold D.flat at he; exact he)
        | src ys =>
          cases k with
          | zero => unfold D.flat at he; cases he
          | succ k => unfold D.py PyData.eqv D.eqv; exact eqv_pys n k xs ys (by unfold D.flat at hd; exact hd) (by unfold D.flat at he; exact he)
        | _ => (unfold D.py PyData.eqv D.eqv) <;> first | rfl | (unfold D.flat at he; cases k <;> cases he)
theorem eqv_pys : ∀ (n k : Nat) (d e : List D), D.flats n d = true → D.flats k e = true → PyData.eqvAll (D.pys d) (D.pys e) = D.eqvs d e
  | _, _, [], [], _, _ => by unfold D.pys PyData.eqvAll D.eqvs; rfl
  | _, _, [], _ :: _, _, _ => by unfold D.pys PyData.eqvAll D.eqvs; rfl
  | _, _, _ :: _, [], _, _ => by unfold D.pys PyData.eqvAll D.eqvs; rfl
  | n, k, x :: xs, y :: ys, hd, he => by
    unfold D.flats at hd he
    obtain ⟨h1, h2⟩ := Bool.and_eq_true_iff.mp hd
    obtain ⟨h3, h4⟩ := Bool.and_eq_true_iff.mp he
    unfold D.pys PyData.eqvAll D.eqvs
    rw [eqv_py n k x y h1 h3, eqv_pys n k xs ys h2 h4]
end
mutual
theorem flat_shape : ∀ (n : Nat) (d : D), D.flat n d = true → d.py.canLay0 = true ∧ d.py.depth ≤ n
  | n, d, h => by
    cases d with
    | non => unfold D.py PyData.canLay0 PyData.depth; exact ⟨rfl, Nat.zero_le _⟩
    | bl => unfold D.py PyData.canLay0 PyData.depth; exact ⟨rfl, Nat.zero_le _⟩
    | int => unfold D.py PyData.canLay0 PyData.depth; exact ⟨rfl, Nat.zero_le _⟩
    | str s =>
      have h' : (s.all fun c => decide (c < 1114112)) = true := by unfold D.flat at h; exact h
      unfold D.py PyData.canLay0 PyData.depth
      refine ⟨?_, Nat.zero_le _⟩
      show (tx s).cps.all (· < 0x110000) = true
      simpa using h'
    | dct => unfold D.flat at h; cases n <;> cases h
    | obj => unfold D.flat at h; cases n <;> cases h
    | tup xs =>
      cases n with
      | zero => unfold D.flat at h; cases h
      | succ n =>
        have q := flats_shape n xs (by unfold D.flat at h; exact h)
        unfold D.py PyData.canLay0 PyData.depth
        exact ⟨q.1, Nat.succ_le_succ q.2⟩
    | lst xs =>
      cases n with
      | zero => unfold D.flat at h; cases h
      | succ n =>
        have q := flats_shape n xs (by unfold D.flat at h; exact h)
        unfold D.py PyData.canLay0 PyData.depth
        exact ⟨q.1, Nat.succ_le_succ q.2⟩
    | src xs =>
      cases n with
      | zero => unfold D.flat at h; cases h
      | succ n =>
        have q := flats_shape n xs (by unfold D.flat at h; exact h)
        unfold D.py PyData.canLay0 PyData.depth
        exact ⟨q.1, Nat.succ_le_succ q.2⟩
theorem flats_shape : ∀ (n : Nat) (d : List D), D.flats n d = true → PyData.canLayAll0 (D.pys d) = true ∧ PyData.depthAll (D.pys d) ≤ n
  | n, [], _ => by unfold D.pys PyData.canLayAll0 PyData.depthAll; exact ⟨rfl, Nat.zero_le _⟩
  | n, x :: xs, h => by
    unfold D.flats at h
    obtain ⟨h1, h2⟩ := Bool.and_eq_true_iff.mp h
    have q1 := flat_shape n x h1
    have q2 := flats_shape n xs h2
    unfold D.pys PyData.canLayAll0 PyData.depthAll
    exact ⟨by rw [q1.1, q2.1]; rfl, Nat.max_le.mpr ⟨q1.2, q2.2⟩⟩
end
theorem flat_shaped {d : D} (h : D.flat 64 d = true) : SeqAt.shaped d.py = true := by
  obtain ⟨a, b⟩ := flat_shape 64 d h
  unfold SeqAt.shaped
  rw [a, decide_eq_true b]; rfl
mutual
theorem dp_of {K : PySem.W.Frag} {m : List Addr} {L : Addr → Prop} {H : Hp} : ∀ (n : Nat) (d : D) (v : V), D.flat n d = true → R K m L H d v → Dp K H v d.py
  | n, d, v, h, r => by
    cases d with
    | non => cases r; unfold D.py; exact .non
    | bl => cases r; unfold D.py; exact .bl _
    | int => cases r; unfold D.py; exact .int _
    | str s => cases r; unfold D.py; exact .str _
    | dct => unfold D.flat at h; cases n <;> cases h
    | obj => unfold D.flat at h; cases n <;> cases h
    | tup xs =>
      cases n with
      | zero => unfold D.flat at h; cases h
      | succ n => cases r with | tup h1 h2 => unfold D.py; exact .tup h1 (dps_of n xs _ (by unfold D.flat at h; exact h) h2)
    | lst xs =>
      cases n with
      | zero => unfold D.flat at h; cases h
      | succ n => cases r with | lst h1 _ h2 => unfold D.py; exact .lst (SqL.of h1) (dps_of n xs _ (by unfold D.flat at h; exact h) h2)
    | src xs =>
      cases n with
      | zero => unfold D.flat at h; cases h
      | succ n => cases r with | src h1 h2 => unfold D.py; exact .lst (sr_seq h1) (dps_of n xs _ (by unfold D.flat at h; exact h) h2)
theorem dps_of {K : PySem.W.Frag} {m : List Addr} {L : Addr → Prop} {H : Hp} : ∀ (n : Nat) (d : List D) (v : List V), D.flats n d = true → Rs K m L H d v → DpAll K H v (D.pys d)
  | n, [], _, _, r => by cases r; unfold D.pys; exact .nil
  | n, x :: xs, _, h, r => by
    unfold D.flats at h
    obtain ⟨h1, h2⟩ := Bool.and_eq_true_iff.mp h
    cases r with
    | cons r1 r2 => unfold D.pys; exact .cons (dp_of n x _ h1 r1) (dps_of n xs _ h2 r2)
end
/-- a mutable list as the data that it holds -/
@[simp] def deref (S : Store) (d : D) : D := match d with
  | .obj j => (match S[j]? with
    | some (.lst xs) => .lst xs
    | _ => .obj j)
  | d => d
theorem dp_deref {K : PySem.W.Frag} {T : Tab} {P : Addr → Prop} {m : List Addr} {S : Store} {H : Hp} {d : D} {v : V} (rs : RS K T P m S H) (r : R K m (Lv P m S) H d v) (h : D.flat 64 (deref S d) = true) : Dp K H v (deref S d).py := by
  cases d with
  | obj j =>
    cases r with
    | obj hj =>
      unfold deref at h ⊢
      cases hs : S[j]? with
      | none => simp only [hs] at h; unfold D.flat at h; cases h
      | some o =>
        cases o with
        | lst ys =>
          simp only [hs] at h ⊢
          cases rs.at_ j _ _ hj hs with
          | lst h1 h2 => unfold D.py; exact .lst (SqL.of h1) (dps_of 63 ys _ (by unfold D.flat at h; exact h) h2)
        | _ => simp only [hs] at h; unfold D.flat at h; cases h
  | _ => exact dp_of 64 _ v h r
def eqD (S : Store) (x y : D) : Option D := if (D.flat 64 (deref S x) && D.flat 64 (deref S y)) = true then some (.bl (D.eqv (deref S x) (deref S y))) else none
def neD (S : Store) (x y : D) : Option D := if (D.flat 64 (deref S x) && D.flat 64 (deref S y)) = true then some (.bl !(D.eqv (deref S x) (deref S y))) else none
section
variable {X : Cx} {T : Tab}
theorem o_eq (hu : X.A.units + 64 < cLine) : SOp X T (compareOp .Eq) eqD := by
  refine ⟨_, op_eqD hu, fun P m S H x y dx dy d Q rs rx ry e q => ?_⟩
  unfold eqD at e
  split at e
  · rename_i hb
    obtain ⟨h1, h2⟩ := Bool.and_eq_true_iff.mp hb
    cases e
    refine ⟨_, _, dp_deref rs rx h1, dp_deref rs ry h2, flat_shaped h1, flat_shaped h2, ?_⟩
    rw [eqv_py 64 64 _ _ h1 h2]
    exact q H _ (fun _ _ e => e) (.bl _)
  · cases e
theorem o_ne (hu : X.A.units + 64 < cLine) : SOp X T (compareOp .NotEq) neD := by
  refine ⟨_, op_neD hu, fun P m S H x y dx dy d Q rs rx ry e q => ?_⟩
  unfold neD at e
  split at e
  · rename_i hb
    obtain ⟨h1, h2⟩ := Bool.and_eq_true_iff.mp hb
    cases e
    refine ⟨_, _, dp_deref rs rx h1, dp_deref rs ry h2, flat_shaped h1, flat_shaped h2, ?_⟩
    rw [eqv_py 64 64 _ _ h1 h2]
    exact q H _ (fun _ _ e => e) (.bl _)
  · cases e

/-! ### arithmetic, + -/
@[simp] def cat (a b : List D) (f : List D → D) : Option D := if big (a.length + b.length) = true then some (f (a ++ b)) else none
def addD (S : Store) (x y : D) : Option D := match x, y with
  | .int i, .int j => some (.int (i + j))
  | .str s, .str t => if big (s.length + t.length) = true then some (.str (s ++ t)) else none
  | .tup a, .tup b => cat a b .tup
  | x, y => match lstT S x, lstT S y with
    | some a, some b => cat a b .lst
    | _, _ => none
theorem tx_len (s : List Nat) : (tx s).length = s.length := by show s.toArray.size = _; simp
theorem tx_app (s t : List Nat) : (tx s ++ tx t : Str) = tx (s ++ t) := by
  show (⟨s.toArray ++ t.toArray⟩ : Str) = ⟨(s ++ t).toArray⟩
  simp
theorem frz_upd {K : PySem.W.Frag} {P : Addr → Prop} {m : List Addr} {S : Store} {H : Hp} {p : Addr} {ds : List D} {vs : List V} (rs : RS K T P m S H) (hp : H p = none) (r : Rs K m (Lv P m S) H ds vs) : R K m (Lv P m S) (L2.upd H p (.lst vs)) (.lst ds) (.ref p) :=
  .lst upd_same (rs.fresh hp) (Rs.ext (ext_upd hp) rs r)
theorem tup_upd {K : PySem.W.Frag} {P : Addr → Prop} {m : List Addr} {S : Store} {H : Hp} {p : Addr} {ds : List D} {vs : List V} (rs : RS K T P m S H) (hp : H p = none) (r : Rs K m (Lv P m S) H ds vs) : R K m (Lv P m S) (L2.upd H p (.tup vs)) (.tup ds) (.ref p) :=
  .tup (SqT.of upd_same) (Rs.ext (ext_upd hp) rs r)
theorem o_add : SOp X T (binaryOp .Add) addD := by
  refine ⟨_, op_add.or (op_add_str.or (op_catA.or op_cat)), fun P m S H x y dx dy d Q rs rx ry e q => ?_⟩
  have lists : ∀ {a b : List D}, lstT S dx = some a → lstT S dy = some b → cat a b .lst = some d → rCat x y H Q := fun {a b} h1 h2 h3 => by
    obtain ⟨p1, vs, rfl, e1, r1⟩ := lstT_at rs rx h1
    obtain ⟨p2, ws, rfl, e2, r2⟩ := lstT_at rs ry h2
    unfold cat at h3
    split at h3
    · rename_i hb
      cases h3
      refine ⟨p1, p2, vs, ws, rfl, rfl, e1, e2, by rw [← r1.length, ← r2.length]; exact big_ok hb, fun p hp => q _ _ (grow_upd hp) (frz_upd rs hp (r1.append r2))⟩
    · cases h3
  unfold addD at e
  split at e
  · cases e; cases rx; cases ry
    exact .inl ⟨_, _, rfl, rfl, q H _ (fun _ _ e => e) (.int _)⟩
  · cases rx; cases ry
    split at e
    · rename_i hb
      cases e
      refine .inr (.inl ⟨_, _, rfl, rfl, by rw [tx_len, tx_len]; exact big_ok hb, ?_⟩)
      rw [tx_app]
      exact q H _ (fun _ _ e => e) (.str _)
    · cases e
  · rename_i a b
    cases rx with
    | tup h1 r1 =>
      cases ry with
      | tup h2 r2 =>
        unfold cat at e
        split at e
        · rename_i hb
          cases e
          rename_i p1 vs p2 ws
          refine .inr (.inr (.inl ⟨p1, p2, vs, ws, rfl, rfl, h1, h2, by rw [← r1.length, ← r2.length]; exact big_ok hb, fun e0 => ?_, fun _ e0 => ?_, fun _ _ p hp => q _ _ (grow_upd hp) (tup_upd rs hp (r1.append r2))⟩))
          · subst e0; cases r1
            exact q H _ (fun _ _ e => e) (.tup h2 r2)
          · subst e0; cases r2
            rw [List.append_nil] at q
            exact q H _ (fun _ _ e => e) (.tup h1 r1)
        · cases e
  · split at e
    · rename_i h1 h2
      exact .inr (.inr (.inr (lists h1 h2 e)))
    · cases e
def subD (_ : Store) (x y : D) : Option D := match x, y with
  | .int i, .int j => some (.int (i - j))
  | _, _ => none
theorem o_sub : SOp X T (binaryOp .Sub) subD := by
  refine ⟨_, op_sub, fun P m S H x y dx dy d Q rs rx ry e q => ?_⟩
  unfold subD at e
  split at e
  · cases e; cases rx; cases ry
    exact ⟨_, _, rfl, rfl, q H _ (fun _ _ e => e) (.int _)⟩
  · cases e
@[simp] def in64 (i : Int) : Bool := decide (-18446744073709551616 < i) && decide (i < 18446744073709551616)
@[simp] def in63 (i : Int) : Bool := decide (-9223372036854775808 ≤ i) && decide (i < 9223372036854775808)
def mulD (S : Store) (x y : D) : Option D := match x, y with
  | .int i, .int j => if (in64 i || in64 j) = true then some (.int (i * j)) else none
  | x, .int k => (match lstT S x with
    | some a => if (in63 k && big (a.length * k.toNat)) = true then some (.lst (List.replicate k.toNat a).flatten) else none
    | none => none)
  | _, _ => none
theorem in64_ok {i : Int} (h : in64 i = true) : -(2 ^ 64) < i ∧ i < 2 ^ 64 := by
  unfold in64 at h
  simp only [Bool.and_eq_true, decide_eq_true_eq] at h
  exact ⟨by have := h.1; omega, by have := h.2; omega⟩
theorem in63_ok {i : Int} (h : in63 i = true) : -(2 ^ 63) ≤ i ∧ i < 2 ^ 63 := by
  unfold in63 at h
  simp only [Bool.and_eq_true, decide_eq_true_eq] at h
  exact ⟨by have := h.1; omega, by have := h.2; omega⟩
theorem o_mul : SOp X T (binaryOp .Mult) mulD := by
  refine ⟨_, op_mul.or op_rep, fun P m S H x y dx dy d Q rs rx ry e q => ?_⟩
  unfold mulD at e
  split at e
  · cases rx; cases ry
    split at e
    · rename_i hb
      cases e
      exact .inl ⟨_, _, rfl, rfl, (Bool.or_eq_true_iff.mp hb).elim (fun z => .inl (in64_ok z)) (fun z => .inr (in64_ok z)), q H _ (fun _ _ e => e) (.int _)⟩
    · cases e
  · split at e
    · rename_i a ha
      split at e
      · rename_i hb
        cases e
        obtain ⟨h1, h2⟩ := Bool.and_eq_true_iff.mp hb
        cases ry
        obtain ⟨p1, vs, rfl, e1, r1⟩ := lstT_at rs rx ha
        exact .inr ⟨p1, _, vs, rfl, rfl, e1, (in63_ok h1).1, (in63_ok h1).2, by rw [← r1.length]; exact big_ok h2, fun p hp => q _ _ (grow_upd hp) (frz_upd rs hp (r1.rep _))⟩
      · cases e
    · cases e
  · cases e
def divD (_ : Store) (x y : D) : Option D := match x, y with
  | .int i, .int j => if (decide (j ≠ 0) && decide (j.natAbs < 1073741824)) = true then some (.int (i.fdiv j)) else none
  | _, _ => none
theorem o_div : SOp X T (binaryOp .FloorDiv) divD := by
  refine ⟨_, op_fdivN, fun P m S H x y dx dy d Q rs rx ry e q => ?_⟩
  unfold divD at e
  split at e
  · cases rx; cases ry
    split at e
    · rename_i hb
      cases e
      obtain ⟨h1, h2⟩ := Bool.and_eq_true_iff.mp hb
      exact ⟨_, _, rfl, rfl, ⟨of_decide_eq_true h1, of_decide_eq_true h2⟩, q H _ (fun _ _ e => e) (.int _)⟩
    · cases e
  · cases e
def modD (_ : Store) (x y : D) : Option D := match x, y with
  | .int i, .int j => if j ≠ 0 then some (.int (i.fmod j)) else none
  | _, _ => none
theorem o_mod : SOp X T (binaryOp .Mod) modD := by
  refine ⟨_, op_modN, fun P m S H x y dx dy d Q rs rx ry e q => ?_⟩
  unfold modD at e
  split at e
  · cases rx; cases ry
    split at e
    · rename_i hb
      cases e
      exact ⟨_, _, rfl, rfl, hb, q H _ (fun _ _ e => e) (.int _)⟩
    · cases e
  · cases e
def powD (_ : Store) (x y : D) : Option D := match x, y with
  | .int i, .int j => if (decide (0 ≤ j) && decide (j ≤ 1000000) && decide (i.natAbs < 18446744073709551616)) = true then some (.int (i ^ j.toNat)) else none
  | _, _ => none
theorem o_pow : SOp X T (binaryOp .Pow) powD := by
  refine ⟨_, op_pow, fun P m S H x y dx dy d Q rs rx ry e q => ?_⟩
  unfold powD at e
  split at e
  · cases rx; cases ry
    split at e
    · rename_i hb
      cases e
      obtain ⟨h1, h2⟩ := Bool.and_eq_true_iff.mp hb
      obtain ⟨h3, h4⟩ := Bool.and_eq_true_iff.mp h1
      exact ⟨_, _, rfl, rfl, ⟨of_decide_eq_true h3, of_decide_eq_true h4, by have := of_decide_eq_true h2; omega⟩, q H _ (fun _ _ e => e) (.int _)⟩
    · cases e
  · cases e

/-! ### order -/
/-- texts by their code points -/
def ordD (fi : Int → Int → Bool) (fs : List Nat → List Nat → Bool) (_ : Store) (x y : D) : Option D := match x, y with
  | .int i, .int j => some (.bl (fi i j))
  | .str s, .str t => some (.bl (fs s t))
  | _, _ => none
abbrev ltD : Store → D → D → Option D := ordD (fun i j => decide (i < j)) (fun s t => decide (s < t))
abbrev leD : Store → D → D → Option D := ordD (fun i j => decide (i ≤ j)) (fun s t => !decide (t < s))
abbrev gtD : Store → D → D → Option D := ordD (fun i j => decide (j < i)) (fun s t => decide (t < s))
abbrev geD : Store → D → D → Option D := ordD (fun i j => decide (j ≤ i)) (fun s t => !decide (s < t))
theorem o_ord {op : CmpOp} {fi : Int → Int → Bool} {fs : List Nat → List Nat → Bool} {rS : R2} (hi : OpR X (compareOp op) (rI0 fun i j => .bl (fi i j))) (hs : OpR X (compareOp op) rS) (hr : ∀ s t H Q, Q (.bl (fs s t)) H → rS (.str (tx s)) (.str (tx t)) H Q) : SOp X T (compareOp op) (ordD fi fs) := by
  refine ⟨_, hi.or hs, fun P m S H x y dx dy d Q rs rx ry e q => ?_⟩
  unfold ordD at e
  split at e
  · cases e; cases rx; cases ry
    exact .inl ⟨_, _, rfl, rfl, q H _ (fun _ _ e => e) (.bl _)⟩
  · cases e; cases rx; cases ry
    exact .inr (hr _ _ _ _ (q H _ (fun _ _ e => e) (.bl _)))
  · cases e
theorem o_lt : SOp X T (compareOp .Lt) ltD := o_ord op_lt op_lt_str fun s t H Q q => ⟨_, _, rfl, rfl, q⟩
theorem o_le : SOp X T (compareOp .LtE) leD := o_ord op_le op_le_str fun s t H Q q => ⟨_, _, rfl, rfl, q⟩
theorem o_gt : SOp X T (compareOp .Gt) gtD := o_ord op_gt op_gt_str fun s t H Q q => ⟨_, _, rfl, rfl, q⟩
theorem o_ge : SOp X T (compareOp .GtE) geD := o_ord op_ge op_ge_str fun s t H Q q => ⟨_, _, rfl, rfl, q⟩
end
end Sm
/-! ## Sm5 -/
/-! Sm5: membership, chains, subscripts, slices, built-in functions and methods, dicts, by data. -/
namespace Sm
open PySem PySem.Spec PyProof.Rows L2

/-! ### in, is -/
def anyEq (x : D) : List D → Bool
  | [] => false
  | y :: ys => D.eqv y x || anyEq x ys
/-- a key as a dict's keys are -/
def D.keq : D → D → Bool
  | .int i, .int j => i == j
  | .str s, .str t => s == t
  | _, _ => false
def getK : List (D × D) → D → Option D
  | [], _ => none
  | (a, v) :: r, k => if D.keq a k = true then some v else getK r k
@[simp] def dctOf (S : Store) (d : D) : Option (List (D × D)) := match d with
  | .dct kvs => some kvs
  | .obj j => (match S[j]? with
    | some (.dct kvs) => some kvs
    | _ => none)
  | _ => none
@[simp] def isKey (d : D) : Bool := match d with
  | .int _ => true
  | .str _ => true
  | _ => false
/-- the answer of x in y, for sequences and texts -/
def inB (S : Store) (x y : D) : Option Bool := match x, y with
  | .str [c], .str s => some (decide (c ∈ s))
  | x, .tup ys => if (D.flat 0 x && D.flats 0 ys) = true then some (anyEq x ys) else none
  | x, y => match lstOf S y with
    | some ys => if (D.flat 64 x && D.flats 63 ys) = true then some (anyEq x ys) else none
    | none => none
@[simp] def inD (S : Store) (x y : D) : Option D := (inB S x y).map .bl
@[simp] def notInD (S : Store) (x y : D) : Option D := (inB S x y).map fun b => .bl !b
theorem flat_V {K : PySem.W.Frag} {m : List Addr} {L : Addr → Prop} {H : Hp} {d : D} {v : V} (h : D.flat 0 d = true) (r : R K m L H d v) : flatV v = true := by
  cases d <;> first
    | (cases r; rfl)
    | (unfold D.flat at h; cases h)
theorem eqv_V {K : PySem.W.Frag} {m : List Addr} {L : Addr → Prop} {H : Hp} {d e : D} {v u : V} (h1 : D.flat 0 d = true) (h2 : D.flat 0 e = true) (r : R K m L H d v) (q : R K m L H e u) : eqV v u = D.eqv d e := by
  cases d <;> first
    | (unfold D.flat at h1; cases h1; done)
    | (cases r; cases e <;> first
      | (unfold D.flat at h2; cases h2; done)
      | (cases q; unfold D.eqv eqV; first
        | rfl
        | exact tx_beq _ _
        | (try simp)))
theorem any_V {K : PySem.W.Frag} {m : List Addr} {L : Addr → Prop} {H : Hp} {x : D} {v : V} (hx : D.flat 0 x = true) (rx : R K m L H x v) : ∀ {ds : List D} {vs : List V}, D.flats 0 ds = true → Rs K m L H ds vs → vs.all flatV = true ∧ inV v vs = anyEq x ds
  | [], _, _, r => by cases r; exact ⟨rfl, rfl⟩
  | d :: ds, _, h, r => by
    unfold D.flats at h
    obtain ⟨h1, h2⟩ := Bool.and_eq_true_iff.mp h
    cases r with
    | cons r1 r2 =>
      obtain ⟨q1, q2⟩ := any_V hx rx h2 r2
      refine ⟨by rw [List.all_cons, flat_V h1 r1, q1]; rfl, ?_⟩
      show (eqV _ _ || inV v _) = (D.eqv d x || anyEq x ds)
      rw [eqv_V h1 hx r1 rx, q2]
theorem any_py {x : D} (hx : D.flat 64 x = true) : ∀ {ds : List D}, D.flats 63 ds = true → ((D.pys ds).any fun z => PyData.eqv z x.py) = anyEq x ds
  | [], _ => by unfold D.pys anyEq; rfl
  | d :: ds, h => by
    unfold D.flats at h
    obtain ⟨h1, h2⟩ := Bool.and_eq_true_iff.mp h
    unfold D.pys anyEq
    rw [List.any_cons, any_py hx h2, eqv_py 63 64 d x h1 hx]
section
variable {X : Cx} {T : Tab}
theorem in_shape {ds : List D} (h : D.flats 63 ds = true) : SeqAt.shaped (.list (D.pys ds)) = true := by
  have := flat_shaped (d := .lst ds) (by unfold D.flat; exact h)
  unfold D.py at this; exact this
theorem o_in (hu : X.A.units + 65 < cLine) : SOp X T (compareOp .In) inD := by
  refine ⟨_, op_in_sign.or (op_in_seq.or (op_inD hu)), fun P m S H x y dx dy d Q rs rx ry e q => ?_⟩
  unfold inD inB at e
  split at e
  · cases e; cases rx; cases ry
    exact .inl ⟨_, _, rfl, rfl, by simpa using q H _ (fun _ _ e => e) (.bl _)⟩
  · split at e
    · rename_i hb
      obtain ⟨h1, h2⟩ := Bool.and_eq_true_iff.mp hb
      cases e
      cases ry with
      | tup hq r =>
        obtain ⟨a1, a2⟩ := any_V h1 rx h2 r
        refine .inr (.inl ⟨_, _, rfl, .inr hq, flat_V h1 rx, a1, ?_⟩)
        rw [a2]
        exact q H _ (fun _ _ e => e) (.bl _)
    · cases e
  · split at e
    · rename_i ys hl
      split at e
      · rename_i hb
        obtain ⟨h1, h2⟩ := Bool.and_eq_true_iff.mp hb
        cases e
        obtain ⟨a, vs, rfl, hq, r⟩ := lst_at rs ry hl
        refine .inr (.inr ⟨dx.py, D.pys ys, dp_of 64 dx x h1 rx, .lst hq (dps_of 63 ys vs h2 r), flat_shaped h1, in_shape h2, ?_⟩)
        rw [any_py h1 h2]
        exact q H _ (fun _ _ e => e) (.bl _)
      · cases e
    · cases e
theorem o_notIn (hu : X.A.units + 65 < cLine) : SOp X T (compareOp .NotIn) notInD := by
  refine ⟨_, op_notIn_sign.or (op_notIn_seq.or (op_notInD hu)), fun P m S H x y dx dy d Q rs rx ry e q => ?_⟩
  unfold notInD inB at e
  split at e
  · cases e; cases rx; cases ry
    exact .inl ⟨_, _, rfl, rfl, by simpa using q H _ (fun _ _ e => e) (.bl _)⟩
  · split at e
    · rename_i hb
      obtain ⟨h1, h2⟩ := Bool.and_eq_true_iff.mp hb
      cases e
      cases ry with
      | tup hq r =>
        obtain ⟨a1, a2⟩ := any_V h1 rx h2 r
        refine .inr (.inl ⟨_, _, rfl, .inr hq, flat_V h1 rx, a1, ?_⟩)
        rw [a2]
        exact q H _ (fun _ _ e => e) (.bl _)
    · cases e
  · split at e
    · rename_i ys hl
      split at e
      · rename_i hb
        obtain ⟨h1, h2⟩ := Bool.and_eq_true_iff.mp hb
        cases e
        obtain ⟨a, vs, rfl, hq, r⟩ := lst_at rs ry hl
        refine .inr (.inr ⟨dx.py, D.pys ys, dp_of 64 dx x h1 rx, .lst hq (dps_of 63 ys vs h2 r), flat_shaped h1, in_shape h2, ?_⟩)
        rw [any_py h1 h2]
        exact q H _ (fun _ _ e => e) (.bl _)
      · cases e
    · cases e
@[simp] def D.isNon : D → Bool
  | .non => true
  | _ => false
@[simp] def isNonD (_ : Store) (x y : D) : Option D := match y with
  | .non => some (.bl x.isNon)
  | _ => none
@[simp] def notNonD (_ : Store) (x y : D) : Option D := match y with
  | .non => some (.bl !x.isNon)
  | _ => none
theorem non_V {K : PySem.W.Frag} {m : List Addr} {L : Addr → Prop} {H : Hp} {d : D} {v : V} (r : R K m L H d v) : decide (v = V.non) = d.isNon := by
  cases r <;> simp
theorem o_isN : SOp X T (compareOp .Is) isNonD := by
  refine ⟨_, op_isN, fun P m S H x y dx dy d Q rs rx ry e q => ?_⟩
  unfold isNonD at e
  split at e
  · cases e; cases ry
    refine ⟨rfl, ?_⟩
    rw [non_V rx]
    exact q H _ (fun _ _ e => e) (.bl _)
  · cases e
theorem o_notN : SOp X T (compareOp .IsNot) notNonD := by
  refine ⟨_, op_notN, fun P m S H x y dx dy d Q rs rx ry e q => ?_⟩
  unfold notNonD at e
  split at e
  · cases e; cases ry
    refine ⟨rfl, ?_⟩
    rw [non_V rx]
    exact q H _ (fun _ _ e => e) (.bl _)
  · cases e
end

/-! ### chains -/
@[simp] def eChain (g g' : Store → D → D → Option D) (f1 f2 f3 : EM) : EM := fun ρ S => (f1 ρ S).bind fun x S1 => (f2 ρ S1).bind fun y S2 => (give (g S2 x y) S2).bind fun z S3 => (bOf z S3).bind fun b S4 => if b = true then (f3 ρ S4).bind fun w S5 => give (g' S5 y w) S5 else .ok (.bl false) S4
section
variable {X : Cx} {T : Tab} {W : WX} {a b c : Expr} {f1 f2 f3 : EM} {pos : Pos} {op op' : CmpOp} {g g' : Store → D → D → Option D}
theorem s_chain (ho : SOp X T (compareOp op) g) (ho' : SOp X T (compareOp op') g') (ha : SE X T W a f1) (hb : SE X T W b f2) (hc : SE X T W c f3) (hm : lastMarks [op, op'] [b, c] = false := by with_unfolding_all rfl) :
    SE X T W (.Compare a [op, op'] [b, c] pos) (eChain g g' f1 f2 f3) := by
  obtain ⟨r, hr, hg⟩ := ho
  obtain ⟨r', hr', hg'⟩ := ho'
  refine PE.mono (pe_chain hr hr' ha hb hc hm) fun σ H Q ⟨P, m, S, ρ, rs, re, h⟩ => ?_
  refine tE.use rs re h fun m1 S1 H1 x vx x1 rs1 re1 r1 h1 => ?_
  refine tE.use rs1 re1 h1 fun m2 S2 H2 y vy x2 rs2 re2 r2 h2 => ?_
  have rx2 := R.ext x2 rs1 r1
  cases hgz : g S2 x y with
  | none => rw [hgz] at h2; exact h2.elim
  | some z =>
    rw [hgz] at h2
    refine hg P m2 S2 H2 vx vy x y z _ rs2 rx2 r2 hgz fun H3 vz k rz => ?_
    have h3 := Meets.shift (ext_grow k) h2
    have rs3 := rs2.ext0 k
    have re3 := RE.ext (ext_grow k) rs2 re2
    have ry3 : R X.K m2 (Lv P m2 S2) H3 y vy := R.ext (ext_grow k) rs2 r2
    cases z with
    | bl kb =>
      cases rz
      refine ⟨kb, rfl, ?_⟩
      cases kb with
      | false => exact h3.now rs3 _ (.bl false)
      | true =>
        refine tE.use rs3 re3 h3 fun m4 S4 H4 w vw x4 rs4 re4 r4 h4 => ?_
        obtain ⟨z2, ez, q⟩ := h4.give rs4
        exact hg' P m4 S4 H4 vy vw y w z2 Q rs4 (R.ext x4 rs3 ry3) r4 ez q
    | _ => exact h3.elim
theorem t_chain (ho : SOp X T (compareOp op) g) (ho' : SOp X T (compareOp op') g') (ha : SE X T W a f1) (hb : SE X T W b f2) (hc : SE X T W c f3) (hm : lastMarks [op, op'] [b, c] = false := by with_unfolding_all rfl) :
    ST X T W (.Compare a [op, op'] [b, c] pos) (bE (eChain g g' f1 f2 f3)) := by
  obtain ⟨r, hr, hg⟩ := ho
  obtain ⟨r', hr', hg'⟩ := ho'
  refine PT.mono (pt_chain hr hr' ha hb hc hm) fun σ H Q ⟨P, m, S, ρ, rs, re, h⟩ => ?_
  have e : bE (eChain g g' f1 f2 f3) ρ S = (f1 ρ S).bind fun x S1 => (f2 ρ S1).bind fun y S2 => (give (g S2 x y) S2).bind fun z S3 => (bOf z S3).bind fun b S4 => if b = true then (f3 ρ S4).bind fun w S5 => (give (g' S5 y w) S5).bind bOf else .ok false S4 := by
    simp only [bE, eChain, bind_assoc]
    congr 1; funext x S1; congr 1; funext y S2; congr 1; funext z S3; congr 1; funext b S4
    cases b
    · rfl
    · simp only [if_true, bind_assoc]
  rw [e] at h
  refine tE.use rs re h fun m1 S1 H1 x vx x1 rs1 re1 r1 h1 => ?_
  refine tE.use rs1 re1 h1 fun m2 S2 H2 y vy x2 rs2 re2 r2 h2 => ?_
  have rx2 := R.ext x2 rs1 r1
  cases hgz : g S2 x y with
  | none => rw [hgz] at h2; exact h2.elim
  | some z =>
    rw [hgz] at h2
    refine hg P m2 S2 H2 vx vy x y z _ rs2 rx2 r2 hgz fun H3 vz k rz => ?_
    have h3 := Meets.shift (ext_grow k) h2
    have rs3 := rs2.ext0 k
    have re3 := RE.ext (ext_grow k) rs2 re2
    have ry3 : R X.K m2 (Lv P m2 S2) H3 y vy := R.ext (ext_grow k) rs2 r2
    cases z with
    | bl kb =>
      cases rz
      refine ⟨kb, rfl, ?_⟩
      cases kb with
      | false => exact ⟨false, rfl, h3.now rs3⟩
      | true =>
        refine tE.use rs3 re3 h3 fun m4 S4 H4 w vw x4 rs4 re4 r4 h4 => ?_
        cases hz2 : g' S4 y w with
        | none => rw [hz2] at h4; exact h4.elim
        | some z2 =>
          rw [hz2] at h4
          refine hg' P m4 S4 H4 vy vw y w z2 _ rs4 (R.ext x4 rs3 ry3) r4 hz2 fun H5 v5 k5 r5 => ?_
          exact (show Meets X.K T P m4 S4 H5 (WN T W σ) (GB Q) (bOf z2 S4) from Meets.shift (ext_grow k5) h4).bOf (rs4.ext0 k5) r5
    | _ => exact h3.elim
end

/-! ### subscripts -/
def SIx (X : Cx) (T : Tab) (g : Store → D → D → Option D) : Prop :=
  ∃ r : R2, IxR X r ∧ ∀ P m S H x y dx dy d (Q : VK), RS X.K T P m S H → R X.K m (Lv P m S) H dx x → R X.K m (Lv P m S) H dy y → g S dx dy = some d →
    (∀ H' v, (∀ b o, H b = some o → H' b = some o) → R X.K m (Lv P m S) H' d v → Q v H') → r x y H Q
theorem s_ix {X : Cx} {T : Tab} {W : WX} {a b : Expr} {f1 f2 : EM} {pos : Pos} {g : Store → D → D → Option D} (ho : SIx X T g) (ha : SE X T W a f1) (hb : SE X T W b f2) (hs : PlainIx b := by exact fun _ _ => rfl) : SE X T W (.Subscript a b pos) (eOp g f1 f2) := by
  obtain ⟨r, hr, hg⟩ := ho
  refine PE.mono (pe_ix hr ha hb hs) fun σ H Q ⟨P, m, S, ρ, rs, re, h⟩ => ?_
  refine tE.use rs re h fun m1 S1 H1 d v x1 rs1 re1 r1 h1 => ?_
  refine tE.use rs1 re1 h1 fun m2 S2 H2 e u x2 rs2 re2 r2 h2 => ?_
  obtain ⟨z, ez, q⟩ := h2.give rs2
  exact hg P m2 S2 H2 v u d e z Q rs2 (R.ext x2 rs1 r1) r2 ez q
def ixD (S : Store) (x y : D) : Option D := match x, y with
  | .tup xs, .int i => atI xs i
  | .str s, .int i => if big s.length = true then (atI s i).map fun c => .str [c] else none
  | x, .int i => (match lstOf S x with
    | some xs => atI xs i
    | none => none)
  | _, _ => none
theorem atI_rs {K : PySem.W.Frag} {m : List Addr} {L : Addr → Prop} {H : Hp} {ds : List D} {vs : List V} {i : Int} {d : D} (r : Rs K m L H ds vs) (h : atI ds i = some d) : ∃ v, atI vs i = some v ∧ R K m L H d v := by
  unfold atI at h ⊢
  rw [← r.length]
  cases hj : ixN ds.length i with
  | none => rw [hj] at h; cases h
  | some j =>
    rw [hj] at h
    exact Rs.getD r h
theorem o_ix {X : Cx} {T : Tab} : SIx X T ixD := by
  refine ⟨_, ix_seq, fun P m S H x y dx dy d Q rs rx ry e q => ?_⟩
  unfold ixD at e
  split at e
  · cases ry
    cases rx with
    | tup hq r =>
      obtain ⟨v, h1, h2⟩ := atI_rs r e
      exact .inr (.inl ⟨_, _, _, v, rfl, rfl, hq, h1, q H v (fun _ _ e => e) h2⟩)
  · cases rx; cases ry
    split at e
    · rename_i s i hb
      cases hc : atI s i with
      | none => rw [hc] at e; cases e
      | some c =>
        rw [hc] at e
        cases e
        exact .inr (.inr ⟨_, _, c, rfl, rfl, by rw [tx_len]; exact big_ok hb, by simpa using hc, q H _ (fun _ _ e => e) (.str [c])⟩)
    · cases e
  · cases ry
    split at e
    · rename_i xs hl
      obtain ⟨a, vs, rfl, hq, r⟩ := lst_at rs rx hl
      obtain ⟨v, h1, h2⟩ := atI_rs r e
      exact .inl ⟨_, _, _, v, rfl, rfl, hq, h1, q H v (fun _ _ e => e) h2⟩
    · cases e
  · cases e

/-! ### slices -/
def cutD {α : Type} (xs : List α) (lo hi : Option Int) : List α := (xs.drop (HT.sIx xs.length 0 lo)).take (HT.sIx xs.length xs.length hi - HT.sIx xs.length 0 lo)
theorem cut_rs {K : PySem.W.Frag} {m : List Addr} {L : Addr → Prop} {H : Hp} {ds : List D} {vs : List V} {lo hi : Option Int} (r : Rs K m L H ds vs) : Rs K m L H (cutD ds lo hi) (cutV vs lo hi) := by
  unfold cutD cutV
  rw [← r.length]
  exact (r.drop _).take _
abbrev OM := Ev → Store → Res (Option Int)
@[simp] def oNone : OM := fun _ S => .ok none S
@[simp] def oSome (f : EM) : OM := fun ρ S => (f ρ S).bind fun d S1 => match d with
  | .int i => .ok (some i) S1
  | _ => .stuck
def GO (Q : Option Int → Hp → Prop) : List Addr → Store → Hp → Option Int → Prop := fun _ _ H b => Q b H
def tO (K : PySem.W.Frag) (T : Tab) (W : WX) (f : OM) : TO := fun σ H Q => ∃ P m S ρ, RS K T P m S H ∧ RE K m (Lv P m S) H ρ σ ∧ Meets K T P m S H (WN T W σ) (GO Q) (f ρ S)
theorem PO.mono {X : Cx} {e : Option Expr} {t t' : TO} (h : PO X e t) (k : ∀ σ H Q, t' σ H Q → t σ H Q) : PO X e t' := ⟨fun pins s σ H Q I q => h.run pins s σ H Q I (k σ H Q q)⟩
theorem o_none {X : Cx} {T : Tab} {W : WX} : PO X none (tO X.K T W oNone) := PO.mono po_none fun σ H Q ⟨P, m, S, ρ, rs, re, h⟩ => h.now rs
theorem o_some {X : Cx} {T : Tab} {W : WX} {e : Expr} {f : EM} (he : SE X T W e f) : PO X (some e) (tO X.K T W (oSome f)) := by
  refine PO.mono (po_some he) fun σ H Q ⟨P, m, S, ρ, rs, re, h⟩ => ?_
  refine tE.use rs re h fun m1 S1 H1 d v x1 rs1 re1 r1 h1 => ?_
  cases d with
  | int i => cases r1; exact ⟨i, rfl, h1.now rs1⟩
  | _ => exact h1.elim
def slD (S : Store) (x : D) (lo hi : Option Int) : Option D := match x with
  | .tup xs => some (.tup (cutD xs lo hi))
  | .str s => if big s.length = true then some (.str (cutD s lo hi)) else none
  | x => (lstOf S x).map fun xs => .lst (cutD xs lo hi)
@[simp] def eSl (f : EM) (l h : OM) : EM := fun ρ S => (f ρ S).bind fun d S1 => (l ρ S1).bind fun lo S2 => (h ρ S2).bind fun hi S3 => give (slD S3 d lo hi) S3
theorem s_slice {X : Cx} {T : Tab} {W : WX} {e : Expr} {lo hi : Option Expr} {f : EM} {fl fh : OM} {p2 pos : Pos} (he : SE X T W e f) (hl : PO X lo (tO X.K T W fl)) (hh : PO X hi (tO X.K T W fh)) : SE X T W (.Subscript e (.Slice lo hi none p2) pos) (eSl f fl fh) := by
  refine PE.mono (pe_slice (sl_tupA.or (sl_str.or sl_list)) he hl hh) fun σ H Q ⟨P, m, S, ρ, rs, re, h⟩ => ?_
  refine tE.use rs re h fun m1 S1 H1 d v x1 rs1 re1 r1 h1 => ⟨P, m1, S1, ρ, rs1, re1, h1.bind.imp fun m2 S2 H2 a x2 rs2 h2 => ⟨P, m2, S2, ρ, rs2, RE.ext x2 rs1 re1, h2.bind.imp fun m3 S3 H3 b x3 rs3 h3 => ?_⟩⟩
  obtain ⟨z, ez, q⟩ := h3.give rs3
  have r3 := R.ext x3 rs2 (R.ext x2 rs1 r1)
  unfold slD at ez
  split at ez
  · cases ez
    cases r3 with
    | tup hq r =>
      rename_i a' vs
      refine .inl ⟨a', vs, rfl, hq, fun hw => ?_, fun hw p hp => q _ _ (grow_upd hp) (tup_upd rs3 hp (cut_rs r))⟩
      rename_i xs
      have e1 : cutD xs a b = xs := by
        unfold cutD
        rw [r.length, hw.1, hw.2, List.drop_zero, Nat.sub_zero, ← r.length, List.take_length]
      rw [e1] at q
      exact q H3 _ (fun _ _ e => e) (.tup hq r)
  · split at ez
    · rename_i s hb
      cases ez
      cases r3
      refine .inr (.inl ⟨_, rfl, by rw [tx_len]; exact big_ok hb, ?_⟩)
      have e1 : cutS (tx s) a b = tx (cutD s a b) := by
        unfold cutS cutD
        rw [tx_len]
      rw [e1]
      exact q H3 _ (fun _ _ e => e) (.str _)
    · cases ez
  · rename_i hx1 hx2
    cases hl2 : lstOf S3 d with
    | none => rw [hl2] at ez; cases ez
    | some xs =>
      rw [hl2] at ez
      cases ez
      obtain ⟨a', vs, rfl, hq, r⟩ := lst_at rs3 r3 hl2
      exact .inr (.inr ⟨a', vs, rfl, hq, fun p hp => q _ _ (grow_upd hp) (frz_upd rs3 hp (cut_rs r))⟩)

/-! ### built-in functions -/
def SCall (X : Cx) (T : Tab) (f : Value) (g : Store → List D → Option D) : Prop :=
  ∃ r, CallR X f r ∧ ∀ P m S H xs ds d (Q : VK), RS X.K T P m S H → Rs X.K m (Lv P m S) H ds xs → g S ds = some d → (∀ H' v, (∀ b o, H b = some o → H' b = some o) → R X.K m (Lv P m S) H' d v → Q v H') → r xs H Q
def FCall (X : Cx) (T : Tab) (f : Value) (g : Store → List D → Option (List D)) : Prop :=
  ∃ r, CallR X f r ∧ ∀ P m S H xs ds ys (Q : VK), RS X.K T P m S H → Rs X.K m (Lv P m S) H ds xs → g S ds = some ys → (∀ p vs, H p = none → Rs X.K m (Lv P m S) H ys vs → Q (.ref p) (L2.upd H p (.lst vs))) → r xs H Q
@[simp] def eB (g : Store → List D → Option D) (a : AM) : EM := fun ρ S => (a ρ S).bind fun ds S1 => give (g S1 ds) S1
@[simp] def giveL (o : Option (List D)) (S : Store) : Res (List D) := match o with
  | some d => .ok d S
  | none => .stuck
@[simp] def fB (g : Store → List D → Option (List D)) (a : AM) : LM := fun ρ S => (a ρ S).bind fun ds S1 => giveL (g S1 ds) S1
section
variable {X : Cx} {T : Tab} {W : WX} {x : Str} {p pos : Pos} {e : Expr} {es : List Expr} {a : AM} {id N : String} {g : Store → List D → Option D} {gl : Store → List D → Option (List D)}
theorem s_callB (hc : SCall X T (.builtin id) g) (hg : Gl X x) (hm : X.mg x = none) (hv : bootBuiltins x = some (.builtin id)) (ha : SA X T W (e :: es) a) (hn : x ≠ "__name__" := by decide) (hdb : (x == ("__debug__" : Str)) = false := by decide)
    (he : starEach (e :: es) X.env = (false, eval e X.env) :: starEach es X.env := by rfl) (hpl : (backTo pos (starEach es X.env)).any (·.1) = false := by rfl) : SE X T W (.Call (.Name x p) (e :: es) [] pos) (eB g a) := by
  obtain ⟨r, hr, hg'⟩ := hc
  refine PE.mono (pe_callB hr hg hm hv ha hn hdb he hpl) fun σ H Q ⟨P, m, S, ρ, rs, re, h⟩ => ?_
  refine tA.use rs re h fun m1 S1 H1 d v x1 rs1 re1 r1 h1 => ?_
  obtain ⟨z, ez, q⟩ := h1.give rs1
  exact hg' P m1 S1 H1 v d z Q rs1 r1 ez q
theorem s_callTy (hc : SCall X T (.type N) g) (hg : Gl X x) (hm : X.mg x = none) (hv : bootBuiltins x = some (.type N)) (ha : SA X T W (e :: es) a) (hn : x ≠ "__name__" := by decide) (hdb : (x == ("__debug__" : Str)) = false := by decide)
    (he : starEach (e :: es) X.env = (false, eval e X.env) :: starEach es X.env := by rfl) (hpl : (backTo pos (starEach es X.env)).any (·.1) = false := by rfl) : SE X T W (.Call (.Name x p) (e :: es) [] pos) (eB g a) := by
  obtain ⟨r, hr, hg'⟩ := hc
  refine PE.mono (pe_callTy hr hg hm hv ha hn hdb he hpl) fun σ H Q ⟨P, m, S, ρ, rs, re, h⟩ => ?_
  refine tA.use rs re h fun m1 S1 H1 d v x1 rs1 re1 r1 h1 => ?_
  obtain ⟨z, ez, q⟩ := h1.give rs1
  exact hg' P m1 S1 H1 v d z Q rs1 r1 ez q
theorem giveL_meets {K : PySem.W.Frag} {P : Addr → Prop} {m m0 : List Addr} {S S0 : Store} {H H0 : Hp} {W : Nat → Hp → Prop} {Q : VK} {o : Option (List D)} (x : Ext m0 S0 H0 m S H) (rs : RS K T P m S H) (h : Meets K T P m S H W (GF K T P H0 Q) (giveL o S)) :
    ∃ ds, o = some ds ∧ ∀ p vs, H p = none → Rs K m (Lv P m S) H ds vs → Q (.ref p) (L2.upd H p (.lst vs)) := by
  cases o with
  | none => exact h.elim
  | some ds => exact ⟨ds, rfl, fun p vs hp r => fresh_upd x rs r h p hp⟩
theorem f_callB (hc : FCall X T (.builtin id) gl) (hg : Gl X x) (hm : X.mg x = none) (hv : bootBuiltins x = some (.builtin id)) (ha : SA X T W (e :: es) a) (hn : x ≠ "__name__" := by decide) (hdb : (x == ("__debug__" : Str)) = false := by decide)
    (he : starEach (e :: es) X.env = (false, eval e X.env) :: starEach es X.env := by rfl) (hpl : (backTo pos (starEach es X.env)).any (·.1) = false := by rfl) : SF X T W (.Call (.Name x p) (e :: es) [] pos) (fB gl a) := by
  obtain ⟨r, hr, hg'⟩ := hc
  refine PE.mono (pe_callB hr hg hm hv ha hn hdb he hpl) fun σ H Q ⟨P, m, S, ρ, rs, re, h⟩ => ?_
  refine tA.use rs re h fun m1 S1 H1 d v x1 rs1 re1 r1 h1 => ?_
  obtain ⟨z, ez, q⟩ := giveL_meets x1 rs1 h1
  exact hg' P m1 S1 H1 v d z Q rs1 r1 ez q
theorem f_callTy (hc : FCall X T (.type N) gl) (hg : Gl X x) (hm : X.mg x = none) (hv : bootBuiltins x = some (.type N)) (ha : SA X T W (e :: es) a) (hn : x ≠ "__name__" := by decide) (hdb : (x == ("__debug__" : Str)) = false := by decide)
    (he : starEach (e :: es) X.env = (false, eval e X.env) :: starEach es X.env := by rfl) (hpl : (backTo pos (starEach es X.env)).any (·.1) = false := by rfl) : SF X T W (.Call (.Name x p) (e :: es) [] pos) (fB gl a) := by
  obtain ⟨r, hr, hg'⟩ := hc
  refine PE.mono (pe_callTy hr hg hm hv ha hn hdb he hpl) fun σ H Q ⟨P, m, S, ρ, rs, re, h⟩ => ?_
  refine tA.use rs re h fun m1 S1 H1 d v x1 rs1 re1 r1 h1 => ?_
  obtain ⟨z, ez, q⟩ := giveL_meets x1 rs1 h1
  exact hg' P m1 S1 H1 v d z Q rs1 r1 ez q

/-- len -/
def lenD (S : Store) (ds : List D) : Option D := match ds with
  | [.str s] => if big s.length = true then some (.int s.length) else none
  | [.tup xs] => some (.int xs.length)
  | [d] => (lstOf S d).map fun xs => .int xs.length
  | _ => none
theorem rs_one {K : PySem.W.Frag} {m : List Addr} {L : Addr → Prop} {H : Hp} {d : D} {vs : List V} (r : Rs K m L H [d] vs) : ∃ v, vs = [v] ∧ R K m L H d v := by
  cases r with
  | cons r1 r2 => cases r2; exact ⟨_, rfl, r1⟩
theorem rs_two {K : PySem.W.Frag} {m : List Addr} {L : Addr → Prop} {H : Hp} {d e : D} {vs : List V} (r : Rs K m L H [d, e] vs) : ∃ v u, vs = [v, u] ∧ R K m L H d v ∧ R K m L H e u := by
  cases r with
  | cons r1 r2 =>
    obtain ⟨u, rfl, r3⟩ := rs_one r2
    exact ⟨_, u, rfl, r1, r3⟩
theorem c_len : SCall X T (.builtin "len") lenD := by
  refine ⟨_, call_len, fun P m S H xs ds d Q rs r e q => ?_⟩
  unfold lenD at e
  split at e
  · obtain ⟨v, rfl, rv⟩ := rs_one r
    split at e
    · rename_i hb
      cases e; cases rv
      exact ⟨_, _, rfl, ⟨by rw [tx_len]; exact big_ok hb, rfl⟩, by rw [tx_len]; exact q H _ (fun _ _ e => e) (.int _)⟩
    · cases e
  · obtain ⟨v, rfl, rv⟩ := rs_one r
    cases e
    cases rv with
    | tup hq r2 => exact ⟨_, _, rfl, .inr ⟨_, hq, rfl⟩, by rw [← r2.length]; exact q H _ (fun _ _ e => e) (.int _)⟩
  · obtain ⟨v, rfl, rv⟩ := rs_one r
    rename_i d0 _ _
    cases hl : lstOf S d0 with
    | none => rw [hl] at e; cases e
    | some xs =>
      rw [hl] at e
      cases e
      obtain ⟨a, vs, rfl, hq, r2⟩ := lst_at rs rv hl
      exact ⟨_, _, rfl, .inl ⟨_, hq, rfl⟩, by rw [← r2.length]; exact q H _ (fun _ _ e => e) (.int _)⟩
  · cases e
/-- tuple(xs) -/
def tupD (S : Store) (ds : List D) : Option D := match ds with
  | [.tup xs] => some (.tup xs)
  | [d] => (lstOf S d).map .tup
  | _ => none
theorem c_tuple : SCall X T (.type "tuple") tupD := by
  refine ⟨_, call_tuple_of, fun P m S H xs ds d Q rs r e q => ?_⟩
  unfold tupD at e
  split at e
  · obtain ⟨v, rfl, rv⟩ := rs_one r
    cases e
    cases rv with
    | tup hq r2 => exact ⟨_, _, rfl, .inr ⟨hq, q H _ (fun _ _ e => e) (.tup hq r2)⟩⟩
  · obtain ⟨v, rfl, rv⟩ := rs_one r
    rename_i d0 _
    cases hl : lstOf S d0 with
    | none => rw [hl] at e; cases e
    | some xs =>
      rw [hl] at e
      cases e
      obtain ⟨a, vs, rfl, hq, r2⟩ := lst_at rs rv hl
      exact ⟨_, _, rfl, .inl ⟨hq, fun l hp => q _ _ (grow_upd hp) (tup_upd rs hp r2)⟩⟩
  · cases e
/-- list(xs) -/
def listD (S : Store) (ds : List D) : Option (List D) := match ds with
  | [.tup xs] => some xs
  | [d] => lstOf S d
  | _ => none
theorem c_list : FCall X T (.type "list") listD := by
  refine ⟨_, call_list_of, fun P m S H xs ds ys Q rs r e q => ?_⟩
  unfold listD at e
  split at e
  · obtain ⟨v, rfl, rv⟩ := rs_one r
    cases e
    cases rv with
    | tup hq r2 => exact ⟨_, _, rfl, .inr hq, fun l hp => q l _ hp r2⟩
  · obtain ⟨v, rfl, rv⟩ := rs_one r
    obtain ⟨a, vs, rfl, hq, r2⟩ := lst_at rs rv e
    exact ⟨_, _, rfl, .inl hq, fun l hp => q l _ hp r2⟩
  · cases e
def intsOf : List D → Option (List Int)
  | [] => some []
  | .int i :: r => (intsOf r).map (i :: ·)
  | _ :: _ => none
def blsOf : List D → Option (List Bool)
  | [] => some []
  | .bl i :: r => (blsOf r).map (i :: ·)
  | _ :: _ => none
theorem ints_at {K : PySem.W.Frag} {m : List Addr} {L : Addr → Prop} {H : Hp} : ∀ {ds : List D} {vs : List V} {ns : List Int}, Rs K m L H ds vs → intsOf ds = some ns → vs = ns.map V.int
  | [], _, _, r, e => by cases e; cases r; rfl
  | d :: ds, _, ns, r, e => by
    cases r with
    | cons r1 r2 =>
      cases d with
      | int i =>
        unfold intsOf at e
        cases hi : intsOf ds with
        | none => rw [hi] at e; cases e
        | some ms =>
          rw [hi] at e
          cases e
          cases r1
          rw [ints_at r2 hi]; rfl
      | _ => cases e
theorem bls_at {K : PySem.W.Frag} {m : List Addr} {L : Addr → Prop} {H : Hp} : ∀ {ds : List D} {vs : List V} {ns : List Bool}, Rs K m L H ds vs → blsOf ds = some ns → vs = ns.map V.bl
  | [], _, _, r, e => by cases e; cases r; rfl
  | d :: ds, _, ns, r, e => by
    cases r with
    | cons r1 r2 =>
      cases d with
      | bl i =>
        unfold blsOf at e
        cases hi : blsOf ds with
        | none => rw [hi] at e; cases e
        | some ms =>
          rw [hi] at e
          cases e
          cases r1
          rw [bls_at r2 hi]; rfl
      | _ => cases e
theorem rs_ints {K : PySem.W.Frag} {m : List Addr} {L : Addr → Prop} {H : Hp} : ∀ ns : List Int, Rs K m L H (ns.map D.int) (ns.map V.int)
  | [] => .nil
  | i :: ns => .cons (.int i) (rs_ints ns)
@[simp] def lstInts (S : Store) (d : D) : Option (List Int) := (lstOf S d).bind intsOf
@[simp] def lstBls (S : Store) (d : D) : Option (List Bool) := (lstOf S d).bind blsOf
theorem lstInts_at {K : PySem.W.Frag} {P : Addr → Prop} {m : List Addr} {S : Store} {H : Hp} {d : D} {v : V} {ns : List Int} (rs : RS K T P m S H) (r : R K m (Lv P m S) H d v) (h : lstInts S d = some ns) : ∃ a, v = .ref a ∧ SqL K H a (ns.map V.int) := by
  unfold lstInts at h
  cases hl : lstOf S d with
  | none => rw [hl] at h; cases h
  | some xs =>
    rw [hl] at h
    obtain ⟨a, vs, rfl, hq, r2⟩ := lst_at rs r hl
    rw [ints_at r2 h] at hq
    exact ⟨a, rfl, hq⟩
theorem lstBls_at {K : PySem.W.Frag} {P : Addr → Prop} {m : List Addr} {S : Store} {H : Hp} {d : D} {v : V} {ns : List Bool} (rs : RS K T P m S H) (r : R K m (Lv P m S) H d v) (h : lstBls S d = some ns) : ∃ a, v = .ref a ∧ SqL K H a (ns.map V.bl) := by
  unfold lstBls at h
  cases hl : lstOf S d with
  | none => rw [hl] at h; cases h
  | some xs =>
    rw [hl] at h
    obtain ⟨a, vs, rfl, hq, r2⟩ := lst_at rs r hl
    rw [bls_at r2 h] at hq
    exact ⟨a, rfl, hq⟩
@[simp] def allD (S : Store) (ds : List D) : Option D := match ds with
  | [d] => (lstBls S d).map fun bs => .bl (bs.all fun b => b)
  | _ => none
@[simp] def anyD (S : Store) (ds : List D) : Option D := match ds with
  | [d] => (lstBls S d).map fun bs => .bl (bs.any fun b => b)
  | _ => none
@[simp] def sumD (S : Store) (ds : List D) : Option D := match ds with
  | [d] => (lstInts S d).map fun ns => .int ns.sum
  | _ => none
theorem c_all (hc : X.calm = true) : SCall X T (.builtin "all") allD := by
  refine ⟨_, cr_all hc, fun P m S H xs ds d Q rs r e q => ?_⟩
  unfold allD at e
  split at e
  · rename_i d0
    obtain ⟨v, rfl, rv⟩ := rs_one r
    cases hl : lstBls S d0 with
    | none => rw [hl] at e; cases e
    | some bs =>
      rw [hl] at e; cases e
      obtain ⟨a, rfl, hq⟩ := lstBls_at rs rv hl
      exact ⟨a, bs, rfl, hq, q H _ (fun _ _ e => e) (.bl _)⟩
  · cases e
theorem c_any (hc : X.calm = true) : SCall X T (.builtin "any") anyD := by
  refine ⟨_, cr_any hc, fun P m S H xs ds d Q rs r e q => ?_⟩
  unfold anyD at e
  split at e
  · rename_i d0
    obtain ⟨v, rfl, rv⟩ := rs_one r
    cases hl : lstBls S d0 with
    | none => rw [hl] at e; cases e
    | some bs =>
      rw [hl] at e; cases e
      obtain ⟨a, rfl, hq⟩ := lstBls_at rs rv hl
      exact ⟨a, bs, rfl, hq, q H _ (fun _ _ e => e) (.bl _)⟩
  · cases e
theorem c_sum (hc : X.calm = true) : SCall X T (.builtin "sum") sumD := by
  refine ⟨_, cr_sum hc, fun P m S H xs ds d Q rs r e q => ?_⟩
  unfold sumD at e
  split at e
  · rename_i d0
    obtain ⟨v, rfl, rv⟩ := rs_one r
    cases hl : lstInts S d0 with
    | none => rw [hl] at e; cases e
    | some bs =>
      rw [hl] at e; cases e
      obtain ⟨a, rfl, hq⟩ := lstInts_at rs rv hl
      exact ⟨a, bs, rfl, hq, q H _ (fun _ _ e => e) (.int _)⟩
  · cases e
def minL : Int → List Int → Int
  | i, [] => i
  | i, j :: r => minL (if j < i then j else i) r
def maxL : Int → List Int → Int
  | i, [] => i
  | i, j :: r => maxL (if i < j then j else i) r
theorem minL_spec : ∀ (r : List Int) (i : Int), minL i r ∈ i :: r ∧ ∀ j ∈ i :: r, minL i r ≤ j
  | [], i => by simp [minL]
  | j :: r, i => by
    unfold minL
    obtain ⟨h1, h2⟩ := minL_spec r (if j < i then j else i)
    have h3 := h2 _ List.mem_cons_self
    have h4 : (if j < i then j else i) ≤ i ∧ (if j < i then j else i) ≤ j := by split <;> omega
    refine ⟨?_, fun k hk => ?_⟩
    · rcases List.mem_cons.mp h1 with e | e
      · rw [e]; split <;> simp
      · exact List.mem_cons_of_mem _ (List.mem_cons_of_mem _ e)
    · rcases List.mem_cons.mp hk with e | hk
      · subst e; omega
      · rcases List.mem_cons.mp hk with e | hk
        · subst e; omega
        · exact h2 k (List.mem_cons_of_mem _ hk)
theorem maxL_spec : ∀ (r : List Int) (i : Int), maxL i r ∈ i :: r ∧ ∀ j ∈ i :: r, j ≤ maxL i r
  | [], i => by simp [maxL]
  | j :: r, i => by
    unfold maxL
    obtain ⟨h1, h2⟩ := maxL_spec r (if i < j then j else i)
    have h3 := h2 _ List.mem_cons_self
    have h4 : i ≤ (if i < j then j else i) ∧ j ≤ (if i < j then j else i) := by split <;> omega
    refine ⟨?_, fun k hk => ?_⟩
    · rcases List.mem_cons.mp h1 with e | e
      · rw [e]; split <;> simp
      · exact List.mem_cons_of_mem _ (List.mem_cons_of_mem _ e)
    · rcases List.mem_cons.mp hk with e | hk
      · subst e; omega
      · rcases List.mem_cons.mp hk with e | hk
        · subst e; omega
        · exact h2 k (List.mem_cons_of_mem _ hk)
@[simp] def minD (S : Store) (ds : List D) : Option D := match ds with
  | [.int i, .int j] => some (.int (if j < i then j else i))
  | [d] => (match lstInts S d with
    | some (i :: r) => some (.int (minL i r))
    | _ => none)
  | _ => none
@[simp] def maxD (S : Store) (ds : List D) : Option D := match ds with
  | [.int i, .int j] => some (.int (if j > i then j else i))
  | [d] => (match lstInts S d with
    | some (i :: r) => some (.int (maxL i r))
    | _ => none)
  | _ => none
theorem c_min (hc : X.calm = true) : SCall X T (.builtin "min") minD := by
  refine ⟨_, (call_min2 hc).or (cr_min hc), fun P m S H xs ds d Q rs r e q => ?_⟩
  unfold minD at e
  split at e
  · obtain ⟨v, u, rfl, rv, ru⟩ := rs_two r
    cases e; cases rv; cases ru
    exact .inl ⟨_, _, rfl, q H _ (fun _ _ e => e) (.int _)⟩
  · rename_i d0
    obtain ⟨v, rfl, rv⟩ := rs_one r
    cases hl : lstInts S d0 with
    | none => rw [hl] at e; cases e
    | some bs =>
      rw [hl] at e
      cases bs with
      | nil => cases e
      | cons i is =>
        cases e
        obtain ⟨a, rfl, hq⟩ := lstInts_at rs rv hl
        refine .inr ⟨a, i :: is, rfl, hq, by simp, fun k hk hle => ?_⟩
        obtain ⟨h1, h2⟩ := minL_spec is i
        have : k = minL i is := Int.le_antisymm (hle _ h1) (h2 _ hk)
        rw [this]
        exact q H _ (fun _ _ e => e) (.int _)
  · cases e
theorem c_max (hc : X.calm = true) : SCall X T (.builtin "max") maxD := by
  refine ⟨_, (call_max2 hc).or (cr_max hc), fun P m S H xs ds d Q rs r e q => ?_⟩
  unfold maxD at e
  split at e
  · obtain ⟨v, u, rfl, rv, ru⟩ := rs_two r
    cases e; cases rv; cases ru
    exact .inl ⟨_, _, rfl, q H _ (fun _ _ e => e) (.int _)⟩
  · rename_i d0
    obtain ⟨v, rfl, rv⟩ := rs_one r
    cases hl : lstInts S d0 with
    | none => rw [hl] at e; cases e
    | some bs =>
      rw [hl] at e
      cases bs with
      | nil => cases e
      | cons i is =>
        cases e
        obtain ⟨a, rfl, hq⟩ := lstInts_at rs rv hl
        refine .inr ⟨a, i :: is, rfl, hq, by simp, fun k hk hle => ?_⟩
        obtain ⟨h1, h2⟩ := maxL_spec is i
        have : k = maxL i is := Int.le_antisymm (h2 _ hk) (hle _ h1)
        rw [this]
        exact q H _ (fun _ _ e => e) (.int _)
  · cases e
@[simp] def absD (_ : Store) (ds : List D) : Option D := match ds with
  | [.int i] => some (.int (if i < 0 then -i else i))
  | _ => none
theorem c_abs : SCall X T (.builtin "abs") absD := by
  refine ⟨_, call_abs, fun P m S H xs ds d Q rs r e q => ?_⟩
  unfold absD at e
  split at e
  · obtain ⟨v, rfl, rv⟩ := rs_one r
    cases e; cases rv
    exact ⟨_, rfl, q H _ (fun _ _ e => e) (.int _)⟩
  · cases e
@[simp] def intD (_ : Store) (ds : List D) : Option D := match ds with
  | [.int i] => some (.int i)
  | [.bl b] => some (.int (if b then 1 else 0))
  | _ => none
theorem c_int : SCall X T (.type "int") intD := by
  refine ⟨_, call_int1, fun P m S H xs ds d Q rs r e q => ?_⟩
  unfold intD at e
  split at e
  · obtain ⟨v, rfl, rv⟩ := rs_one r
    cases e; cases rv
    exact .inl ⟨_, rfl, q H _ (fun _ _ e => e) (.int _)⟩
  · obtain ⟨v, rfl, rv⟩ := rs_one r
    cases e; cases rv
    exact .inr ⟨_, rfl, q H _ (fun _ _ e => e) (.int _)⟩
  · cases e
end

/-! ### isinstance of a built-in class -/
inductive Ty where
  | int | bool | str | tuple | list | dict
  deriving DecidableEq
def Ty.name : Ty → String
  | .int => "int" | .bool => "bool" | .str => "str" | .tuple => "tuple" | .list => "list" | .dict => "dict"
@[simp] def isTy (S : Store) (t : Ty) (d : D) : Option Bool := match d with
  | .non => some false
  | .bl _ => some (decide (t = .bool) || decide (t = .int))
  | .int _ => some (decide (t = .int))
  | .str _ => some (decide (t = .str))
  | .tup _ => some (decide (t = .tuple))
  | .lst _ => some (decide (t = .list))
  | .src _ => some (decide (t = .list))
  | .dct _ => some (decide (t = .dict))
  | .obj j => (match S[j]? with
    | some (.lst _) => some (decide (t = .list))
    | some (.dct _) => some (decide (t = .dict))
    | _ => none)
@[simp] def eIsi (t : Ty) (f : EM) : EM := fun ρ S => (f ρ S).bind fun d S1 => give ((isTy S1 t d).map .bl) S1
theorem kit_all (K : PySem.W.Frag) (t : Ty) : PySem.W.kitOne K (.type "NoneType") (.type t.name) = some false ∧ PySem.W.kitOne K (.type "bool") (.type t.name) = some (decide (t = .bool) || decide (t = .int)) ∧
    PySem.W.kitOne K (.type "int") (.type t.name) = some (decide (t = .int)) ∧ PySem.W.kitOne K (.type "str") (.type t.name) = some (decide (t = .str)) ∧ PySem.W.kitOne K (.type "tuple") (.type t.name) = some (decide (t = .tuple)) ∧
    PySem.W.kitOne K (.type "list") (.type t.name) = some (decide (t = .list)) ∧ PySem.W.kitOne K (.type "dict") (.type t.name) = some (decide (t = .dict)) := by
  cases t <;> exact ⟨kit_ty (by decide +kernel), kit_ty (by decide +kernel), kit_ty (by decide +kernel), kit_ty (by decide +kernel), kit_ty (by decide +kernel), kit_ty (by decide +kernel), kit_ty (by decide +kernel)⟩
theorem ty_tup {K : PySem.W.Frag} {H : Hp} {a : Addr} {vs : List V} (h : SqT K H a vs) : TyX K H (.ref a) (.type "tuple") := by
  rcases h with (h | ⟨o, h⟩) | ⟨o, its, n, h, hc, _⟩
  · exact .base (.tup h)
  · exact .fTuple h
  · exact .kTuple h hc
theorem ty_lst {K : PySem.W.Frag} {H : Hp} {a : Addr} {vs : List V} (h : SqL K H a vs) : TyX K H (.ref a) (.type "list") := by
  rcases h with (h | ⟨o, h⟩) | ⟨o, its, n, h, hc, _⟩
  · exact .base (.lst h)
  · exact .base (.frz h)
  · exact .kList h hc
theorem ty_at {K : PySem.W.Frag} {T : Tab} {P : Addr → Prop} {m : List Addr} {S : Store} {H : Hp} {d : D} {v : V} {t : Ty} {b : Bool} (rs : RS K T P m S H) (r : R K m (Lv P m S) H d v) (h : isTy S t d = some b) : ∃ u, TyX K H v u ∧ PySem.W.kitOne K u (.type t.name) = some b := by
  obtain ⟨k1, k2, k3, k4, k5, k6, k7⟩ := kit_all K t
  cases d with
  | non => cases h; cases r; exact ⟨_, .base .non, k1⟩
  | bl => cases h; cases r; exact ⟨_, .base (.bl _), k2⟩
  | int => cases h; cases r; exact ⟨_, .base (.int _), k3⟩
  | str => cases h; cases r; exact ⟨_, .base (.str _), k4⟩
  | tup xs => cases h; cases r with | tup hq _ => exact ⟨_, ty_tup hq, k5⟩
  | lst xs => cases h; cases r with | lst hq _ _ => exact ⟨_, ty_lst (SqL.of hq), k6⟩
  | src xs => cases h; cases r with | src hq _ => exact ⟨_, ty_lst (sr_seq hq), k6⟩
  | dct xs => cases h; cases r with | dct hq _ _ => exact ⟨_, .base (.dK hq), k7⟩
  | obj j =>
    cases r with
    | obj hj =>
      unfold isTy at h
      cases hs : S[j]? with
      | none => simp only [hs] at h; cases h
      | some o =>
        cases o with
        | lst ys =>
          simp only [hs] at h; cases h
          cases rs.at_ j _ _ hj hs with
          | lst h1 h2 => exact ⟨_, .base (.lst h1), k6⟩
        | dct ys =>
          simp only [hs] at h; cases h
          cases rs.at_ j _ _ hj hs with
          | dct h1 h2 => exact ⟨_, .base (.dK h1), k7⟩
        | _ => simp only [hs] at h; cases h
theorem s_isi {X : Cx} {T : Tab} {W : WX} {e : Expr} {f : EM} {p p2 pos : Pos} {x : Str} (t : Ty) (hg : Gl X "isinstance") (hm : X.mg "isinstance" = none) (hg2 : Gl X x) (hm2 : X.mg x = none) (hb : bootBuiltins x = some (.type t.name)) (he : SE X T W e f)
    (h1 : starEach [e, .Name x p2] X.env = (false, eval e X.env) :: starEach [.Name x p2] X.env := by rfl) (h2 : (backTo pos (starEach [.Name x p2] X.env)).any (·.1) = false := by rfl)
    (h3 : starEach [.Name x p2] X.env = (false, eval (.Name x p2) X.env) :: starEach [] X.env := by rfl) (hn : x ≠ "__name__" := by decide) (hd : (x == ("__debug__" : Str)) = false := by decide) :
    SE X T W (.Call (.Name "isinstance" p) [e, .Name x p2] [] pos) (eIsi t f) := by
  refine PE.mono (pe_callB call_isi hg hm PyProof.Rows.boot_isinstance (pa_cons he (pa_cons (pe_bltn (v := .ty t.name) hg2 hm2 hb rfl hn hd) pa_nil h3) h1) (by decide) (by decide) h1 h2) fun σ H Q ⟨P, m, S, ρ, rs, re, h⟩ => ?_
  refine tE.use rs re h fun m1 S1 H1 d v x1 rs1 re1 r1 h1 => ?_
  obtain ⟨z, ez, q⟩ := h1.give rs1
  cases hb2 : isTy S1 t d with
  | none => rw [hb2] at ez; cases ez
  | some b =>
    rw [hb2] at ez
    cases ez
    obtain ⟨u, h5, h6⟩ := ty_at rs1 r1 hb2
    exact ⟨v, _, u, _, b, rfl, .ty _, h5, h6, q H1 _ (fun _ _ e => e) (.bl b)⟩
end Sm
/-! ## Sm6 -/
/-! Sm6: methods of lists, texts, dicts; dicts made, read, changed; lists given out for good. -/
namespace Sm
open PySem PySem.Spec PyProof.Rows L2

/-! ### a mutable list handed on as data -/
@[simp] def frzD (S : Store) (d : D) : Option (D × Store) := match d with
  | .obj j => (match S[j]? with
    | some (.lst xs) => some (.lst xs, S.set j .dead)
    | _ => none)
  | _ => none
@[simp] def give2 (o : Option (D × Store)) : Res D := match o with
  | some (d, S) => .ok d S
  | none => .stuck
@[simp] def eFreeze (f : EM) : EM := fun ρ S => (f ρ S).bind fun d S1 => give2 (frzD S1 d)
theorem s_freeze {X : Cx} {T : Tab} {W : WX} {e : Expr} {f : EM} (he : SE X T W e f) : SE X T W e (eFreeze f) := by
  refine PE.mono he fun σ H Q ⟨P, m, S, ρ, rs, re, h⟩ => ?_
  refine tE.use rs re h fun m1 S1 H1 d v x1 rs1 re1 r1 h1 => ?_
  unfold frzD at h1
  split at h1
  · rename_i j
    cases r1 with
    | obj hj =>
      cases hs : S1[j]? with
      | none => simp only [hs] at h1; exact h1.elim
      | some o =>
        cases o with
        | lst xs =>
          simp only [hs, give2] at h1
          cases rs1.at_ j _ _ hj hs with
          | lst e1 r1 =>
            obtain ⟨x2, rs2⟩ := rs1.free hs (by intro z; cases z)
            exact h1 m1 H1 x2 rs2 _ (.lst e1 (free_notLv rs1 hj hs (by intro z; cases z)) (Rs.ext x2 rs1 r1))
        | _ => simp only [hs] at h1; exact h1.elim
  · exact h1.elim

/-! ### methods that change a list -/
def SMm (X : Cx) (T : Tab) (id : String) (g : Store → D → List D → Option (D × Store)) : Prop :=
  ∃ r, MtR X id r ∧ ∀ P m S H x xs dx ds d S' (Q : VK), RS X.K T P m S H → R X.K m (Lv P m S) H dx x → Rs X.K m (Lv P m S) H ds xs → g S dx ds = some (d, S') →
    (∀ m' H' v, Ext m S H m' S' H' → RS X.K T P m' S' H' → R X.K m' (Lv P m' S') H' d v → Q v H') → r x xs H Q
@[simp] def isL (S : Store) (d : D) : Bool := (lstOf S d).isSome
@[simp] def eMm (g : Store → D → List D → Option (D × Store)) (fo : EM) (a : AM) : EM := fun ρ S => (fo ρ S).bind fun d S1 => if isL S1 d = true then (a ρ S1).bind fun ds S2 => give2 (g S2 d ds) else .stuck
theorem give2_meets {K : PySem.W.Frag} {T : Tab} {P : Addr → Prop} {m : List Addr} {S : Store} {H : Hp} {W : Nat → Hp → Prop} {Q : VK} {o : Option (D × Store)} (h : Meets K T P m S H W (GD K P Q) (give2 o)) :
    ∃ d S', o = some (d, S') ∧ ∀ m' H' v, Ext m S H m' S' H' → RS K T P m' S' H' → R K m' (Lv P m' S') H' d v → Q v H' := by
  cases o with
  | none => exact h.elim
  | some p => obtain ⟨d, S'⟩ := p; exact ⟨d, S', rfl, fun m' H' v x rs r => h m' H' x rs v r⟩
theorem tyL {K : PySem.W.Frag} {T : Tab} {P : Addr → Prop} {m : List Addr} {S : Store} {H : Hp} {d : D} {v : V} (rs : RS K T P m S H) (r : R K m (Lv P m S) H d v) (h : isL S d = true) : tyV K "list" v H := by
  unfold isL at h
  cases hl : lstOf S d with
  | none => rw [hl] at h; cases h
  | some xs =>
    obtain ⟨a, vs, rfl, hq, _⟩ := lst_at rs r hl
    exact .inl ⟨rfl, vs, hq⟩
section
variable {X : Cx} {T : Tab} {W : WX} {o e : Expr} {es : List Expr} {fo : EM} {a : AM} {name : Str} {apos cpos : Pos} {id : String} {g : Store → D → List D → Option (D × Store)}
theorem s_mm (slot : Slot "list" name id) (hty : typeOf (.builtin id) = pure (.type "method_descriptor")) (hm : SMm X T id g) (ho : SE X T W o fo) (ha : SA X T W (e :: es) a)
    (hbase : attributeBase o name X.env (eval o X.env) = eval o X.env := by rfl)
    (hfew : ((backTo cpos (starEach (e :: es) X.env)).all (fun x => !x.1) && (backToKw cpos (keywordEach [] X.env)).all (fun x => x.1.isSome)
      && decide ((e :: es).length + ([] : List Keyword).length + (if ([] : List Keyword).isEmpty then 0 else 1) < 30)) = true := by rfl)
    (hline : (apos.endLine == cpos.line) = true := by rfl) (hs : starEach (e :: es) X.env = (false, eval e X.env) :: starEach es X.env := by rfl) (hplain : (backTo cpos (starEach es X.env)).any (·.1) = false := by rfl) :
    SE X T W (.Call (.Attribute o name apos) (e :: es) [] cpos) (eMm g fo a) := by
  obtain ⟨r, hr, hg⟩ := hm
  refine PE.mono (pe_bm PySem.F.plainAttrs_list slot hty hr ho ha hbase hfew hline hs hplain) fun σ H Q ⟨P, m, S, ρ, rs, re, h⟩ => ?_
  refine tE.use rs re h fun m1 S1 H1 d v x1 rs1 re1 r1 h1 => ?_
  by_cases hi : isL S1 d = true
  · rw [if_pos hi] at h1
    refine ⟨tyL rs1 r1 hi, tA.use rs1 re1 h1 fun m2 S2 H2 ds vs x2 rs2 re2 r2 h2 => ?_⟩
    obtain ⟨z, S', ez, q⟩ := give2_meets h2
    exact hg P m2 S2 H2 v vs d ds z S' Q rs2 (R.ext x2 rs1 r1) r2 ez q
  · rw [if_neg hi] at h1; exact h1.elim
theorem s_mm0 (slot : Slot "list" name id) (hty : typeOf (.builtin id) = pure (.type "method_descriptor")) (hm : SMm X T id g) (ho : SE X T W o fo)
    (hbase : attributeBase o name X.env (eval o X.env) = eval o X.env := by rfl) (hline : (apos.endLine == cpos.line) = true := by rfl) :
    SE X T W (.Call (.Attribute o name apos) [] [] cpos) (eMm g fo aNil) := by
  obtain ⟨r, hr, hg⟩ := hm
  refine PE.mono (pe_bm0 PySem.F.plainAttrs_list slot hty hr ho hbase hline) fun σ H Q ⟨P, m, S, ρ, rs, re, h⟩ => ?_
  refine tE.use rs re h fun m1 S1 H1 d v x1 rs1 re1 r1 h1 => ?_
  by_cases hi : isL S1 d = true
  · rw [if_pos hi] at h1
    refine ⟨tyL rs1 r1 hi, ?_⟩
    obtain ⟨z, S', ez, q⟩ := give2_meets h1
    exact hg P m1 S1 H1 v [] d [] z S' Q rs1 r1 .nil ez q
  · rw [if_neg hi] at h1; exact h1.elim
/-- the object j holds a list: change it by k -/
@[simp] def onL (S : Store) (d : D) (k : List D → Option (D × List D)) : Option (D × Store) := match d with
  | .obj j => (match S[j]? with
    | some (.lst xs) => (k xs).map fun p => (p.1, S.set j (.lst p.2))
    | _ => none)
  | _ => none
theorem onL_at {K : PySem.W.Frag} {P : Addr → Prop} {m : List Addr} {S S' : Store} {H : Hp} {d z : D} {v : V} {k : List D → Option (D × List D)} (rs : RS K T P m S H) (r : R K m (Lv P m S) H d v) (h : onL S d k = some (z, S')) :
    ∃ j a xs vs ys, d = .obj j ∧ v = .ref a ∧ H a = some (.lst vs) ∧ Rs K m (Lv P m S) H xs vs ∧ k xs = some (z, ys) ∧ S' = S.set j (.lst ys) ∧ lstT S d = some xs ∧
      ∀ ws, Rs K m (Lv P m S) H ys ws → Ext m S H m (S.set j (.lst ys)) (L2.upd H a (.lst ws)) ∧ RS K T P m (S.set j (.lst ys)) (L2.upd H a (.lst ws)) := by
  unfold onL at h
  split at h
  · rename_i j
    cases r with
    | obj hj =>
      cases hs : S[j]? with
      | none => simp only [hs] at h; cases h
      | some o =>
        cases o with
        | lst xs =>
          simp only [hs] at h
          cases hk : k xs with
          | none => rw [hk] at h; cases h
          | some p =>
            rw [hk] at h
            cases h
            cases rs.at_ j _ _ hj hs with
            | lst e1 r1 =>
              refine ⟨j, _, xs, _, p.2, rfl, rfl, e1, r1, hk, rfl, by simp [lstT, hs], fun ws rw' => rs.write hj hs (by intro z; cases z) fun x le => .lst upd_same (Rs.le le _ _ rw')⟩
        | _ => simp only [hs] at h; cases h
  · cases h
@[simp] def appendM (S : Store) (d : D) (ds : List D) : Option (D × Store) := match ds with
  | [y] => onL S d fun xs => if xs.length < 16777216 then some (.non, xs ++ [y]) else none
  | _ => none
theorem m_append : SMm X T "list.append" appendM := by
  refine ⟨_, mt_append, fun P m S H x xs dx ds d S' Q rs rx r e q => ?_⟩
  unfold appendM at e
  split at e
  · obtain ⟨v, rfl, rv⟩ := rs_one r
    obtain ⟨j, a, ys, vs, zs, rfl, rfl, e1, r1, hk, rfl, _, go⟩ := onL_at rs rx e
    split at hk
    · rename_i hl
      cases hk
      obtain ⟨x1, rs1⟩ := go _ (r1.snoc rv)
      refine ⟨a, vs, v, rfl, rfl, e1, by rw [sizeLine_eq, ← r1.length]; exact hl, q m _ _ x1 rs1 .non⟩
    · cases hk
  · cases e
@[simp] def extendM (S : Store) (d : D) (ds : List D) : Option (D × Store) := match ds with
  | [y] => (match lstT S y with
    | some zs => onL S d fun xs => if big (xs.length + zs.length) = true then some (.non, xs ++ zs) else none
    | none => none)
  | _ => none
theorem m_extend : SMm X T "list.extend" extendM := by
  refine ⟨_, mt_extend, fun P m S H x xs dx ds d S' Q rs rx r e q => ?_⟩
  unfold extendM at e
  split at e
  · obtain ⟨v, rfl, rv⟩ := rs_one r
    split at e
    · rename_i zs hz
      obtain ⟨b, ws, rfl, e2, r2⟩ := lstT_at rs rv hz
      obtain ⟨j, a, ys, vs, us, rfl, rfl, e1, r1, hk, rfl, _, go⟩ := onL_at rs rx e
      split at hk
      · rename_i hl
        cases hk
        obtain ⟨x1, rs1⟩ := go _ (r1.append r2)
        exact ⟨a, b, vs, ws, rfl, rfl, e1, e2, by rw [← r1.length, ← r2.length]; exact big_ok hl, q m _ _ x1 rs1 .non⟩
      · cases hk
    · cases e
  · cases e
@[simp] def popM (S : Store) (d : D) (ds : List D) : Option (D × Store) := match ds with
  | [.int i] => onL S d fun xs => (ixN xs.length i).bind fun k => (xs[k]?).bind fun y => if in63 i = true then some (y, xs.eraseIdx k) else none
  | _ => none
theorem m_pop : SMm X T "list.pop" popM := by
  refine ⟨_, mt_popAt, fun P m S H x xs dx ds d S' Q rs rx r e q => ?_⟩
  unfold popM at e
  split at e
  · rename_i i
    obtain ⟨v, rfl, rv⟩ := rs_one r
    cases rv
    obtain ⟨j, a, ys, vs, us, rfl, rfl, e1, r1, hk, rfl, _, go⟩ := onL_at rs rx e
    cases hi : ixN ys.length i with
    | none => rw [hi] at hk; cases hk
    | some k =>
      rw [hi] at hk
      cases hy : ys[k]? with
      | none => simp only [Option.bind_some, hy] at hk; cases hk
      | some y =>
        simp only [Option.bind_some, hy] at hk
        split at hk
        · rename_i h63
          cases hk
          obtain ⟨w, hw, rw'⟩ := Rs.getD r1 hy
          obtain ⟨x1, rs1⟩ := go _ (r1.erase k)
          obtain ⟨s1, _⟩ := ixN_seq hi
          exact ⟨a, vs, i, k, w, rfl, rfl, e1, (in63_ok h63).1, (in63_ok h63).2, by rw [← r1.length]; exact s1, hw, q m _ _ x1 rs1 (R.ext x1 rs rw')⟩
        · cases hk
  · cases e
/-- where the first item equal to x stands -/
def placeOf (x : D) : List D → Option Nat
  | [] => none
  | y :: ys => if D.eqv y x = true then some 0 else (placeOf x ys).map (· + 1)
theorem place_py {x : D} (hx : D.flat 64 x = true) : ∀ {ds : List D}, D.flats 63 ds = true → SeqAt.dataPlace (D.pys ds) x.py = placeOf x ds
  | [], _ => by unfold D.pys placeOf SeqAt.dataPlace; rfl
  | d :: ds, h => by
    unfold D.flats at h
    obtain ⟨h1, h2⟩ := Bool.and_eq_true_iff.mp h
    have ih := place_py hx h2
    unfold SeqAt.dataPlace at ih ⊢
    unfold D.pys placeOf
    rw [List.findIdx?_cons, eqv_py 63 64 d x h1 hx, ih]
mutual
theorem lay_plain : ∀ d : PyData, d.canLay0 = true → d.plain = true
  | .none, _ => by unfold PyData.plain; rfl
  | .bool _, _ => by unfold PyData.plain; rfl
  | .int _, _ => by unfold PyData.plain; rfl
  | .str _, _ => by unfold PyData.plain; rfl
  | .list xs, h => by unfold PyData.plain; exact lay_plains xs (by unfold PyData.canLay0 at h; exact h)
  | .tuple xs, h => by unfold PyData.plain; exact lay_plains xs (by unfold PyData.canLay0 at h; exact h)
  | .dict _, h => by unfold PyData.canLay0 at h; cases h
theorem lay_plains : ∀ ds : List PyData, PyData.canLayAll0 ds = true → PyData.plainAll ds = true
  | [], _ => by unfold PyData.plainAll; rfl
  | x :: xs, h => by
    unfold PyData.canLayAll0 at h
    obtain ⟨h1, h2⟩ := Bool.and_eq_true_iff.mp h
    unfold PyData.plainAll
    rw [lay_plain x h1, lay_plains xs h2]; rfl
end
def rRemD (K : PySem.W.Frag) : V → List V → Hp → VK → Prop := fun x xs H Q => ∃ (a : Addr) (y : V) (vs : List V) (d : PyData) (ds : List PyData) (j : Nat), x = .ref a ∧ xs = [y] ∧ H a = some (.lst vs) ∧ DpAll K H vs ds ∧ Dp K H y d ∧
  PyData.canLayAll0 ds = true ∧ PyData.depthAll ds ≤ 63 ∧ d.canLay0 = true ∧ SeqAt.dataPlace ds d = some j ∧ Q .non (L2.upd H a (.lst (vs.eraseIdx j)))
theorem mt_remD (hu : X.A.units + 65 < cLine) : MtR X "list.remove" (rRemD X.K) := by
  intro pins s σ H x xs v us Q I rx rxs h
  obtain ⟨a, y, vs, d, ds, j, rfl, rfl, hH, hds, hd, c1, c2, c3, hp, q⟩ := h
  cases rx
  obtain ⟨u, rfl, ru⟩ := Vals.one rxs
  obtain ⟨z, its, n, r, hl, e⟩ := I.lstM hH
  obtain ⟨as, h1⟩ := Dp.readsAll I ds vs its hds r
  obtain ⟨bs, h2⟩ := Dp.reads I d y u hd ru
  refine SeqAt.remove_list_data (vs := its.toArray) (j := j) ⟨_, e, rfl, n, rfl⟩ h1 h2 (lay_plains ds c1) (lay_plain d c3) ?_ hp (by rw [List.size_toArray]; omega) ?_
  · have : min (PyData.depthAll ds) d.depth ≤ 63 := Nat.le_trans (Nat.min_le_left _ _) c2
    omega
  · exact ⟨.non, _, I.lset (its' := its.eraseIdx j) hH e (by simp) (r.eraseIdx j) (Nat.le_trans (len_erase vs j) z), rfl, q⟩
@[simp] def removeM (S : Store) (d : D) (ds : List D) : Option (D × Store) := match ds with
  | [y] => onL S d fun xs => if (D.flats 63 xs && D.flat 64 y) = true then (placeOf y xs).map fun j => (.non, xs.eraseIdx j) else none
  | _ => none
theorem m_remove (hu : X.A.units + 65 < cLine) : SMm X T "list.remove" removeM := by
  refine ⟨_, mt_remD hu, fun P m S H x xs dx ds d S' Q rs rx r e q => ?_⟩
  unfold removeM at e
  split at e
  · rename_i y
    obtain ⟨v, rfl, rv⟩ := rs_one r
    obtain ⟨j, a, ys, vs, us, rfl, rfl, e1, r1, hk, rfl, _, go⟩ := onL_at rs rx e
    split at hk
    · rename_i hb
      obtain ⟨h1, h2⟩ := Bool.and_eq_true_iff.mp hb
      cases hpl : placeOf y ys with
      | none => rw [hpl] at hk; cases hk
      | some k =>
        rw [hpl] at hk
        cases hk
        obtain ⟨x1, rs1⟩ := go _ (r1.erase k)
        obtain ⟨c1, c2⟩ := flats_shape 63 ys h1
        exact ⟨a, v, vs, y.py, D.pys ys, k, rfl, rfl, e1, dps_of 63 ys vs h1 r1, dp_of 64 y v h2 rv, c1, c2, (flat_shape 64 y h2).1, by rw [place_py h2 h1]; exact hpl, q m _ _ x1 rs1 .non⟩
    · cases hk
  · cases e
end

/-! ### methods of texts -/
def SMs (X : Cx) (id : String) (g : List Nat → List D → Option D) : Prop :=
  ∃ r, MtR X id r ∧ ∀ K T P m S H (s : List Nat) xs ds d (Q : VK), RS K T P m S H → Rs K m (Lv P m S) H ds xs → g s ds = some d → (∀ v, R K m (Lv P m S) H d v → Q v H) → r (.str (tx s)) xs H Q
@[simp] def onS (d : D) (k : List Nat → Res D) : Res D := match d with
  | .str s => k s
  | _ => .stuck
@[simp] def eMs (g : List Nat → List D → Option D) (fo : EM) (a : AM) : EM := fun ρ S => (fo ρ S).bind fun d S1 => onS d fun s => (a ρ S1).bind fun ds S2 => give (g s ds) S2
section
variable {X : Cx} {T : Tab} {W : WX} {o e : Expr} {es : List Expr} {fo : EM} {a : AM} {name : Str} {apos cpos : Pos} {id : String} {g : List Nat → List D → Option D}
theorem s_ms (slot : Slot "str" name id) (hty : typeOf (.builtin id) = pure (.type "method_descriptor")) (hm : SMs X id g) (ho : SE X T W o fo) (ha : SA X T W (e :: es) a)
    (hbase : attributeBase o name X.env (eval o X.env) = eval o X.env := by rfl)
    (hfew : ((backTo cpos (starEach (e :: es) X.env)).all (fun x => !x.1) && (backToKw cpos (keywordEach [] X.env)).all (fun x => x.1.isSome)
      && decide ((e :: es).length + ([] : List Keyword).length + (if ([] : List Keyword).isEmpty then 0 else 1) < 30)) = true := by rfl)
    (hline : (apos.endLine == cpos.line) = true := by rfl) (hs : starEach (e :: es) X.env = (false, eval e X.env) :: starEach es X.env := by rfl) (hplain : (backTo cpos (starEach es X.env)).any (·.1) = false := by rfl) :
    SE X T W (.Call (.Attribute o name apos) (e :: es) [] cpos) (eMs g fo a) := by
  obtain ⟨r, hr, hg⟩ := hm
  refine PE.mono (pe_bm PySem.F.plainAttrs_str slot hty hr ho ha hbase hfew hline hs hplain) fun σ H Q ⟨P, m, S, ρ, rs, re, h⟩ => ?_
  refine tE.use rs re h fun m1 S1 H1 d v x1 rs1 re1 r1 h1 => ?_
  cases d with
  | str s =>
    cases r1
    refine ⟨rfl, tA.use rs1 re1 h1 fun m2 S2 H2 ds vs x2 rs2 re2 r2 h2 => ?_⟩
    obtain ⟨z, ez, q⟩ := h2.give rs2
    exact hg X.K T P m2 S2 H2 s vs ds z Q rs2 r2 ez fun v r => q H2 v (fun _ _ e => e) r
  | _ => exact h1.elim
theorem s_ms0 (slot : Slot "str" name id) (hty : typeOf (.builtin id) = pure (.type "method_descriptor")) (hm : SMs X id g) (ho : SE X T W o fo)
    (hbase : attributeBase o name X.env (eval o X.env) = eval o X.env := by rfl) (hline : (apos.endLine == cpos.line) = true := by rfl) :
    SE X T W (.Call (.Attribute o name apos) [] [] cpos) (eMs g fo aNil) := by
  obtain ⟨r, hr, hg⟩ := hm
  refine PE.mono (pe_bm0 PySem.F.plainAttrs_str slot hty hr ho hbase hline) fun σ H Q ⟨P, m, S, ρ, rs, re, h⟩ => ?_
  refine tE.use rs re h fun m1 S1 H1 d v x1 rs1 re1 r1 h1 => ?_
  cases d with
  | str s =>
    cases r1
    obtain ⟨z, ez, q⟩ := (show Meets X.K T P m1 S1 H1 (WN T W σ) (GD X.K P Q) (give (g s []) S1) from h1).give rs1
    exact ⟨rfl, hg X.K T P m1 S1 H1 s [] [] z Q rs1 .nil ez fun v r => q H1 v (fun _ _ e => e) r⟩
  | _ => exact h1.elim
end
/-- where a sign stands first -/
def signAt (c : Nat) : List Nat → Option Nat
  | [] => none
  | d :: r => if d = c then some 0 else (signAt c r).map (· + 1)
@[simp] def upperS (s : List Nat) (ds : List D) : Option D := match ds with
  | [] => if (decide (s.length ≤ 5592405) && s.all fun c => decide (c < 128)) = true then some (.str (s.map PyProof.Rows.up1)) else none
  | _ => none
@[simp] def lowerS (s : List Nat) (ds : List D) : Option D := match ds with
  | [] => if (decide (s.length ≤ 5592405) && s.all fun c => decide (c < 128)) = true then some (.str (s.map PyProof.Rows.lo1)) else none
  | _ => none
theorem m_upper {X : Cx} : SMs X "str.upper" upperS := by
  refine ⟨_, mt_upper, fun K T P m S H s xs ds d Q rs r e q => ?_⟩
  unfold upperS at e
  split at e
  · cases r
    split at e
    · rename_i hb
      obtain ⟨h1, h2⟩ := Bool.and_eq_true_iff.mp hb
      cases e
      refine ⟨tx s, rfl, rfl, by rw [tx_len]; exact of_decide_eq_true h1, ?_⟩
      rw [show Txt.upper (tx s) = tx (s.map PyProof.Rows.up1) from SX.upper_S h2]
      exact q _ (.str _)
    · cases e
  · cases e
theorem m_lower {X : Cx} : SMs X "str.lower" lowerS := by
  refine ⟨_, mt_lower, fun K T P m S H s xs ds d Q rs r e q => ?_⟩
  unfold lowerS at e
  split at e
  · cases r
    split at e
    · rename_i hb
      obtain ⟨h1, h2⟩ := Bool.and_eq_true_iff.mp hb
      cases e
      refine ⟨tx s, rfl, rfl, by rw [tx_len]; exact of_decide_eq_true h1, ?_⟩
      rw [show Txt.lower (tx s) = tx (s.map PyProof.Rows.lo1) from SX.lower_S h2]
      exact q _ (.str _)
    · cases e
  · cases e

/-! ### dicts -/
def dputK (kvs : List (D × D)) (k v : D) : List (D × D) := if (kvs.any fun e => D.keq e.1 k) = true then kvs.map (fun e => if D.keq e.1 k = true then (e.1, v) else e) else kvs ++ [(k, v)]
def mergeD (kvs more : List (D × D)) : List (D × D) := more.foldl (fun acc e => dputK acc e.1 e.2) kvs
theorem keq_key {a b : D} {k l : Key} (h1 : kOf a = some k) (h2 : kOf b = some l) : D.keq a b = decide (k = l) := by
  cases a <;> first
    | (cases h1; done)
    | (cases b <;> first
      | (cases h2; done)
      | (cases h1; cases h2; unfold D.keq; first
        | (simp only [Sum.inr.injEq]; exact (tx_beq _ _).symm.trans (Bool.beq_eq_decide_eq _ _))
        | (simp only [Sum.inl.injEq]; exact Bool.beq_eq_decide_eq _ _)
        | (exact (decide_eq_false (fun z => by cases z)).symm)))
theorem key_v {K : PySem.W.Frag} {m : List Addr} {L : Addr → Prop} {H : Hp} {a : D} {v : V} {k : Key} (h : kOf a = some k) (r : R K m L H a v) : v = kV k := by
  cases r <;> first
    | (cases h; rfl)
    | (cases h; done)
theorem isKey_of {d : D} (h : isKey d = true) : ∃ k, kOf d = some k := by
  cases d <;> first
    | exact ⟨_, rfl⟩
    | (cases h; done)
section
variable {K : PySem.W.Frag} {m : List Addr} {L : Addr → Prop} {H : Hp}
theorem getK_at {a : D} {k : Key} (ha : kOf a = some k) : ∀ {ds : List (D × D)} {vs : List (Key × V)}, RK K m L H ds vs → match getK ds a with
    | some e => ∃ v, valV vs k = some v ∧ R K m L H e v
    | none => valV vs k = none
  | [], _, r => by cases r; rfl
  | (b, e) :: ds, _, r => by
    cases r with
    | cons h0 h1 h2 =>
      have q := keq_key h0 ha
      unfold getK
      by_cases hk : D.keq b a = true
      · rw [if_pos hk]
        rw [hk] at q
        exact ⟨_, valV_pos (of_decide_eq_true q.symm), h1⟩
      · rw [if_neg hk]
        have hk' : D.keq b a = false := by simpa using hk
        rw [hk'] at q
        have ih := getK_at ha h2
        rename_i kb vb vsb
        have e1 : valV ((kb, vb) :: vsb) k = valV vsb k := valV_neg (p := (kb, vb)) (of_decide_eq_false q.symm)
        rw [e1]
        exact ih
theorem anyK {a : D} {k : Key} (ha : kOf a = some k) : ∀ {ds : List (D × D)} {vs : List (Key × V)}, RK K m L H ds vs → (ds.any fun e => D.keq e.1 a) = vs.any fun e => decide (e.1 = k)
  | [], _, r => by cases r; rfl
  | (b, e) :: ds, _, r => by
    cases r with
    | cons h0 h1 h2 => rw [List.any_cons, List.any_cons, keq_key h0 ha, anyK ha h2]
theorem RK.snoc {ds : List (D × D)} {a e : D} {k : Key} {v : V} (ha : kOf a = some k) (re : R K m L H e v) : ∀ {vs : List (Key × V)}, RK K m L H ds vs → RK K m L H (ds ++ [(a, e)]) (vs ++ [(k, v)]) := by
  induction ds with
  | nil => intro vs r; cases r; exact .cons ha re .nil
  | cons p ds ih => intro vs r; cases r with | cons h0 h1 h2 => exact .cons h0 h1 (ih h2)
theorem RK.mapPut {a e : D} {k : Key} {v : V} (ha : kOf a = some k) (re : R K m L H e v) : ∀ {ds : List (D × D)} {vs : List (Key × V)}, RK K m L H ds vs → RK K m L H (ds.map fun p => if D.keq p.1 a = true then (p.1, e) else p) (vs.map fun p => if p.1 = k then (p.1, v) else p)
  | [], _, r => by cases r; exact .nil
  | (b, f) :: ds, _, r => by
    cases r with
    | cons h0 h1 h2 =>
      have ih := RK.mapPut ha re h2
      rw [List.map_cons, List.map_cons]
      have q := keq_key h0 ha
      by_cases hk : D.keq b a = true
      · rw [hk] at q
        simp only [hk, if_true]
        rw [if_pos (of_decide_eq_true q.symm)]
        exact .cons h0 re ih
      · have hk' : D.keq b a = false := by simpa using hk
        rw [hk'] at q
        simp only [hk', Bool.false_eq_true, if_false]
        rw [if_neg (of_decide_eq_false q.symm)]
        exact .cons h0 h1 ih
theorem RK.put {a e : D} {k : Key} {v : V} (ha : kOf a = some k) (re : R K m L H e v) {ds : List (D × D)} {vs : List (Key × V)} (r : RK K m L H ds vs) : RK K m L H (dputK ds a e) (putK vs k v) := by
  unfold dputK putK
  rw [anyK ha r]
  split
  · exact RK.mapPut ha re r
  · exact RK.snoc ha re r
theorem RK.merge : ∀ {more : List (D × D)} {ms : List (Key × V)} {ds : List (D × D)} {vs : List (Key × V)}, RK K m L H more ms → RK K m L H ds vs → RK K m L H (mergeD ds more) (mergeK vs ms)
  | [], _, ds, vs, r, q => by cases r; exact q
  | (a, e) :: more, _, ds, vs, r, q => by
    cases r with
    | cons h0 h1 h2 =>
      have ih := RK.merge h2 (RK.put h0 h1 q)
      exact ih
end
theorem dct_at {K : PySem.W.Frag} {T : Tab} {P : Addr → Prop} {m : List Addr} {S : Store} {H : Hp} {d : D} {v : V} {kvs : List (D × D)} (rs : RS K T P m S H) (r : R K m (Lv P m S) H d v) (h : dctOf S d = some kvs) : ∃ a vs, v = .ref a ∧ H a = some (.dK vs) ∧ RK K m (Lv P m S) H kvs vs := by
  cases d with
  | dct ys => cases h; cases r with | dct h1 _ h2 => exact ⟨_, _, rfl, h1, h2⟩
  | obj j =>
    cases r with
    | obj hj =>
      unfold dctOf at h
      cases hs : S[j]? with
      | none => simp only [hs] at h; cases h
      | some o =>
        cases o with
        | dct ys =>
          simp only [hs] at h
          cases h
          cases rs.at_ j _ _ hj hs with
          | dct h1 h2 => exact ⟨_, _, rfl, h1, h2⟩
        | _ => simp only [hs] at h; cases h
  | _ => cases h
section
variable {X : Cx} {T : Tab} {W : WX} {o e f2e : Expr} {fo fe ff : EM} {pos apos cpos pos' : Pos}
/-- d[k] -/
@[simp] def dgetD (S : Store) (d k : D) : Option D := (dctOf S d).bind fun kvs => if isKey k = true then getK kvs k else none
theorem s_dget (hu : X.A.units + 1 < cLine) (ho : SE X T W o fo) (he : SE X T W e fe) (hs : NoSl e := by exact fun _ _ => rfl) : SE X T W (.Subscript o e pos) (eOp dgetD fo fe) := by
  refine PE.mono (pe_dget hu ho he hs) fun σ H Q ⟨P, m, S, ρ, rs, re, h⟩ => ?_
  refine tE.use rs re h fun m1 S1 H1 d v x1 rs1 re1 r1 h1 => ?_
  refine tE.use rs1 re1 h1 fun m2 S2 H2 k u x2 rs2 re2 r2 h2 => ?_
  obtain ⟨z, ez, q⟩ := h2.give rs2
  unfold dgetD at ez
  cases hd : dctOf S2 d with
  | none => rw [hd] at ez; cases ez
  | some kvs =>
    rw [hd, Option.bind_some] at ez
    split at ez
    · rename_i hk
      obtain ⟨kk, hkk⟩ := isKey_of hk
      obtain ⟨a, vs, rfl, e1, rk⟩ := dct_at rs2 (R.ext x2 rs1 r1) hd
      have g := getK_at hkk rk
      rw [ez] at g
      obtain ⟨w, hw, rw'⟩ := g
      refine ⟨a, w, rfl, ?_, q H2 w (fun _ _ e => e) rw'⟩
      rw [key_v hkk r2, ← hw]
      exact DGet.k e1
    · cases ez
/-- d.get(k, x) -/
@[simp] def eDGet2 (fo fe ff : EM) : EM := fun ρ S => (fo ρ S).bind fun d S1 => if (dctOf S1 d).isSome = true then (fe ρ S1).bind fun k S2 => (ff ρ S2).bind fun z S3 => give ((dctOf S3 d).bind fun kvs => if isKey k = true then some ((getK kvs k).getD z) else none) S3 else .stuck
theorem s_dget2 (hu : X.A.units + 1 < cLine) (ho : SE X T W o fo) (he : SE X T W e fe) (hf : SE X T W f2e ff) (m : M2 X o "get" apos e f2e cpos := by exact ⟨rfl, rfl, rfl, rfl⟩) : SE X T W (.Call (.Attribute o "get" apos) [e, f2e] [] cpos) (eDGet2 fo fe ff) := by
  refine PE.mono (pe_dget2 hu ho he hf m) fun σ H Q ⟨P, m, S, ρ, rs, re, h⟩ => ?_
  refine tE.use rs re h fun m1 S1 H1 d v x1 rs1 re1 r1 h1 => ?_
  cases hd1 : dctOf S1 d with
  | none => rw [hd1] at h1; exact h1.elim
  | some kvs1 =>
    rw [hd1] at h1
    simp only [Option.isSome_some, if_true] at h1
    obtain ⟨a, vs1, rfl, e1, _⟩ := dct_at rs1 r1 hd1
    refine ⟨a, rfl, .inl ⟨vs1, .inl e1⟩, ?_⟩
    refine tE.use rs1 re1 h1 fun m2 S2 H2 k u x2 rs2 re2 r2 h2 => ?_
    refine tE.use rs2 re2 h2 fun m3 S3 H3 z w x3 rs3 re3 r3 h3 => ?_
    obtain ⟨y, ey, q⟩ := h3.give rs3
    cases hd : dctOf S3 d with
    | none => rw [hd] at ey; cases ey
    | some kvs =>
      rw [hd, Option.bind_some] at ey
      split at ey
      · rename_i hk
        cases ey
        obtain ⟨kk, hkk⟩ := isKey_of hk
        obtain ⟨a', vs, ea, e3, rk⟩ := dct_at rs3 (R.ext x3 rs2 (R.ext x2 rs1 r1)) hd
        cases ea
        have g := getK_at hkk rk
        refine ⟨valV vs kk, by rw [key_v hkk (R.ext x3 rs2 r2)]; exact DGet.k e3, ?_⟩
        cases hg : getK kvs k with
        | none =>
          rw [hg] at g q
          rw [g]
          exact q H3 w (fun _ _ e => e) r3
        | some y =>
          rw [hg] at g q
          obtain ⟨w', hw, rw'⟩ := g
          rw [hw]
          exact q H3 w' (fun _ _ e => e) rw'
      · cases ey
/-- d[k] = e -/
@[simp] def dputS (S : Store) (d k y : D) : Option Store := match d with
  | .obj j => (match S[j]? with
    | some (.dct kvs) => if (isKey k && decide (kvs.length < 16777216)) = true then some (S.set j (.dct (dputK kvs k y))) else none
    | _ => none)
  | _ => none
@[simp] def sDPut (fo fk fv : EM) : SM := fun ρ S => (fv ρ S).sb ρ fun y S1 => (fo ρ S1).sb ρ fun d S2 => (fk ρ S2).sb ρ fun k S3 => match dputS S3 d k y with
  | some S4 => .nx ρ S4
  | none => .stuck
theorem s_dput {ve : Expr} {fv : EM} (hu : X.A.units + 1 < cLine) (ho : SE X T W o fo) (he : SE X T W e fe) (hv : SE X T W ve fv) (hs : swapsWith ve (some (.Subscript o e pos')) pos.line X.env = pure false := by rfl) :
    S1 X T W (.Assign [.Subscript o e pos'] ve pos) (Sm.sDPut fo fe fv) := by
  refine PS.mono (ps_dput hu ho he hv hs) fun E σ H ⟨P, m, S, ρ, rs, re, h⟩ => ?_
  refine tE.suse rs re h fun m1 S1 H1 y vy x1 rs1 re1 r1 h1 => ?_
  refine tE.suse rs1 re1 h1 fun m2 S2 H2 d v x2 rs2 re2 r2 h2 => ?_
  refine tE.suse rs2 re2 h2 fun m3 S3 H3 k u x3 rs3 re3 r3 h3 => ?_
  have ry := R.ext x3 rs2 (R.ext x2 rs1 r1)
  have rd := R.ext x3 rs2 r2
  cases hp : dputS S3 d k y with
  | none => simp only [hp] at h3; exact h3.elim
  | some S4 =>
    simp only [hp] at h3
    unfold dputS at hp
    split at hp
    · rename_i j
      cases rd with
      | obj hj =>
        cases hsj : S3[j]? with
        | none => simp only [hsj] at hp; cases hp
        | some ob =>
          cases ob with
          | dct kvs =>
            simp only [hsj] at hp
            split at hp
            · rename_i hb
              obtain ⟨hk, hl⟩ := Bool.and_eq_true_iff.mp hb
              cases hp
              obtain ⟨kk, hkk⟩ := isKey_of hk
              cases rs3.at_ j _ _ hj hsj with
              | dct e1 rk =>
                rename_i vs
                obtain ⟨x4, rs4⟩ := rs3.write (o' := .dct (dputK kvs k y)) (u := .dK (putK vs kk vy)) hj hsj (by intro z; cases z) fun x le => .dct upd_same (RK.le le _ _ (RK.put hkk ry rk))
                refine ⟨_, _, rfl, ?_, h3 m3 _ σ x4 rs4 (RE.ext x4 rs3 re3)⟩
                rw [key_v hkk r3]
                exact DPut.k e1 (by rw [sizeLine_eq, ← rk.length]; exact of_decide_eq_true hl)
            · cases hp
          | _ => simp only [hsj] at hp; cases hp
    · cases hp
/-- k in d -/
@[simp] def dinD (S : Store) (k d : D) : Option D := (dctOf S d).bind fun kvs => if isKey k = true then some (.bl (getK kvs k).isSome) else none
@[simp] def dninD (S : Store) (k d : D) : Option D := (dctOf S d).bind fun kvs => if isKey k = true then some (.bl !(getK kvs k).isSome) else none
end
/-- a display -/
abbrev PM := Ev → Store → Res (List (D × D))
def dPairs : List (EM × EM) → PM
  | [], _, S => .ok [] S
  | (f, g) :: r, ρ, S => (f ρ S).bind fun k S1 => (g ρ S1).bind fun v S2 => (dPairs r ρ S2).bind fun kvs S3 => .ok ((k, v) :: kvs) S3
inductive RP (K : PySem.W.Frag) (m : List Addr) (L : Addr → Prop) (H : Hp) : List (D × D) → List (V × V) → Prop
  | nil : RP K m L H [] []
  | cons {d e : D} {u v : V} {ds : List (D × D)} {vs : List (V × V)} : R K m L H d u → R K m L H e v → RP K m L H ds vs → RP K m L H ((d, e) :: ds) ((u, v) :: vs)
theorem pairs_use {K : PySem.W.Frag} {T : Tab} {W : WX} {P : Addr → Prop} {σ : L2.St} {ρ : Ev} : ∀ (fs : List (EM × EM)) {m : List Addr} {S : Store} {H : Hp} {G : List Addr → Store → Hp → List (D × D) → Prop} {Qp : List (V × V) → Hp → Prop},
    RS K T P m S H → RE K m (Lv P m S) H ρ σ → Meets K T P m S H (WN T W σ) G (dPairs fs ρ S) →
    (∀ m1 S1 H1 kvs ps, Ext m S H m1 S1 H1 → RS K T P m1 S1 H1 → RP K m1 (Lv P m1 S1) H1 kvs ps → G m1 S1 H1 kvs → Qp ps H1) → tPairs (fs.map fun p => (tE K T W p.1, tE K T W p.2)) σ H Qp
  | [], m, S, H, G, Qp, rs, re, h, k => k m S H [] [] .refl rs .nil (h.now rs)
  | (f, g) :: fs, m, S, H, G, Qp, rs, re, h, k => by
    unfold dPairs at h
    refine tE.use rs re h fun m1 S1 H1 d v x1 rs1 re1 r1 h1 => ?_
    refine tE.use rs1 re1 h1 fun m2 S2 H2 e u x2 rs2 re2 r2 h2 => ?_
    refine pairs_use fs rs2 re2 h2.bind fun m3 S3 H3 kvs ps x3 rs3 r3 h3 => ?_
    exact k m3 S3 H3 _ _ ((x1.trans x2).trans x3) rs3 (.cons (R.ext x3 rs2 (R.ext x2 rs1 r1)) (R.ext x3 rs2 r2) r3) (h3.now rs3)
def GQ (K : PySem.W.Frag) (T : Tab) (P : Addr → Prop) (H0 : Hp) (Q : VK) : List Addr → Store → Hp → List (D × D) → Prop := fun m S H kvs => ∀ p vs, H0 p = none → H p = some (.dK vs) → RS K T (PP P p) m S H → RK K m (Lv (PP P p) m S) H kvs vs → Q (.ref p) H
def tQ (K : PySem.W.Frag) (T : Tab) (W : WX) (f : PM) : TE := fun σ H Q => ∃ P m S ρ, RS K T P m S H ∧ RE K m (Lv P m S) H ρ σ ∧ Meets K T P m S H (WN T W σ) (GQ K T P H Q) (f ρ S)
abbrev SQ (X : Cx) (T : Tab) (W : WX) (e : Expr) (f : PM) : Prop := PE X e (tQ X.K T W f)
@[simp] def eFrzQ (f : PM) : EM := fun ρ S => (f ρ S).bind fun ds S1 => .ok (.dct ds) S1
@[simp] def eNewQ (f : PM) : EM := fun ρ S => (f ρ S).bind fun ds S1 => .ok (.obj S1.length) (S1 ++ [.dct ds])
theorem s_frzQ {X : Cx} {T : Tab} {W : WX} {e : Expr} {f : PM} (h : SQ X T W e f) : SE X T W e (eFrzQ f) := by
  refine PE.mono h fun σ H Q ⟨P, m, S, ρ, rs, re, h⟩ => ⟨P, m, S, ρ, rs, re, h.bind.imp fun m1 S1 H1 ds x1 rs1 q p vs hp hl rsp r => ?_⟩
  have hP : ¬ P p := fun z => by obtain ⟨_, e, _⟩ := rs.prot p z; rw [hp] at e; cases e
  obtain ⟨rs', le⟩ := rsp.unprot (pp_sub (P := P) (p := p))
  refine q.now rs1 (.ref p) (.dct hl (fun l => ?_) (RK.le le _ _ r))
  rcases l with l | ⟨i, o, e1, e2, e3⟩
  · exact hP l
  · exact rsp.disj i p e1 (.inr rfl)
theorem s_newQ {X : Cx} {T : Tab} {W : WX} {e : Expr} {f : PM} (h : SQ X T W e f) : SE X T W e (eNewQ f) := by
  refine PE.mono h fun σ H Q ⟨P, m, S, ρ, rs, re, h⟩ => ⟨P, m, S, ρ, rs, re, ?_⟩
  have hP : ∀ p, H p = none → ¬ P p := fun p hp z => by obtain ⟨_, e, _⟩ := rs.prot p z; rw [hp] at e; cases e
  cases hf : f ρ S with
  | ok ds S' =>
    unfold eNewQ at h
    rw [hf] at h
    intro m1 H1 x1 rs1 p vs hp hl rsp r
    have rs2 : RS X.K T P (m1 ++ [p]) (S' ++ [.dct ds]) H1 := RS.new rsp (P := P) (fun a q => .inl q) (hP p hp) (fun i a e z => rsp.disj i a e (.inr z)) (fun a q => q) (fun _ k => .dct hl (k _ _ r)) (.inr rfl) ⟨_, hl⟩
    exact h (m1 ++ [p]) H1 (ext_new x1 hp rsp.len) rs2 _ (.obj (by rw [← rsp.len]; simp))
  | exc c S' => unfold eNewQ at h; rw [hf] at h; exact h
  | stuck => unfold eNewQ at h; rw [hf] at h; exact h
@[simp] def dDisp (fs : List (EM × EM)) : PM := fun ρ S => (dPairs fs ρ S).bind fun kvs S1 => if (kvs.all (fun p => isKey p.1) && decide (kvs.length ≤ 15)) = true then .ok (mergeD [] kvs) S1 else .stuck
theorem rp_keys {K : PySem.W.Frag} {m : List Addr} {L : Addr → Prop} {H : Hp} : ∀ {ds : List (D × D)} {ps : List (V × V)}, RP K m L H ds ps → ds.all (fun p => isKey p.1) = true → ∃ kvs : List (Key × V), ps = kvs.map (fun kv => (kV kv.1, kv.2)) ∧ RK K m L H ds kvs
  | [], _, r, _ => by cases r; exact ⟨[], rfl, .nil⟩
  | (d, e) :: ds, _, r, h => by
    cases r with
    | cons r1 r2 r3 =>
      rw [List.all_cons] at h
      obtain ⟨h1, h2⟩ := Bool.and_eq_true_iff.mp h
      obtain ⟨k, hk⟩ := isKey_of h1
      obtain ⟨kvs, rfl, rk⟩ := rp_keys r3 h2
      exact ⟨(k, _) :: kvs, by rw [key_v hk r1]; rfl, .cons hk r2 rk⟩
/-- a protected thing is changed -/
theorem prot_set {K : PySem.W.Frag} {T : Tab} {P : Addr → Prop} {m m1 : List Addr} {S S1 : Store} {H H1 : Hp} {p : Addr} {u : HO} (hu : Mut (some u)) (rs : RS K T (PP P p) m S H) (hp1 : H1 p = none) (x : Ext m1 S1 H1 m S H) :
    RS K T (PP P p) m S (L2.upd H p u) ∧ Le K m (Lv (PP P p) m S) H m (Lv (PP P p) m S) (L2.upd H p u) ∧ Ext m1 S1 H1 m S (L2.upd H p u) := by
  obtain ⟨w, hw, mw⟩ := rs.prot p (.inr rfl)
  have ne : ∀ {b : Addr}, ¬ Lv (PP P p) m S b → b ≠ p := fun {b} n z => n (.inl (.inr z))
  have le : Le K m (Lv (PP P p) m S) H m (Lv (PP P p) m S) (L2.upd H p u) := by
    refine ⟨fun e => e, fun e => ?_, fun e n => ⟨?_, n⟩, fun e => ?_, fun e n => ⟨?_, n⟩⟩
    · refine rd_keep (fun o e' => ?_) e
      rw [upd_ne]
      · exact e'
      · intro z
        rw [z, hw] at e'
        cases e'
        rcases e with e | ⟨_, e⟩ <;> rw [z, hw] at e <;> cases e <;> exact mw
    · rw [upd_ne (ne n)]; exact e
    · rw [upd_ne fun z => by rw [z, hw] at e; cases e; exact mw]; exact e
    · rw [upd_ne (ne n)]; exact e
  refine ⟨⟨rs.len, fun j a o e1 e2 => (rs.at_ j a o e1 e2).le le (upd_ne fun z => rs.disj j a e1 (.inr z)), rs.inj, fun a q => ?_, rs.disj, fun j a e => ?_⟩, le, ⟨x.pre, fun b o e n => ?_, fun b o e => ?_, x.dead, x.fresh⟩⟩
  · by_cases ha : a = p
    · subst ha; exact ⟨_, upd_same, hu⟩
    · rw [upd_ne ha]; exact rs.prot a q
  · obtain ⟨o, e'⟩ := rs.trk j a e
    by_cases ha : a = p
    · subst ha; exact ⟨_, upd_same⟩
    · exact ⟨o, by rw [upd_ne ha]; exact e'⟩
  · rw [upd_ne (ne_of_none e hp1)]; exact x.keep b o e n
  · rw [upd_ne (ne_of_none e hp1)]; exact x.there b o e
theorem q_disp {X : Cx} {T : Tab} {W : WX} {keys : List (Option Expr)} {values : List Expr} {fs : List (EM × EM)} {pos : Pos} (h : PPs X pos keys values (fs.map fun p => (tE X.K T W p.1, tE X.K T W p.2))) (hall : keys.all (·.isSome) = true := by rfl) (hl : keys.length = values.length := by rfl)
    (h0 : keys ≠ [] := by exact fun z => by cases z) (h15 : keys.length ≤ 15 := by decide) : SQ X T W (.Dict keys values pos) (dDisp fs) := by
  refine PE.mono (pe_disp h hall hl h0 h15) fun σ H Q ⟨P, m, S, ρ, rs, re, h⟩ => fun p hp => ?_
  obtain ⟨rsP, leP⟩ := rs.prot1 (u := .dK []) hp trivial
  have reP : RE X.K m (Lv (PP P p) m S) (L2.upd H p (.dK [])) ρ σ := ⟨re.len, fun i d e => let ⟨v, a, b⟩ := re.get i d e; ⟨v, a, R.le leP d v b⟩⟩
  have hm : Meets X.K T (PP P p) m S (L2.upd H p (.dK [])) (WN T W σ) (fun m1 S1 H1 kvs => Meets X.K T P m S H (WN T W σ) (GQ X.K T P H Q) (if (kvs.all (fun p => isKey p.1) && decide (kvs.length ≤ 15)) = true then .ok (mergeD [] kvs) S1 else .stuck)) (dPairs fs ρ S) :=
    Meets.prot pp_sub (Meets.shift (ext_upd hp) (Meets.bind0 h))
  refine pairs_use fs rsP reP hm fun m1 S1 H1 kvs ps x1 rs1 r1 h1 => ?_
  have nl : ¬ Live m S p := fun ⟨i, o, e1, _, _⟩ => rsP.disj i p e1 (.inr rfl)
  have hp1 : H1 p = some (.dK []) := x1.keep p _ upd_same nl
  split at h1
  · rename_i hb
    obtain ⟨hk, hlen⟩ := Bool.and_eq_true_iff.mp hb
    obtain ⟨ks, rfl, rk⟩ := rp_keys r1 hk
    refine ⟨hp1, ks, rfl, by rw [← rk.length]; exact of_decide_eq_true hlen, ?_⟩
    obtain ⟨rs2, le2, x2⟩ := prot_set (u := .dK (mergeK [] ks)) trivial rs1 hp ((ext_upd hp).trans x1)
    exact h1 m1 _ x2 (rs2.unprot pp_sub).1 p _ hp upd_same rs2 (RK.le le2 _ _ (RK.merge rk .nil))
  · exact h1.elim
theorem q_nil {X : Cx} {T : Tab} {W : WX} {pos : Pos} : PPs X pos [] [] (([] : List (EM × EM)).map fun p => (tE X.K T W p.1, tE X.K T W p.2)) := pps_nil
theorem q_cons {X : Cx} {T : Tab} {W : WX} {pos : Pos} {k v : Expr} {ks : List (Option Expr)} {vs : List Expr} {fk fv : EM} {fs : List (EM × EM)} (hk : SE X T W k fk) (hv : SE X T W v fv) (hr : PPs X pos ks vs (fs.map fun p => (tE X.K T W p.1, tE X.K T W p.2))) :
    PPs X pos (some k :: ks) (v :: vs) (((fk, fv) :: fs).map fun p => (tE X.K T W p.1, tE X.K T W p.2)) := pps_cons hk hv hr
theorem q_empty {X : Cx} {T : Tab} {W : WX} {pos : Pos} : SQ X T W (.Dict [] [] pos) (fun _ S => .ok [] S) := by
  refine PE.mono pe_dnewK fun σ H Q ⟨P, m, S, ρ, rs, re, h⟩ => fun p hp => ?_
  obtain ⟨rs2, le⟩ := rs.prot1 (u := .dK []) hp trivial
  exact h m _ (ext_upd hp) (rs.upd hp) p [] hp upd_same rs2 .nil
end Sm
/-! ## Sm7 -/
/-! Sm7: sorted, sets that are sorted at once, enumerate, zip. -/
namespace Sm
open PySem PySem.Spec PyProof.Rows L2 RZ

/-! ### set(l): the making of the object apart from the filling -/
section
variable {P : Program} {w : World} {A : Around} {E : Value → Shared → Prop} {s : Shared}
abbrev bareSet (w : World) : Obj := { cls := .type "set", dict := none, data := .set #[] 0 (.fresh 0 0 (!w.params.followText "set-order")) }
abbrev withSet (w : World) (h : Heap) : Heap := h.push (bareSet w)
abbrev withIt (w : World) (h : Heap) (l : Addr) : Heap := (withSet w h).push { cls := .type "list_iterator", data := .fields #[.ref l, .int 0 0] }
theorem set_filled {l : Addr} {items : Array Value} {Φ : Heap → Prop} {Q : Value → Shared → Prop} (hl : s.heap.IsList l items)
    (fill : ∀ R : Result → Shared → Prop, (∀ h' tk, Φ h' → (∀ b o, s.heap.get? b = some o → h'.get? b = some o) → R (.ok (.ret .none)) { s with heap := h', toks := tk }) →
      codeAny (model P w) A.in1.in1 (.builtin "set.update.loop" ⟨[.ref s.heap.objs.size, .ref (withSet w s.heap).objs.size], []⟩) R { s with heap := withIt w s.heap l })
    (h : ∀ h' tk, Φ h' → (∀ b o, s.heap.get? b = some o → h'.get? b = some o) → Q (.ref s.heap.objs.size) { s with heap := h', toks := tk }) :
    wpAny (model P w) A (call (.type "set") [.ref l]) Q E s := by
  obtain ⟨c, tl, hmro⟩ := F.called_set.mro
  have k1 := F.called_set.made
  have k2 := F.called_set.sub
  have k3 := F.called_set.notType
  have k4 := F.called_set.canCreate
  have k5 := F.typeCall_set_1 (.ref l)
  refine wpAny_call (codeAny_of_tree ?_)
  show wpAny _ _ (callAny (.type "set") _) _ _ _
  refine wpAny_pure ⟨Code.quiet_builtin _ (by decide +kernel), codeAny_builtin F.entry_type_call ?_⟩
  rw [Around.under_plain (weight_type_call_type "set" [.ref l] []) rfl]
  repeat (any_goals (first | assumption | wp_step))
  refine codeAny_mono (code_set_led1 (.ref l) (E := E) (Q₁ := fun obj s₁ => obj = .ref s.heap.objs.size ∧ s₁ = { s with heap := withSet w s.heap }) ⟨rfl, rfl⟩) fun r s₁ hr => ?_
  match r, hr with
  | .error e, hr => exact hr
  | .ok (.ret obj), hr =>
    obtain ⟨rfl, rfl⟩ := hr
    have at_ : (withSet w s.heap).get? s.heap.objs.size = some (bareSet w) := Heap.get?_push_size _ rfl
    have ty : Shared.TypeIs { s with heap := withSet w s.heap } (.ref s.heap.objs.size) "set" := ⟨_, at_, rfl⟩
    have i1 := F.called_set.init.lookup
    have i2 := F.called_set.init.bind (.ref s.heap.objs.size)
    repeat (any_goals (first | assumption | wp_step))
    refine codeAny_mono (codeAny_call_builtin (R := wants (fun r s₂ => r = .none ∧ ∃ h' tk, s₂ = { s with heap := h', toks := tk } ∧ Φ h' ∧ ∀ b o, s.heap.get? b = some o → h'.get? b = some o) E) F.called_set.init.plain F.entry_set_init (check_set_init_1 ty ?_)) fun r₂ s₂ hr₂ => ?_
    · obtain ⟨⟨oc, od, odt, osl⟩, hol, hcl, nl, hdl⟩ := hl
      simp only at hcl hdl
      subst hcl; subst hdl
      have q1 := F.sub_list_set
      have q2 := F.sub_list_frozenset
      have q3 : (Value.type "list" == Value.type "dict") = false := by decide
      have hol' : (withSet w s.heap).get? l = some { cls := .type "list", dict := od, data := .seq items nl, slots := osl } := Heap.get?_push_of_some _ hol
      have hl1 : (withSet w s.heap).IsList l items := ⟨_, hol', rfl, nl, rfl⟩
      unfold Builtin.«set.__init__» noKeywords Builtin.Frozenset.updateFrom
      generalize hPI : pyIter = PI
      wp_walk
      subst hPI
      refine wpAny_pyIter_list hl1 (wpAny_bind (wpAny_runValue (fill _ fun h' tk ph kp => ?_)))
      show wpAny _ _ _ _ _ _
      refine wpAny_pure ?_
      show wpAny _ _ (ret Value.none) _ _ _
      exact wpAny_pure ⟨rfl, h', tk, rfl, ph, kp⟩
    · match r₂, hr₂ with
      | .error e, hr₂ => exact hr₂
      | .ok (.ret r), hr₂ =>
        obtain ⟨rfl, h', tk, rfl, ph, kp⟩ := hr₂
        repeat (any_goals (first | assumption | wp_step))
        exact h _ _ ph kp
      | .ok .next, hr₂ => exact hr₂.elim
      | .ok .brk, hr₂ => exact hr₂.elim
      | .ok .cont, hr₂ => exact hr₂.elim
  | .ok .next, hr => exact hr.elim
  | .ok .brk, hr => exact hr.elim
  | .ok .cont, hr => exact hr.elim
theorem set_ints {l : Addr} {items : Array Value} {ns : List Int} {Q : Value → Shared → Prop} (hh : A.handled = none) (hl : s.heap.IsList l items) (hi : IntsAre items.toList ns) (hb : ns.length + 1 < scanBound)
    (h : ∀ (h' : Heap) (tk c : Nat), SetR w h' s.heap.objs.size (fun j => decide (j ∈ ns)) c → c ≤ ns.length → (∀ b o, s.heap.get? b = some o → h'.get? b = some o) → Q (.ref s.heap.objs.size) { s with heap := h', toks := tk }) :
    wpAny (model P w) A (call (.type "set") [.ref l]) Q E s := by
  have hsz : items.size = ns.length := by simpa using IntsAre.length hi
  have hls : l < s.heap.objs.size := by obtain ⟨o, e, _⟩ := hl; exact Heap.lt_size e
  have hI : (withSet w s.heap).objs.size = s.heap.objs.size + 1 := Heap.size_push ..
  have d1 : l ≠ (withSet w s.heap).objs.size := by rw [hI]; exact Nat.ne_of_lt (Nat.lt_succ_of_lt hls)
  have d2 : s.heap.objs.size ≠ (withSet w s.heap).objs.size := by rw [hI]; exact Nat.ne_of_lt (Nat.lt_succ_self _)
  have d3 : s.heap.objs.size ≠ l := Nat.ne_of_gt hls
  refine set_filled (Φ := fun h' => ∃ c, SetR w h' s.heap.objs.size (fun j => decide (j ∈ ns)) c ∧ c ≤ ns.length) hl (fun R hR => ?_) fun h' tk ⟨c, q1, q2⟩ kp => h h' tk c q1 q2 kp
  have hh3 : A.in1.in1.in1.handled = none := by simp [hh]
  have hl1 : (withSet w s.heap).IsList l items := hl.push _
  have hget : (withIt w s.heap l).get? s.heap.objs.size = some (bareSet w) := Heap.get?_push_of_some _ (Heap.get?_push_size _ rfl)
  refine set_update_ints ((Walks.list hh3 (withSet w s.heap).objs.size l d1 items).toS) s.heap.objs.size (by simp only [List.mem_cons, List.not_mem_nil, or_false, not_or]; exact ⟨d2, d3⟩)
    ns hsz hb (fun i v hv => ?_) (items.size - 0) 0 _ (by omega) (Nat.zero_le _) ⟨⟨_, Heap.get?_push_size _ rfl, rfl, rfl⟩, hl1.push _⟩ ⟨0, Nat.le_refl 0, setR_new_at hget⟩ fun s' c hm hc hS => ?_
  · have hi' : i < ns.length := by rw [← hsz]; exact (Array.getElem?_eq_some_iff.mp hv).1
    obtain ⟨t, e⟩ := PyProof.Rows.IntsAre.int_at hi i v (by rw [Array.getElem?_toList]; exact hv)
    refine ⟨ns[i], t, List.getElem?_eq_getElem hi', ?_⟩
    rw [e, List.getD_eq_getElem?_getD, List.getElem?_eq_getElem hi']; rfl
  · obtain ⟨h', g2, d', tk', os'⟩ := s'
    obtain rfl : g2 = s.gens := hm.gens
    obtain rfl : d' = s.drawn := hm.drawn
    obtain rfl : os' = s.os := hm.os
    rw [hsz] at hc
    refine hR h' tk' ⟨c, hS, hc⟩ fun b o e => ?_
    have hb0 : b < s.heap.objs.size := Heap.lt_size e
    refine hm.heap b o (by simp only [List.mem_cons, List.not_mem_nil, or_false, not_or]; exact ⟨Nat.ne_of_lt hb0, by rw [hI]; exact Nat.ne_of_lt (Nat.lt_succ_of_lt hb0)⟩) (Heap.get?_push_of_some _ (Heap.get?_push_of_some _ e))
end

/-! ### ints in order -/
def insI (x : Int) : List Int → List Int
  | [] => [x]
  | y :: r => if x ≤ y then x :: y :: r else y :: insI x r
def sortI : List Int → List Int
  | [] => []
  | x :: r => insI x (sortI r)
/-- each once -/
def insU (x : Int) : List Int → List Int
  | [] => [x]
  | y :: r => if x < y then x :: y :: r else if x = y then y :: r else y :: insU x r
def sortU : List Int → List Int
  | [] => []
  | x :: r => insU x (sortU r)
theorem insI_perm (x : Int) : ∀ l, (insI x l).Perm (x :: l)
  | [] => .refl _
  | y :: r => by
    unfold insI
    split
    · exact .refl _
    · exact ((insI_perm x r).cons y).trans (.swap x y r)
theorem sortI_perm : ∀ l, (sortI l).Perm l
  | [] => .refl _
  | x :: r => (insI_perm x _).trans ((sortI_perm r).cons x)
theorem insI_sorted (x : Int) : ∀ {l : List Int}, l.Pairwise (· ≤ ·) → (insI x l).Pairwise (· ≤ ·)
  | [], _ => by simp [insI]
  | y :: r, h => by
    unfold insI
    obtain ⟨h1, h2⟩ := List.pairwise_cons.mp h
    split
    · rename_i hxy
      refine List.pairwise_cons.mpr ⟨fun z hz => ?_, h⟩
      rcases List.mem_cons.mp hz with e | hz
      · rw [e]; exact hxy
      · exact Int.le_trans hxy (h1 z hz)
    · rename_i hxy
      refine List.pairwise_cons.mpr ⟨fun z hz => ?_, insI_sorted x h2⟩
      rcases List.mem_cons.mp ((insI_perm x r).mem_iff.mp hz) with e | hz
      · rw [e]; omega
      · exact h1 z hz
theorem sortI_sorted : ∀ l : List Int, (sortI l).Pairwise (· ≤ ·)
  | [] => .nil
  | x :: r => insI_sorted x (sortI_sorted r)
theorem insU_mem (x : Int) : ∀ (l : List Int) (k : Int), k ∈ insU x l ↔ k = x ∨ k ∈ l
  | [], k => by simp [insU]
  | y :: r, k => by
    unfold insU
    split
    · simp
    · split
      · rename_i e; subst e; simp
      · rw [List.mem_cons, insU_mem x r k, List.mem_cons]
        constructor
        · rintro (h | h | h)
          · exact .inr (.inl h)
          · exact .inl h
          · exact .inr (.inr h)
        · rintro (h | h | h)
          · exact .inr (.inl h)
          · exact .inl h
          · exact .inr (.inr h)
theorem sortU_mem : ∀ (l : List Int) (k : Int), k ∈ sortU l ↔ k ∈ l
  | [], k => by simp [sortU]
  | x :: r, k => by unfold sortU; rw [insU_mem, sortU_mem r k, List.mem_cons]
theorem insU_up (x : Int) : ∀ {l : List Int}, l.Pairwise (· < ·) → (insU x l).Pairwise (· < ·)
  | [], _ => by simp [insU]
  | y :: r, h => by
    unfold insU
    obtain ⟨h1, h2⟩ := List.pairwise_cons.mp h
    split
    · rename_i hxy
      refine List.pairwise_cons.mpr ⟨fun z hz => ?_, h⟩
      rcases List.mem_cons.mp hz with e | hz
      · rw [e]; exact hxy
      · exact Int.lt_trans hxy (h1 z hz)
    · split
      · exact h
      · rename_i hxy hne
        refine List.pairwise_cons.mpr ⟨fun z hz => ?_, insU_up x h2⟩
        rcases (insU_mem x r z).mp hz with e | hz
        · rw [e]; omega
        · exact h1 z hz
theorem sortU_up : ∀ l : List Int, (sortU l).Pairwise (· < ·)
  | [] => .nil
  | x :: r => insU_up x (sortU_up r)
theorem up_eq : ∀ {a b : List Int}, a.Pairwise (· < ·) → b.Pairwise (· < ·) → (∀ k, k ∈ a ↔ k ∈ b) → a = b
  | [], [], _, _, _ => rfl
  | [], y :: b, _, _, h => by have := (h y).mpr (by simp); simp at this
  | x :: a, [], _, _, h => by have := (h x).mp (by simp); simp at this
  | x :: a, y :: b, ha, hb, h => by
    obtain ⟨a1, a2⟩ := List.pairwise_cons.mp ha
    obtain ⟨b1, b2⟩ := List.pairwise_cons.mp hb
    have hxy : x = y := by
      rcases List.mem_cons.mp ((h x).mp (by simp)) with e | e
      · exact e
      · rcases List.mem_cons.mp ((h y).mpr (by simp)) with f | f
        · exact f.symm
        · have := b1 x e; have := a1 y f; omega
    subst hxy
    congr 1
    refine up_eq a2 b2 fun k => ⟨fun hk => ?_, fun hk => ?_⟩
    · rcases List.mem_cons.mp ((h k).mp (by simp [hk])) with e | e
      · have := a1 k hk; omega
      · exact e
    · rcases List.mem_cons.mp ((h k).mpr (by simp [hk])) with e | e
      · have := b1 k hk; omega
      · exact e
section
variable {X : Cx} {T : Tab} {W : WX}
@[simp] def sortedD (S : Store) (ds : List D) : Option (List D) := match ds with
  | [d] => (lstInts S d).map fun ns => (sortI ns).map D.int
  | _ => none
theorem c_sorted : FCall X T (.builtin "sorted") sortedD := by
  refine ⟨_, cr_sortedI, fun P m S H xs ds ys Q rs r e q => ?_⟩
  unfold sortedD at e
  split at e
  · rename_i d0
    obtain ⟨v, rfl, rv⟩ := rs_one r
    cases hl : lstInts S d0 with
    | none => rw [hl] at e; cases e
    | some ns =>
      rw [hl] at e; cases e
      obtain ⟨a, rfl, hq⟩ := lstInts_at rs rv hl
      refine ⟨a, ns, rfl, hq, fun ns' p pm so hp => ?_⟩
      have e1 : ns' = sortI ns := PySem.W.ksm_same (pm.trans (sortI_perm ns).symm) so (sortI_sorted ns)
      subst e1
      exact q p _ hp (rs_ints _)
  · cases e
/-- sorted(set(xs)), ints -/
@[simp] def fSortSet (f : EM) : LM := fun ρ S => (f ρ S).bind fun d S1 => giveL ((lstInts S1 d).bind fun ns => if ns.length < 64 then some ((sortU ns).map D.int) else none) S1
theorem f_sortSet {e : Expr} {f : EM} {p p2 q pos : Pos} (hc : X.calm = true) (hg : Gl X "sorted") (hm : X.mg "sorted" = none) (hg2 : Gl X "set") (hm2 : X.mg "set" = none) (he : SE X T W e f)
    (na : starEach [e] X.env = (false, eval e X.env) :: starEach [] X.env := by rfl)
    (nb : starEach [.Call (.Name "set" p2) [e] [] q] X.env = (false, eval (.Call (.Name "set" p2) [e] [] q) X.env) :: starEach [] X.env := by rfl) :
    SF X T W (.Call (.Name "sorted" p) [.Call (.Name "set" p2) [e] [] q] [] pos) (fSortSet f) := by
  refine ⟨fun pins s σ H Q I h => ?_⟩
  obtain ⟨P, m, S, ρ, rs, re, h⟩ := h
  have h' : tE X.K T W f σ H fun x H1 => ∃ a ns, x = .ref a ∧ SqL X.K H1 a (ns.map V.int) ∧ ns.length < 64 ∧ ∀ p, H1 p = none → Q (.ref p) (L2.upd H1 p (.lst ((sortU ns).map V.int))) := by
    refine tE.use rs re h fun m1 S1 H1 d v x1 rs1 re1 r1 h1 => ?_
    obtain ⟨ds, ed, q⟩ := giveL_meets x1 rs1 h1
    cases hl : lstInts S1 d with
    | none => rw [hl] at ed; cases ed
    | some ns =>
      rw [hl, Option.bind_some] at ed
      split at ed
      · rename_i h64
        cases ed
        obtain ⟨a, rfl, hq⟩ := lstInts_at rs1 r1 hl
        exact ⟨a, ns, rfl, hq, h64, fun p hp => q p _ hp (rs_ints _)⟩
      · cases ed
  refine Call_ (ld_blt I hg hm PyProof.Rows.boot_sorted ?_)
  refine PyProof.Rows.callWith_builtin1 (PyProof.Rows.args_cons ?_ nb) nb rfl
  refine Call_ (ld_blt I hg2 hm2 PyProof.Rows.boot_set ?_)
  refine PyProof.Rows.callWith_type1 (PyProof.Rows.args_cons (thn (he.run pins s σ H _ I h') fun v s1 ⟨x, H1, I1, r1, q1⟩ => PyProof.Rows.args_nil ?_) na) na rfl
  obtain ⟨a, ns, rfl, hq, h64, q1⟩ := q1
  cases r1
  obtain ⟨its, r, pl, hz⟩ := I1.list hq
  refine set_ints (I1.ok.hd hc) pl.isList (ns := ns) (by simpa using r.ints) (by unfold scanBound; omega) fun h' tk c hS hcn hk => ?_
  refine PyProof.Rows.args_nil ?_
  have I2 : Inv X pins σ H1 { s1 with heap := h', toks := tk } := I1.kept hk
  have hSn : H1 s1.heap.objs.size = none := I1.hok.fresh (Nat.le_refl _)
  refine sorted_set hS (I2.ok.hd hc) (by omega) fun s' p out c' ns' k g o hp hget hi hs hmem hl => ?_
  have e1 : ns' = sortU ns := up_eq hs (sortU_up ns) fun k => by rw [hmem k, sortU_mem]; simp
  have hn : H1 p = none := I2.hok.fresh hp
  have hlen : (ns'.map V.int).length ≤ sizeLine := by rw [List.length_map, hl, sizeLine_eq]; omega
  have J : HOk X.prog X.w (L2.upd H1 p (.lst (ns'.map V.int))) s'.heap := I2.hok.laid k hp ⟨hlen, out.toList, c', vals_of_ints hi, hget⟩
  refine ⟨.ref p, _, I2.call' (ch := []) o (Un.laid k hp hn) J (by rw [g]; exact I2.bare) (fun _ z => nomatch z), rfl, ?_⟩
  rw [e1]
  exact q1 p hn
end

/-! ### enumerate, zip -/
def wkE (w : Wk) : Wk := ⟨w.n, fun S i => (w.cur S i).map fun d => .tup [.int (i : Nat), d], w.fin⟩
theorem walks_enum {K : PySem.W.Frag} {T : Tab} {m : List Addr} {L : Addr → Prop} {H : Hp} {a : Addr} {w : Wk} (h : Walks K T m L H (Itl K a) w) : Walks K T m L H (Ite K a) (wkE w) := by
  refine ⟨fun P m' S' H' i d le rs hi e => ?_, fun P m' S' H' le rs hf => h.stop P m' S' H' le rs hf⟩
  have e' : ((w.cur S' i).map fun d => D.tup [.int (i : Nat), d]) = some d := e
  cases hc : w.cur S' i with
  | none => rw [hc] at e'; cases e'
  | some d0 =>
    rw [hc] at e'
    cases e'
    obtain ⟨g1, g2⟩ := h.go P m' S' H' i d0 le rs hi hc
    refine ⟨g1, fun v H'' ⟨t, x, ev, ht, eH, hx⟩ => ?_⟩
    subst ev; subst eH
    obtain ⟨_, rx⟩ := g2 x H' ⟨rfl, hx⟩
    exact ⟨grow_upd ht, tup_upd rs ht (.cons (.int _) (.cons rx .nil))⟩
@[simp] def wkLs (S : Store) (d : D) : Option Wk := match d with
  | .lst ds => some (wkL ds)
  | .src ds => some (wkL ds)
  | .obj j => (match S[j]? with
    | some (.lst ds) => some (wkO j ds.length)
    | _ => none)
  | _ => none
@[simp] def wEnum (f : EM) : WM := fun ρ S => (f ρ S).bind fun d S1 => giveW ((wkLs S1 d).map wkE) S1
theorem walks_ls {K : PySem.W.Frag} {T : Tab} {P : Addr → Prop} {m : List Addr} {S : Store} {H : Hp} {d : D} {v : V} {w : Wk} (rs : RS K T P m S H) (r : R K m (Lv P m S) H d v) (h : wkLs S d = some w) : ∃ a vs, v = .ref a ∧ SqL K H a vs ∧ Walks K T m (Lv P m S) H (Itl K a) w := by
  cases d with
  | lst ds => cases h; cases r with | lst hs n r => exact ⟨_, _, rfl, SqL.of hs, walks_lst (.inl ⟨hs, n⟩) r⟩
  | src ds => cases h; cases r with | src hs r => exact ⟨_, _, rfl, sr_seq hs, walks_lst (.inr hs) r⟩
  | obj j =>
    cases r with
    | obj hj =>
      unfold wkLs at h
      cases hs : S[j]? with
      | none => simp only [hs] at h; cases h
      | some o =>
        cases o with
        | lst ds =>
          simp only [hs] at h
          cases h
          cases rs.at_ j _ _ hj hs with
          | lst h1 h2 => exact ⟨_, _, rfl, SqL.of h1, walks_obj hj⟩
        | _ => simp only [hs] at h; cases h
  | _ => cases h
section
variable {X : Cx} {T : Tab} {W : WX} {e e2 : Expr} {f f2 : EM} {p pos tpos : Pos} {elts : List Expr} {kk : Nat}
theorem i_enum (hg : Gl X "enumerate") (hm : X.mg "enumerate" = none) (he : SE X T W e f) (hs : starEach [e] X.env = [(false, eval e X.env)] := by rfl) : SI X T W (.Tuple elts kk tpos) (.Call (.Name "enumerate" p) [e] [] pos) (wEnum f) := by
  refine PI.mono (pi_enum hg hm (pa_cons he pa_nil (by rw [hs]; rfl)) hs) fun σ H Q ⟨P, m, S, ρ, rs, re, h⟩ => ?_
  refine tE.use rs re h fun m1 S1 H1 d v x1 rs1 re1 r1 h1 => ?_
  obtain ⟨w, ew, q⟩ := h1.giveW rs1
  cases hl : wkLs S1 d with
  | none => rw [hl] at ew; cases ew
  | some w0 =>
    rw [hl] at ew
    cases ew
    obtain ⟨a, vs, rfl, hq, wk⟩ := walks_ls rs1 r1 hl
    exact ⟨a, vs, rfl, hq, q _ (walks_enum wk)⟩
def zipT (xs ys : List D) : List D := (xs.zip ys).map fun p => .tup [p.1, p.2]
theorem zipT_get {xs ys : List D} {i : Nat} {d : D} (h : (zipT xs ys)[i]? = some d) : ∃ x y, xs[i]? = some x ∧ ys[i]? = some y ∧ d = .tup [x, y] := by
  unfold zipT at h
  rw [List.getElem?_map] at h
  cases hz : (xs.zip ys)[i]? with
  | none => rw [hz] at h; cases h
  | some p =>
    rw [hz] at h
    cases h
    obtain ⟨h1, h2⟩ := List.getElem?_zip_eq_some.mp hz
    exact ⟨p.1, p.2, h1, h2, rfl⟩
theorem zipT_len (xs ys : List D) : (zipT xs ys).length = min xs.length ys.length := by unfold zipT; simp
@[simp] def wkZ (d e : D) : Option Wk := match d, e with
  | .tup xs, .tup ys => some (wkL (zipT xs ys))
  | .lst xs, .lst ys => some (wkL (zipT xs ys))
  | _, _ => none
@[simp] def wZip (f f2 : EM) : WM := fun ρ S => (f ρ S).bind fun d S1 => (f2 ρ S1).bind fun e S2 => giveW (wkZ d e) S2
theorem walks_zipT {K : PySem.W.Frag} {T : Tab} {m : List Addr} {L : Addr → Prop} {H : Hp} {a b : Addr} {vs ws : List V} {xs ys : List D} (ha : SqT K H a vs) (hb : SqT K H b ws) (ra : Rs K m L H xs vs) (rb : Rs K m L H ys ws) : Walks K T m L H (ItzT K a b) (wkL (zipT xs ys)) := by
  have sa : ∀ {m' L' H'}, Le K m L H m' L' H' → SqT K H' a vs := fun {m' L' H'} le => sqT_keep (fun _ _ => le.tup) ha
  have sb : ∀ {m' L' H'}, Le K m L H m' L' H' → SqT K H' b ws := fun {m' L' H'} le => sqT_keep (fun _ _ => le.tup) hb
  refine ⟨fun P m' S' H' i d le rs hi e => ?_, fun P m' S' H' le rs _ => ⟨vs, ws, sa le, sb le, ?_⟩⟩
  · obtain ⟨x, y, h1, h2, rfl⟩ := zipT_get (show (zipT xs ys)[i]? = some d from e)
    obtain ⟨v, g1, r1⟩ := Rs.getD (Rs.le le _ _ ra) h1
    obtain ⟨u, g2, r2⟩ := Rs.getD (Rs.le le _ _ rb) h2
    refine ⟨⟨vs, ws, v, u, sa le, sb le, g1, g2⟩, fun z H'' ⟨t, x', y', ev, ht, eH, k1, k2⟩ => ?_⟩
    subst ev; subst eH
    have e1 := k1 vs (sa le)
    have e2 := k2 ws (sb le)
    rw [g1] at e1; rw [g2] at e2
    cases e1; cases e2
    exact ⟨grow_upd ht, tup_upd rs ht (.cons r1 (.cons r2 .nil))⟩
  · show vs.length ≤ (zipT xs ys).length ∨ ws.length ≤ (zipT xs ys).length
    rw [zipT_len, ← ra.length, ← rb.length]; omega
theorem walks_zipL {K : PySem.W.Frag} {T : Tab} {m : List Addr} {L : Addr → Prop} {H : Hp} {a b : Addr} {vs ws : List V} {xs ys : List D} (ha : H a = some (.lst vs)) (na : ¬ L a) (hb : H b = some (.lst ws)) (nb : ¬ L b) (ra : Rs K m L H xs vs) (rb : Rs K m L H ys ws) : Walks K T m L H (Itz K a b) (wkL (zipT xs ys)) := by
  have sa : ∀ {m' L' H'}, Le K m L H m' L' H' → SqL K H' a vs := fun {m' L' H'} le => SqL.of (le.lst ha na).1
  have sb : ∀ {m' L' H'}, Le K m L H m' L' H' → SqL K H' b ws := fun {m' L' H'} le => SqL.of (le.lst hb nb).1
  refine ⟨fun P m' S' H' i d le rs hi e => ?_, fun P m' S' H' le rs _ => ⟨vs, ws, sa le, sb le, ?_⟩⟩
  · obtain ⟨x, y, h1, h2, rfl⟩ := zipT_get (show (zipT xs ys)[i]? = some d from e)
    obtain ⟨v, g1, r1⟩ := Rs.getD (Rs.le le _ _ ra) h1
    obtain ⟨u, g2, r2⟩ := Rs.getD (Rs.le le _ _ rb) h2
    refine ⟨⟨vs, ws, v, u, sa le, sb le, g1, g2⟩, fun z H'' ⟨t, x', y', ev, ht, eH, k1, k2⟩ => ?_⟩
    subst ev; subst eH
    have e1 := k1 vs (sa le)
    have e2 := k2 ws (sb le)
    rw [g1] at e1; rw [g2] at e2
    cases e1; cases e2
    exact ⟨grow_upd ht, tup_upd rs ht (.cons r1 (.cons r2 .nil))⟩
  · show vs.length ≤ (zipT xs ys).length ∨ ws.length ≤ (zipT xs ys).length
    rw [zipT_len, ← ra.length, ← rb.length]; omega
theorem i_zip (hg : Gl X "zip") (hm : X.mg "zip" = none) (ha : SE X T W e f) (hb : SE X T W e2 f2) (hs : starEach [e, e2] X.env = (false, eval e X.env) :: starEach [e2] X.env := by rfl) (hs2 : starEach [e2] X.env = (false, eval e2 X.env) :: starEach [] X.env := by rfl)
    (hpl : (backTo pos (starEach [e2] X.env)).any (·.1) = false := by rfl) : SI X T W (.Tuple elts kk tpos) (.Call (.Name "zip" p) [e, e2] [] pos) (wZip f f2) := by
  refine PI.mono (pi_zipA hg hm (pa_cons ha (pa_cons hb pa_nil hs2) hs) hs hpl) fun σ H Q ⟨P, m, S, ρ, rs, re, h⟩ => ?_
  refine tE.use rs re h fun m1 S1 H1 d v x1 rs1 re1 r1 h1 => ?_
  refine tE.use rs1 re1 h1 fun m2 S2 H2 d2 v2 x2 rs2 re2 r2 h2 => ?_
  obtain ⟨w, ew, q⟩ := h2.giveW rs2
  have r1' := R.ext x2 rs1 r1
  unfold wkZ at ew
  split at ew
  · cases ew
    cases r1' with
    | tup ha' ra =>
      cases r2 with
      | tup hb' rb => exact ⟨_, _, _, _, rfl, .inr ⟨ha', hb', q _ (walks_zipT ha' hb' ra rb)⟩⟩
  · cases ew
    cases r1' with
    | lst ha' na ra =>
      cases r2 with
      | lst hb' nb rb => exact ⟨_, _, _, _, rfl, .inl ⟨SqL.of ha', SqL.of hb', q _ (walks_zipL ha' na hb' nb ra rb)⟩⟩
  · cases ew
end
end Sm
/-! ## Sm8 -/
/-! Sm8: minus, index, in a dict, update. -/
namespace Sm
open PySem PySem.Spec PyProof.Rows L2 RZ
theorem units65 {k : Nat} {A : Around} (r : Room k A) : A.units + 65 < cLine := by have := r.un; omega
theorem units1 {k : Nat} {A : Around} (r : Room k A) : A.units + 1 < cLine := by have := r.un; omega
section
variable {X : Cx} {T : Tab} {W : WX} {o e f2e : Expr} {es : List Expr} {fo fe ff : EM} {pos apos cpos pos' : Pos} {a : AM} {name : Str} {id : String} {g : Store → D → List D → Option (D × Store)}
@[simp] def negD (d : D) : Option D := match d with
  | .int i => some (.int (-i))
  | _ => none
@[simp] def eNeg (f : EM) : EM := fun ρ S => (f ρ S).bind fun d S1 => give (negD d) S1
theorem s_neg (ha : SE X T W e fe) : SE X T W (.UnaryOp .USub e pos) (eNeg fe) := by
  refine PE.mono (pe_un un_neg ha) fun σ H Q ⟨P, m, S, ρ, rs, re, h⟩ => ?_
  refine tE.use rs re h fun m1 S1 H1 d v x1 rs1 re1 r1 h1 => ?_
  obtain ⟨z, ez, q⟩ := h1.give rs1
  cases d with
  | int i =>
    cases r1
    cases ez
    exact ⟨i, rfl, q H1 _ (fun _ _ e => e) (.int _)⟩
  | _ => cases ez
@[simp] def idxOf (s t : List Nat) : Option Nat := (Builtin.Str.occurrences (tx s) (tx t) 0 s.length 1).head?
@[simp] def indexS (s : List Nat) (ds : List D) : Option D := match ds with
  | [.str t] => (idxOf s t).map fun i => .int (i : Nat)
  | _ => none
theorem m_index : SMs X "str.index" indexS := by
  refine ⟨_, mt_sindex, fun K T P m S H s xs ds d Q rs r e q => ?_⟩
  unfold indexS at e
  split at e
  · rename_i t
    obtain ⟨v, rfl, rv⟩ := rs_one r
    cases rv
    unfold idxOf at e
    cases hoc : Builtin.Str.occurrences (tx s) (tx t) 0 s.length 1 with
    | nil => rw [hoc] at e; cases e
    | cons i rest =>
      rw [hoc] at e
      cases e
      exact ⟨tx s, tx t, i, rest, rfl, rfl, by rw [tx_len]; exact hoc, q _ (.int _)⟩
  · cases e
/-- k in d -/
theorem d_in_at {P : Addr → Prop} {m : List Addr} {S : Store} {H : Hp} {k d : D} {u v : V} {kvs : List (D × D)} (rs : RS X.K T P m S H) (rk : R X.K m (Lv P m S) H k u) (rd : R X.K m (Lv P m S) H d v) (hd : dctOf S d = some kvs) (hk : isKey k = true) :
    ∃ a ov, v = .ref a ∧ DGet H a u ov ∧ ov.isSome = (getK kvs k).isSome := by
  obtain ⟨kk, hkk⟩ := isKey_of hk
  obtain ⟨a, vs, rfl, e3, rk'⟩ := dct_at rs rd hd
  have g := getK_at hkk rk'
  refine ⟨a, valV vs kk, rfl, by rw [key_v hkk rk]; exact DGet.k e3, ?_⟩
  cases hg : getK kvs k with
  | none => rw [hg] at g; rw [g]; rfl
  | some y => rw [hg] at g; obtain ⟨w', hw, _⟩ := g; rw [hw]; rfl
end
section
variable {X : Cx} {T : Tab} {W : WX} {o e : Expr} {es : List Expr} {fo fe : EM} {pos apos cpos pos' : Pos} {a : AM} {name : Str} {id : String} {g : Store → D → List D → Option (D × Store)}
@[simp] def isDc (S : Store) (d : D) : Bool := (dctOf S d).isSome
@[simp] def eMd (g : Store → D → List D → Option (D × Store)) (fo : EM) (a : AM) : EM := fun ρ S => (fo ρ S).bind fun d S1 => if isDc S1 d = true then (a ρ S1).bind fun ds S2 => give2 (g S2 d ds) else .stuck
@[simp] def updM (S : Store) (d : D) (ds : List D) : Option (D × Store) := match d, ds with
  | .obj j, [.dct more] => (match S[j]? with
    | some (.dct kvs) => if big (kvs.length + more.length) = true then some (.non, S.set j (.dct (mergeD kvs more))) else none
    | _ => none)
  | _, _ => none
def rUpd : V → List V → Hp → VK → Prop := fun x vs H Q => ∃ (a b : Addr) (kvs more : List (Key × V)), x = .ref a ∧ vs = [.ref b] ∧ a ≠ b ∧ H a = some (.dK kvs) ∧ H b = some (.dK more) ∧ kvs.length + more.length ≤ sizeLine ∧ Q .non (L2.upd H a (.dK (mergeK kvs more)))
theorem mt_upd : MtR X "dict.update" rUpd := by
  intro pins s σ H x vs v us Q I rx rv h
  obtain ⟨a, b, kvs, more, rfl, rfl, ne, ea, eb, hl, q⟩ := h
  obtain rfl : v = Value.ref a := rx
  cases rv with
  | cons r1 r2 =>
    cases r2
    cases r1
    obtain ⟨z, hd, xs, rel, dd⟩ := dk_of I.hok ea
    obtain ⟨z2, hd2, ys, rel2, dd2⟩ := dk_of I.hok eb
    have lx : kvs.length = xs.length := Paired.length rel
    have ly : more.length = ys.length := Paired.length rel2
    refine call_meetsIn PySem.F.slot_dict_update dd.typeIs PySem.F.entry_dict_update (PySem.F.args_dict_update_2 _ _) (meets_dict_update (mixKind X.prog X.w) a b ne hd2)
      ⟨xs, ys, dd, dd2, by rw [← lx, ← ly]; exact hl, fun h' dd' _ hs => ?_⟩
    have he : ∃ q, h'.get? a = some q := let ⟨q, _, _, hq, _⟩ := dd'; ⟨q, hq⟩
    exact ⟨.non, _, d_write (t' := s.toks) I (by rw [ea]; exact True.intro) hs he (dk_new (Nat.le_trans (length_mergeK more kvs) hl) hd (KV.merge rel2 rel) dd'), rfl, q⟩
theorem rk_merge {K : PySem.W.Frag} {m : List Addr} {L : Addr → Prop} {H : Hp} : ∀ {es : List (D × D)} {ws : List (Key × V)} {ds : List (D × D)} {vs : List (Key × V)}, RK K m L H es ws → RK K m L H ds vs → RK K m L H (mergeD ds es) (mergeK vs ws)
  | [], _, _, _, r, q => by cases r; exact q
  | (a, b) :: es, _, ds, vs, r, q => by
    cases r with
    | cons h1 h2 h3 =>
      show RK K m L H (mergeD (dputK ds a b) es) (mergeK (putK vs _ _) _)
      exact rk_merge h3 (RK.put h1 h2 q)
theorem tyD {K : PySem.W.Frag} {P : Addr → Prop} {m : List Addr} {S : Store} {H : Hp} {d : D} {v : V} (rs : RS K T P m S H) (r : R K m (Lv P m S) H d v) (h : (dctOf S d).isSome = true) : tyV K "dict" v H := by
  cases hl : dctOf S d with
  | none => rw [hl] at h; cases h
  | some xs =>
    obtain ⟨a, vs, rfl, hq, _⟩ := dct_at rs r hl
    exact .inr (.inr (.inl ⟨rfl, .inl ⟨_, hq⟩⟩))
theorem s_md (slot : Slot "dict" name id) (hty : typeOf (.builtin id) = pure (.type "method_descriptor")) (hm : SMm X T id g) (ho : SE X T W o fo) (ha : SA X T W (e :: es) a)
    (hbase : attributeBase o name X.env (eval o X.env) = eval o X.env := by rfl)
    (hfew : ((backTo cpos (starEach (e :: es) X.env)).all (fun x => !x.1) && (backToKw cpos (keywordEach [] X.env)).all (fun x => x.1.isSome)
      && decide ((e :: es).length + ([] : List Keyword).length + (if ([] : List Keyword).isEmpty then 0 else 1) < 30)) = true := by rfl)
    (hline : (apos.endLine == cpos.line) = true := by rfl) (hs : starEach (e :: es) X.env = (false, eval e X.env) :: starEach es X.env := by rfl) (hplain : (backTo cpos (starEach es X.env)).any (·.1) = false := by rfl) :
    SE X T W (.Call (.Attribute o name apos) (e :: es) [] cpos) (eMd g fo a) := by
  obtain ⟨r, hr, hg⟩ := hm
  refine PE.mono (pe_bm PySem.F.plainAttrs_dict slot hty hr ho ha hbase hfew hline hs hplain) fun σ H Q ⟨P, m, S, ρ, rs, re, h⟩ => ?_
  refine tE.use rs re h fun m1 S1 H1 d v x1 rs1 re1 r1 h1 => ?_
  by_cases hi : isDc S1 d = true
  · rw [if_pos hi] at h1
    refine ⟨tyD rs1 r1 hi, tA.use rs1 re1 h1 fun m2 S2 H2 ds vs x2 rs2 re2 r2 h2 => ?_⟩
    obtain ⟨z, S', ez, q⟩ := give2_meets h2
    exact hg P m2 S2 H2 v vs d ds z S' Q rs2 (R.ext x2 rs1 r1) r2 ez q
  · rw [if_neg hi] at h1; exact h1.elim
theorem m_update : SMm X T "dict.update" updM := by
  refine ⟨_, mt_upd, fun P m S H x xs dx ds d S' Q rs rx r e q => ?_⟩
  unfold updM at e
  split at e
  · rename_i j more
    obtain ⟨v, rfl, rv⟩ := rs_one r
    cases rx with
    | obj hj =>
      cases hs : S[j]? with
      | none => simp only [hs] at e; cases e
      | some ob =>
        cases ob with
        | dct kvs =>
          simp only [hs] at e
          split at e
          · rename_i hl
            cases e
            cases rv with
            | dct hb nb rb =>
              cases rs.at_ j _ _ hj hs with
              | dct e1 rk =>
                obtain ⟨x4, rs4⟩ := rs.write (o' := .dct (mergeD kvs more)) (u := .dK (mergeK _ _)) hj hs (by intro z; cases z) fun x le => .dct upd_same (rk_merge (RK.le le _ _ rb) (RK.le le _ _ rk))
                refine ⟨_, _, _, _, rfl, rfl, fun z => nb ?_, e1, hb, by rw [← rk.length, ← rb.length]; exact big_ok hl, q m _ _ x4 rs4 .non⟩
                rw [← z]
                exact .inr ⟨j, _, hj, hs, fun w => by cases w⟩
          · cases e
        | _ => simp only [hs] at e; cases e
  · cases e
end
end Sm
/-! ## Sm10 -/
/-! Sm10: a tuple many times. -/
namespace SmT
open PySem PySem.Spec PyProof.Rows L2
theorem mul1W (l : Addr) (items : Array Value) (n : Nat) (dd : Option Addr) (sl : Array (Option Value)) (x : Int) (u : Tok) (c0 : (decide (x < -(2 ^ 63)) || decide (x ≥ 2 ^ 63)) = false) (c1 : (items.isEmpty || x == 1) = true) :
    Meets (Builtin.«tuple.__mul__» ⟨[.ref l, .int x u], []⟩) (fun _ R s => s.heap.get? l = some { cls := .type "tuple", dict := dd, data := .seq items n, slots := sl } ∧ R (.ok (.ret (Value.ref l))) s) :=
  .of_wp fun prog w A R s h => by
    obtain ⟨hp, g, d, tk, os⟩ := s
    obtain ⟨hl, h⟩ := h
    have f1 := AutoSeq1.idx_int
    wp_walk using wpAny_loadPart' hl
    refine wpAny_ite_false (decide_eq_false (by rw [c0]; exact Bool.false_ne_true)) ?_
    wp_walk using wpAny_loadPart' hl
    exact ⟨_, rfl, h⟩
theorem mul0W (l : Addr) (items : Array Value) (n : Nat) (dd : Option Addr) (sl : Array (Option Value)) (u : Tok) (c1 : items.isEmpty = false) :
    Meets (Builtin.«tuple.__mul__» ⟨[.ref l, .int 0 u], []⟩) (fun _ R s => s.heap.get? l = some { cls := .type "tuple", dict := dd, data := .seq items n, slots := sl } ∧
      R (.ok (.ret (Value.ref s.heap.objs.size))) { s with heap := s.heap.push { cls := Value.type "tuple", data := Data.seq #[] }, toks := s.toks }) :=
  .of_wp fun prog w A R s h => by
    obtain ⟨hp, g, d, tk, os⟩ := s
    obtain ⟨hl, h⟩ := h
    have f1 := AutoSeq1.idx_int
    wp_walk using wpAny_loadPart' hl
    repeat (first
      | (refine wpAny_ite_false (decide_eq_false (by rw [c1]; decide)) ?_; wp_walk using wpAny_loadPart' hl)
      | (refine wpAny_ite_true (decide_eq_true (by rw [c1]; decide)) ?_; wp_walk using wpAny_loadPart' hl))
    exact ⟨_, rfl, h⟩
section
variable {X : Cx}
def rRep1 (K : PySem.W.Frag) : R2 := fun x y H Q => ∃ l xs, x = .ref l ∧ y = .int 1 ∧ SqT K H l xs ∧ Q (.ref l) H
theorem op_rep1 : OpR X (binaryOp .Mult) (rRep1 X.K) := by
  intro pins s σ H x y v u Q I rx ry h
  obtain ⟨l, xs, rfl, rfl, hT, q⟩ := h
  cases rx
  obtain ⟨t, rfl⟩ := ry
  obtain ⟨its, r, ⟨⟨cls, dd, data, sl⟩, ho, hc, n, hd⟩, hs⟩ := I.tuple hT
  simp only at hc hd
  subst hc hd
  refine wpAny_binaryOp_repeat_ref (T := "tuple") (U := "int") (by decide) ⟨_, ho, rfl⟩ (fun s' => typeIs_int s' 1 t) noFill_tuple_mul F.fills_int_mul F.slot_int_rmul repeat_tuple F.slot_int_index.lookup
    (call_meets F.slot_int_rmul (typeIs_int s 1 t) F.entry_int_rmul (F.args_int_rmul_2 _ _) (int_rmul_tuple 1 t l its.toArray n dd sl)
      ⟨ho, rfl, ⟨_, ho, rfl⟩, call_meets F.slot_tuple_mul ⟨_, ho, rfl⟩ F.entry_tuple_mul (F.args_tuple_mul_2 _ _) (mul1W l its.toArray n dd sl 1 t (by decide) (by simp)) ⟨ho, ?_⟩⟩)
  exact ⟨.ref l, H, I, rfl, q⟩
def rRep0 (K : PySem.W.Frag) : R2 := fun x y H Q => ∃ l xs, x = .ref l ∧ y = .int 0 ∧ SqT K H l xs ∧ xs ≠ [] ∧ ∀ p, H p = none → Q (.ref p) (upd H p (.tup []))
theorem op_rep0 : OpR X (binaryOp .Mult) (rRep0 X.K) := by
  intro pins s σ H x y v u Q I rx ry h
  obtain ⟨l, xs, rfl, rfl, hT, hne, q⟩ := h
  cases rx
  obtain ⟨t, rfl⟩ := ry
  obtain ⟨its, r, ⟨⟨cls, dd, data, sl⟩, ho, hc, n, hd⟩, hs⟩ := I.tuple hT
  simp only at hc hd
  subst hc hd
  have hle : its.length = xs.length := r.length.symm
  have hi : its.toArray.isEmpty = false := by
    cases its with
    | nil => exact (hne (List.eq_nil_of_length_eq_zero hle.symm)).elim
    | cons a b => rfl
  refine wpAny_binaryOp_repeat_ref (T := "tuple") (U := "int") (by decide) ⟨_, ho, rfl⟩ (fun s' => typeIs_int s' 0 t) noFill_tuple_mul F.fills_int_mul F.slot_int_rmul repeat_tuple F.slot_int_index.lookup
    (call_meets F.slot_int_rmul (typeIs_int s 0 t) F.entry_int_rmul (F.args_int_rmul_2 _ _) (int_rmul_tuple 0 t l its.toArray n dd sl)
      ⟨ho, rfl, ⟨_, ho, rfl⟩, call_meets F.slot_tuple_mul ⟨_, ho, rfl⟩ F.entry_tuple_mul (F.args_tuple_mul_2 _ _) (mul0W l its.toArray n dd sl t hi) ⟨ho, ?_⟩⟩)
  refine ⟨.ref s.heap.objs.size, _, I.laid (t' := s.toks) (o := .tup []) (fun b ob q => Heap.get?_push_of_some _ q) (Nat.le_refl _) ?_, rfl, q _ (I.hok.fresh (Nat.le_refl _))⟩
  exact ⟨Nat.zero_le _, [], .nil, IsTup.new _ _⟩
end
end SmT
namespace Sm
open PySem PySem.Spec PyProof.Rows L2 RZ SmT
/-- * with tuples too -/
def mulT (S : Store) (x y : D) : Option D := match x, y with
  | .tup xs, .int k => if k = 1 then some (.tup xs) else if xs.isEmpty = true then none else if k = 0 then some (.tup []) else
      if (decide (2 ≤ k) && decide (k ≤ 1000) && decide (xs.length ≤ 1000)) = true then some (.tup (List.replicate k.toNat xs).flatten) else none
  | x, y => mulD S x y
theorem o_mulT {X : Cx} {T : Tab} : SOp X T (binaryOp .Mult) mulT := by
  obtain ⟨r, hr, hg⟩ := o_mul (X := X) (T := T)
  refine ⟨_, (op_rep1.or (op_rep0.or op_repT)).or hr, fun P m S H x y dx dy d Q rs rx ry e q => ?_⟩
  unfold mulT at e
  split at e
  · rename_i xs k
    cases ry
    cases rx with
    | tup hq r =>
      rename_i a vs
      split at e
      · rename_i hk
        cases e
        exact .inl (.inl ⟨_, _, rfl, by rw [hk], hq, q H _ (fun _ _ e => e) (.tup hq r)⟩)
      · split at e
        · cases e
        · rename_i hne
          have hv : vs ≠ [] := fun z => by
            subst z
            cases r
            exact hne rfl
          split at e
          · rename_i hk
            cases e
            exact .inl (.inr (.inl ⟨_, _, rfl, by rw [hk], hq, hv, fun p hp => q _ _ (grow_upd hp) (tup_upd rs hp .nil)⟩))
          · split at e
            · rename_i hb
              cases e
              simp only [Bool.and_eq_true, decide_eq_true_eq] at hb
              exact .inl (.inr (.inr ⟨_, k, vs, rfl, rfl, hq, hv, hb.1.1, hb.1.2, by rw [← r.length]; exact hb.2, fun p hp => q _ _ (grow_upd hp) (tup_upd rs hp (r.rep _))⟩))
            · cases e
  · exact .inr (hg P m S H x y dx dy d Q rs rx ry e q)
end Sm
/-! ## Sm11 -/
/-! Sm11: new lists by + and *. -/
namespace Sm
open PySem PySem.Spec PyProof.Rows L2 RZ SmT
section
variable {X : Cx} {T : Tab} {W : WX} {a b : Expr} {f1 f2 : EM} {pos : Pos}
@[simp] def catL (S : Store) (x y : D) : Option (List D) := match lstT S x, lstT S y with
  | some xs, some ys => if big (xs.length + ys.length) = true then some (xs ++ ys) else none
  | _, _ => none
@[simp] def fOp (g : Store → D → D → Option (List D)) (f1 f2 : EM) : LM := fun ρ S => (f1 ρ S).bind fun x S1 => (f2 ρ S1).bind fun y S2 => giveL (g S2 x y) S2
theorem f_cat (ha : SE X T W a f1) (hb : SE X T W b f2) : SF X T W (.BinOp a .Add b pos) (fOp catL f1 f2) := by
  refine PE.mono (pe_op op_cat ha hb) fun σ H Q ⟨P, m, S, ρ, rs, re, h⟩ => ?_
  refine tE.use rs re h fun m1 S1 H1 d v x1 rs1 re1 r1 h1 => ?_
  refine tE.use rs1 re1 h1 fun m2 S2 H2 e u x2 rs2 re2 r2 h2 => ?_
  obtain ⟨ds, ed, q⟩ := giveL_meets (x1.trans x2) rs2 h2
  unfold catL at ed
  split at ed
  · rename_i xs ys e1 e2
    split at ed
    · rename_i hb
      cases ed
      obtain ⟨p1, vs, rfl, g1, s1⟩ := lstT_at rs2 (R.ext x2 rs1 r1) e1
      obtain ⟨p2, ws, rfl, g2, s2⟩ := lstT_at rs2 r2 e2
      exact ⟨p1, p2, vs, ws, rfl, rfl, g1, g2, by rw [← s1.length, ← s2.length]; exact big_ok hb, fun p hp => q p _ hp (s1.append s2)⟩
    · cases ed
  · cases ed
@[simp] def repL (S : Store) (x y : D) : Option (List D) := match y with
  | .int k => (match lstT S x with
    | some xs => if (in63 k && big (xs.length * k.toNat)) = true then some (List.replicate k.toNat xs).flatten else none
    | none => none)
  | _ => none
theorem f_rep (ha : SE X T W a f1) (hb : SE X T W b f2) : SF X T W (.BinOp a .Mult b pos) (fOp repL f1 f2) := by
  refine PE.mono (pe_op op_rep ha hb) fun σ H Q ⟨P, m, S, ρ, rs, re, h⟩ => ?_
  refine tE.use rs re h fun m1 S1 H1 d v x1 rs1 re1 r1 h1 => ?_
  refine tE.use rs1 re1 h1 fun m2 S2 H2 e u x2 rs2 re2 r2 h2 => ?_
  obtain ⟨ds, ed, q⟩ := giveL_meets (x1.trans x2) rs2 h2
  unfold repL at ed
  split at ed
  · rename_i k
    cases r2
    split at ed
    · rename_i xs e1
      split at ed
      · rename_i hb
        cases ed
        obtain ⟨h1, h2⟩ := Bool.and_eq_true_iff.mp hb
        obtain ⟨p1, vs, rfl, g1, s1⟩ := lstT_at rs2 (R.ext x2 rs1 r1) e1
        exact ⟨p1, k, vs, rfl, rfl, g1, (in63_ok h1).1, (in63_ok h1).2, by rw [← s1.length]; exact big_ok h2, fun p hp => q p _ hp (s1.rep _)⟩
      · cases ed
    · cases ed
  · cases ed
end
end Sm
/-! ## Sm12 -/
/-! Sm12: sorted() of tuples by their first ints and texts. -/
namespace SmT
open PySem PySem.Spec PyProof.Rows PyProof.Rows.G L2 SrtO PySem.W
abbrev Atm : Type := Int ⊕ List Nat
/-- a row of values begins with these ints and texts -/
inductive PreV : List Value → List Atm → Prop
  | nil (vs : List Value) : PreV vs []
  | int {i : Int} {t : Tok} {vs : List Value} {as : List Atm} : PreV vs as → PreV (.int i t :: vs) (.inl i :: as)
  | str {x : Str} {t : Tok} {vs : List Value} {as : List Atm} : PreV vs as → PreV (.str x t :: vs) (.inr x.cps.toList :: as)
def isTxt : Atm → Bool
  | .inl _ => false
  | .inr _ => true
section
variable {prog : Program} {w : World} {A : Around} {E : Value → Shared → Prop} {s : Shared} {b fin : Bool} {Q : Bool → Shared → Prop}
theorem kat_self : ∀ (l : List Value) (i : Nat), Q fin s → KatLex prog w A b fin Q (l.zip l) i s
  | [], i, h => kat_nil h
  | v :: l, i, h => kat_cons (SeqAt.EqAt.same v prog w _ _ (kat_yes (kat_self l (i + 1) h)))
/-- unlike beginnings decide -/
theorem kat_pre : ∀ (as bs : List Atm) (ps qs : List Value) (i : Nat), PreV ps as → PreV qs bs → as.map isTxt = bs.map isTxt → as ≠ bs → Q (lexLt itemOrd as bs) s → KatLex prog w A b fin Q (ps.zip qs) i s
  | [], [], _, _, _, _, _, _, hne, _ => (hne rfl).elim
  | [], _ :: _, _, _, _, _, _, hk, _, _ => by cases hk
  | _ :: _, [], _, _, _, _, _, hk, _, _ => by cases hk
  | a :: as, c :: bs, ps, qs, i, hp, hq, hk, hne, h => by
    have hk2 : as.map isTxt = bs.map isTxt := by injection hk
    have hk1 : isTxt a = isTxt c := by injection hk
    cases hp with
    | int hp =>
      cases hq with
      | int hq =>
        rename_i n t ps m u qs
        refine kat_cons (wpAny_eqBool_int ?_)
        refine kat_go (fun e => kat_yes ?_) (fun e => kat_no ?_)
        · have hnm : n = m := by simpa using e
          subst hnm
          rw [lex_self] at h
          exact kat_pre as bs ps qs (i + 1) hp hq hk2 (fun z => hne (by rw [z])) h
        · have hnm : ¬ n = m := by simpa using e
          rw [lex_diff (fun x => hnm (Sum.inl.inj x))] at h
          exact oneLt_any_int h
      | str hq => cases hk1
    | str hp =>
      cases hq with
      | int hq => cases hk1
      | str hq =>
        rename_i x t ps y u qs
        refine kat_cons (wpAny_eqBool_str ?_)
        refine kat_go (fun e => kat_yes ?_) (fun e => kat_no ?_)
        · have hxy : x = y := of_decide_eq_true e
          subst hxy
          rw [lex_self] at h
          exact kat_pre as bs ps qs (i + 1) hp hq hk2 (fun z => hne (by rw [z])) h
        · have hxy : ¬ x = y := of_decide_eq_false e
          have hn2 : x.cps.toList ≠ y.cps.toList := by
            intro hl
            apply hxy
            have hc : x.cps = y.cps := Array.toList_inj.mp hl
            cases x; cases y
            simp only [Str.mk.injEq]
            exact hc
          rw [lex_diff (fun z => hn2 (Sum.inr.inj z))] at h
          exact oneLt_any_str h
end
end SmT
namespace SmT
open PySem PySem.Spec PyProof.Rows PyProof.Rows.G L2 SrtO PySem.W
/-- v is a tuple of n items that begins with as -/
def IsTA (h : Heap) (v : Value) (as : List Atm) (n : Nat) : Prop := ∃ a o xs m, v = .ref a ∧ h.get? a = some o ∧ o.cls = .type "tuple" ∧ o.data = .seq xs m ∧ PreV xs.toList as ∧ xs.toList.length = n
theorem IsTA.keeps {h h' : Heap} {v : Value} {as : List Atm} {n : Nat} (x : IsTA h v as n) (k : ∀ b o, h.get? b = some o → o.cls = .type "tuple" → h'.get? b = some o) : IsTA h' v as n := by
  obtain ⟨a, o, xs, m, e, ho, hc, r⟩ := x
  exact ⟨a, o, xs, m, e, k a o ho hc, hc, r⟩
section
variable {prog : Program} {w : World} {A : Around} {E : Value → Shared → Prop} {s : Shared}
theorem kat_full {b fin : Bool} {Q : Bool → Shared → Prop} : ∀ (as : List Atm) (ps qs : List Value) (i : Nat), PreV ps as → PreV qs as → ps.length = as.length → qs.length = as.length → Q fin s → KatLex prog w A b fin Q (ps.zip qs) i s
  | [], ps, qs, i, _, _, h1, h2, h => by
    have : ps = [] := List.eq_nil_of_length_eq_zero h1
    subst this
    exact kat_nil h
  | a :: as, ps, qs, i, hp, hq, h1, h2, h => by
    cases hp with
    | int hp =>
      cases hq with
      | int hq =>
        rename_i n t ps u qs
        refine kat_cons (wpAny_eqBool_int ?_)
        refine kat_go (fun e => kat_yes (kat_full as ps qs (i + 1) hp hq (Nat.succ.inj h1) (Nat.succ.inj h2) h)) (fun e => ?_)
        simp at e
    | str hp =>
      generalize hx : (Sum.inr _ : Atm) = at_ at hq
      cases hq with
      | int hq => cases hx
      | str hq =>
        rename_i x t ps y u qs
        have hxy : x = y := by
          have hl := Sum.inr.inj hx
          have hc : x.cps = y.cps := Array.toList_inj.mp hl
          cases x; cases y
          simp only [Str.mk.injEq]
          exact hc
        subst hxy
        refine kat_cons (wpAny_eqBool_str ?_)
        refine kat_go (fun e => kat_yes (kat_full as ps qs (i + 1) hp hq (Nat.succ.inj h1) (Nat.succ.inj h2) h)) (fun e => ?_)
        exact absurd rfl (of_decide_eq_false e)
theorem ta_cmp {vs : List Value} {k : Value → List Atm} {l : Value → Nat} (hp : ∀ v ∈ vs, IsTA s.heap v (k v) (l v)) (hs : ∀ u ∈ vs, ∀ v ∈ vs, (k u).map isTxt = (k v).map isTxt)
    (hd : ∀ u ∈ vs, ∀ v ∈ vs, k u = k v → u = v ∨ (l u = (k u).length ∧ l v = (k v).length)) : Cmp prog w A s (tuples' true) (fun p => p.1 ∈ vs) (lt2 fun u v => lexLt itemOrd (k u) (k v)) := by
  intro p q hm hm'
  have x1 := hp _ hm
  have x2 := hp _ hm'
  have hsh := hs _ hm _ hm'
  have hdd := hd _ hm _ hm'
  show wpAny (model prog w) A (keyLt' (tuples' true) p.1 q.1) (fun r s' => s' = s ∧ r = lexLt itemOrd (k p.1) (k q.1)) (fun _ _ => False) s
  generalize p.1 = u at x1 hsh hdd ⊢
  generalize q.1 = v at x2 hsh hdd ⊢
  obtain ⟨a, o, xs, m, e, ho, hc, hdt, px, nx⟩ := x1
  obtain ⟨a', o', xs', m', e', ho', hc', hdt', px', nx'⟩ := x2
  generalize k u = as at px hsh hdd ⊢
  generalize k v = bs at px' hsh hdd ⊢
  by_cases hk : as = bs
  · subst hk
    have hf : lexLt itemOrd as as = false := (listOrd itemOrd).irrefl as
    rw [hf]
    rcases hdd rfl with huv | ⟨f1, f2⟩
    · subst huv
      rw [e] at e'
      cases e'
      rw [ho] at ho'; cases ho'
      rw [hdt] at hdt'; cases hdt'
      rw [e]
      refine kat_lt ho hdt ho hdt (kat_self _ _ ⟨rfl, ?_⟩)
      simp
    · rw [e, e']
      refine kat_lt ho hdt ho' hdt' (kat_full as _ _ 0 px px' (by omega) (by omega) ⟨rfl, ?_⟩)
      have : xs.size = xs'.size := by rw [← Array.length_toList, ← Array.length_toList]; omega
      simp [this]
  · rw [e, e']
    exact kat_lt ho hdt ho' hdt' (kat_pre as bs _ _ 0 px px' hsh hk ⟨rfl, rfl⟩)
theorem ta_firsts {h : Heap} {k : Value → List Atm} {l : Value → Nat} : ∀ {vs : List Value}, (∀ v ∈ vs, IsTA h v (k v) (l v) ∧ ∃ i as, k v = .inl i :: as) → ∃ fs : List Value, KatTups h vs fs ∧ fs.length = vs.length ∧ ∀ f ∈ fs, ∃ x t, f = Value.int x t
  | [], _ => ⟨[], KatTups.nil, rfl, fun _ hm => by cases hm⟩
  | v :: vs, hp => by
    obtain ⟨fs, h1, h2, h3⟩ := ta_firsts (vs := vs) fun u hm => hp u (List.mem_cons_of_mem _ hm)
    obtain ⟨⟨a, o, xs, m, e, ho, hc, hd, px, _⟩, i, as, hk⟩ := hp v List.mem_cons_self
    rw [hk] at px
    subst e
    generalize hx : xs.toList = ys at px
    cases px with
    | int px =>
      rename_i t ys
      refine ⟨.int i t :: fs, KatTups.cons ho hc hd ?_ h1, by rw [List.length_cons, List.length_cons, h2], fun f hm => ?_⟩
      · rw [← Array.getElem?_toList, hx]; rfl
      · rcases List.mem_cons.mp hm with rfl | hm
        · exact ⟨i, t, rfl⟩
        · exact h3 f hm
theorem swo_ta (k : Value → List Atm) : Swo fun u v => lexLt itemOrd (k u) (k v) := by
  refine ⟨fun x y h => ?_, fun x y z h1 h2 => ?_⟩
  · cases h2 : lexLt itemOrd (k y) (k x) with
    | false => rfl
    | true =>
      have h3 := (listOrd itemOrd).trans (k x) (k y) (k x) h h2
      rw [(listOrd itemOrd).irrefl (k x)] at h3
      cases h3
  · cases h3 : lexLt itemOrd (k z) (k x) with
    | false => rfl
    | true =>
      rcases (listOrd itemOrd).negTrans (k z) (k y) (k x) h3 with h | h
      · rw [show (listOrd itemOrd).blt (k z) (k y) = lexLt itemOrd (k z) (k y) from rfl, h2] at h; cases h
      · rw [show (listOrd itemOrd).blt (k y) (k x) = lexLt itemOrd (k y) (k x) from rfl, h1] at h; cases h
theorem sorted_ta {l : Addr} {vs : List Value} {k : Value → List Atm} {n : Value → Nat} {Q : Value → Shared → Prop} (hl : s.heap.IsList l vs.toArray) (hz : vs.length ≤ sizeLine) (hp : ∀ v ∈ vs, IsTA s.heap v (k v) (n v) ∧ ∃ i as, k v = .inl i :: as)
    (hs : ∀ u ∈ vs, ∀ v ∈ vs, (k u).map isTxt = (k v).map isTxt) (hd : ∀ u ∈ vs, ∀ v ∈ vs, k u = k v → u = v ∨ (n u = (k u).length ∧ n v = (k v).length))
    (h : ∀ (h' : Heap) (d : Addr) (out : List Value), Srtd (fun u v => lexLt itemOrd (k u) (k v)) out → Stb (fun u v => lexLt itemOrd (k u) (k v)) out vs → (∀ b o, s.heap.get? b = some o → h'.get? b = some o) → s.heap.objs.size ≤ d → (∃ n, h'.get? d = some (seqObj "list" out.toArray n)) → Q (.ref d) { s with heap := h' }) :
    wpAny (model prog w) A (call (.builtin "sorted") [.ref l]) Q E s := by
  refine sorted_ord (swo_ta k) hl hz (fun h2 h₁ a ha kk => ?_) fun out h1 h2 => h _ _ out h1 h2 (fun b o e => sortedAll_old e) (Nat.le_succ _) (sortedAll_at s.heap vs out.toArray)
  have nt : ∀ o, h₁.get? a = some o → o.cls ≠ .type "tuple" := fun o e => by
    rw [ha] at e
    cases e
    exact fun c => absurd (Value.type.inj c) (by decide)
  intro h' keep
  have hp' : ∀ v ∈ vs, IsTA h' v (k v) (n v) ∧ ∃ i as, k v = .inl i :: as := fun v hm => ⟨(hp v hm).1.keeps fun b o e c => keep b o (fun z => by subst z; exact nt o ((kk _ _ e).2) c) ((kk b o e).2), (hp v hm).2⟩
  obtain ⟨fs, f1, f2, f3⟩ := ta_firsts hp'
  refine ⟨tuples' true, fun Q E hq => ?_, ta_cmp (fun v hm => (hp' v hm).1) hs hd⟩
  refine kat_kind (T := .type "int") f1 (by omega) (fun f hm => ?_) (by rfl) ?_
  · obtain ⟨x, t, rfl⟩ := f3 f hm
    exact Looks.now
  · rw [show (Value.type "int" != Value.type "tuple") = true by decide]
    exact hq
end
/-! ### a stable sort by insertion -/
section
variable {α β : Type}
def insA (lt : α → α → Bool) (x : α) : List α → List α
  | [] => [x]
  | y :: r => if lt y x = true then y :: insA lt x r else x :: y :: r
def sortA (lt : α → α → Bool) : List α → List α
  | [] => []
  | x :: r => insA lt x (sortA lt r)
theorem insA_perm (lt : α → α → Bool) (x : α) : ∀ l, (insA lt x l).Perm (x :: l)
  | [] => .refl _
  | y :: r => by
    unfold insA
    split
    · exact ((insA_perm lt x r).cons y).trans (.swap x y r)
    · exact .refl _
theorem sortA_perm (lt : α → α → Bool) : ∀ l, (sortA lt l).Perm l
  | [] => .refl _
  | x :: r => (insA_perm lt x _).trans ((sortA_perm lt r).cons x)
theorem insA_srtd {lt : α → α → Bool} (O : Swo lt) (x : α) : ∀ {l : List α}, Srtd lt l → Srtd lt (insA lt x l)
  | [], _ => List.pairwise_singleton _ _
  | y :: r, h => by
    obtain ⟨h1, h2⟩ := List.pairwise_cons.mp h
    unfold insA
    split
    · rename_i hy
      refine List.pairwise_cons.mpr ⟨fun z hz => ?_, insA_srtd O x h2⟩
      rcases List.mem_cons.mp ((insA_perm lt x r).mem_iff.mp hz) with e | hz
      · rw [e]; exact O.asym _ _ hy
      · exact h1 z hz
    · rename_i hy
      have hy : lt y x = false := by simpa using hy
      refine List.pairwise_cons.mpr ⟨fun z hz => ?_, h⟩
      rcases List.mem_cons.mp hz with e | hz
      · rw [e]; exact hy
      · exact O.tr x y z hy (h1 z hz)
theorem sortA_srtd {lt : α → α → Bool} (O : Swo lt) : ∀ l : List α, Srtd lt (sortA lt l)
  | [] => .nil
  | x :: r => insA_srtd O x (sortA_srtd O r)
theorem insA_cls {lt : α → α → Bool} (O : Swo lt) (x z : α) : ∀ {l : List α}, Srtd lt l → (insA lt x l).filter (eqv lt z) = (x :: l).filter (eqv lt z)
  | [], _ => rfl
  | y :: r, h => by
    obtain ⟨h1, h2⟩ := List.pairwise_cons.mp h
    unfold insA
    split
    · rename_i hy
      rw [List.filter_cons, insA_cls O x z h2, List.filter_cons, List.filter_cons, List.filter_cons]
      by_cases a : eqv lt z x = true
      · by_cases b : eqv lt z y = true
        · obtain ⟨a1, a2⟩ := eqv_iff.mp a
          obtain ⟨b1, b2⟩ := eqv_iff.mp b
          rw [O.tr x z y a1 b2] at hy; cases hy
        · simp [a, b]
      · simp [a]
    · rfl
theorem sortA_stb {lt : α → α → Bool} (O : Swo lt) : ∀ l : List α, Stb lt (sortA lt l) l
  | [] => Stb.refl _
  | x :: r => ⟨sortA_perm lt _, fun z => by
    show (insA lt x (sortA lt r)).filter (eqv lt z) = (x :: r).filter (eqv lt z)
    rw [insA_cls O x z (sortA_srtd O r), List.filter_cons, List.filter_cons, (sortA_stb O r).cls z]⟩
theorem insA_map {f : α → β} {lt : β → β → Bool} (x : α) : ∀ l : List α, (insA (fun u v => lt (f u) (f v)) x l).map f = insA lt (f x) (l.map f)
  | [] => rfl
  | y :: r => by
    unfold insA
    by_cases h : lt (f y) (f x) = true
    · simp only [h, if_true, List.map_cons]
      rw [insA_map x r]
    · simp [h]
theorem sortA_map {f : α → β} {lt : β → β → Bool} : ∀ l : List α, (sortA (fun u v => lt (f u) (f v)) l).map f = sortA lt (l.map f)
  | [] => rfl
  | x :: r => by
    show (insA _ x (sortA _ r)).map f = insA lt (f x) (sortA lt (r.map f))
    rw [insA_map, sortA_map r]
end
end SmT
namespace Sm
open PySem PySem.Spec PyProof.Rows L2 RZ SmT PyProof.Rows.G
/-! ### sorted() of tuples -/
def atmsD : List D → List Atm
  | .int i :: r => .inl i :: atmsD r
  | .str s :: r => .inr s :: atmsD r
  | _ => []
def keyT : D → List Atm
  | .tup xs => atmsD xs
  | _ => []
def lenT : D → Nat
  | .tup xs => xs.length
  | _ => 0
def isTp : D → Bool
  | .tup (.int _ :: _) => true
  | _ => false
abbrev ltT (d e : D) : Bool := lexLt itemOrd (keyT d) (keyT e)
def okT (ds : List D) : Bool := ds.all isTp && ds.all (fun d => ds.all fun e => decide ((keyT d).map isTxt = (keyT e).map isTxt)) && (ds.all (fun d => decide (lenT d = (keyT d).length)) || decide ((ds.map keyT).Nodup))
def atmsV : List Value → List Atm
  | .int i _ :: r => .inl i :: atmsV r
  | .str x _ :: r => .inr x.cps.toList :: atmsV r
  | _ => []
theorem pre_of {K : PySem.W.Frag} {m : List Addr} {L : Addr → Prop} {H : Hp} : ∀ {ds : List D} {vs : List V} {us : List Value}, Rs K m L H ds vs → Vals vs us → PreV us (atmsD ds) ∧ atmsV us = atmsD ds
  | _, _, _, .nil, r => by cases r; exact ⟨.nil _, rfl⟩
  | _, _, _, .cons (d := d) rd rs, r => by
    cases r with
    | cons rv r =>
      obtain ⟨h1, h2⟩ := pre_of rs r
      cases rd with
      | int i =>
        obtain ⟨t, rfl⟩ := rv
        exact ⟨.int h1, by show Sum.inl i :: _ = Sum.inl i :: _; rw [h2]⟩
      | str s =>
        obtain ⟨t, rfl⟩ := rv
        have e : (tx s).cps.toList = s := by simp
        refine ⟨?_, ?_⟩
        · have q := PreV.str (x := tx s) (t := t) h1
          rw [e] at q
          exact q
        · show Sum.inr (tx s).cps.toList :: _ = Sum.inr s :: _
          rw [e, h2]
      | non => cases rv; exact ⟨.nil _, rfl⟩
      | bl b => cases rv; exact ⟨.nil _, rfl⟩
      | tup _ _ => cases rv; exact ⟨.nil _, rfl⟩
      | lst _ _ _ => cases rv; exact ⟨.nil _, rfl⟩
      | src _ _ => cases rv; exact ⟨.nil _, rfl⟩
      | dct _ _ _ => cases rv; exact ⟨.nil _, rfl⟩
      | obj _ => cases rv; exact ⟨.nil _, rfl⟩
theorem insA_congr {α : Type} {lt lt' : α → α → Bool} (x : α) : ∀ {l : List α}, (∀ y ∈ l, lt y x = lt' y x) → insA lt x l = insA lt' x l
  | [], _ => rfl
  | y :: r, h => by
    unfold insA
    rw [h y List.mem_cons_self, insA_congr x fun z hz => h z (List.mem_cons_of_mem _ hz)]
theorem sortA_congr {α : Type} {lt lt' : α → α → Bool} : ∀ {l : List α}, (∀ x ∈ l, ∀ y ∈ l, lt x y = lt' x y) → sortA lt l = sortA lt' l
  | [], _ => rfl
  | x :: r, h => by
    show insA lt x (sortA lt r) = insA lt' x (sortA lt' r)
    rw [sortA_congr fun y hy z hz => h y (List.mem_cons_of_mem _ hy) z (List.mem_cons_of_mem _ hz)]
    exact insA_congr x fun y hy => h y (List.mem_cons_of_mem _ ((sortA_perm lt' r).mem_iff.mp hy)) x List.mem_cons_self
theorem rs_map {K : PySem.W.Frag} {m : List Addr} {L : Addr → Prop} {H : Hp} {α : Type} {f : α → D} {g : α → V} : ∀ {l : List α}, (∀ x ∈ l, R K m L H (f x) (g x)) → Rs K m L H (l.map f) (l.map g)
  | [], _ => .nil
  | x :: l, h => .cons (h x List.mem_cons_self) (rs_map fun y hy => h y (List.mem_cons_of_mem _ hy))
/-- the atoms at a value, by the heap -/
def kH (h : Heap) : Value → List Atm
  | .ref t => (match h.get? t with
    | some o => (match o.data with
      | .seq xs _ => atmsV xs.toList
      | _ => [])
    | none => [])
  | _ => []
def nH (h : Heap) : Value → Nat
  | .ref t => (match h.get? t with
    | some o => (match o.data with
      | .seq xs _ => xs.toList.length
      | _ => 0)
    | none => 0)
  | _ => 0
/-- how a tuple lies -/
theorem ta_at {X : Cx} {pins : List (Addr × Obj)} {σ : L2.St} {H : Hp} {s : Shared} {m : List Addr} {L : Addr → Prop} {d : D} {v : V} {u : Value} (I : Inv X pins σ H s) (r : R X.K m L H d v) (rv : RelV v u) (hd : isTp d = true) :
    (∃ t, v = .ref t) ∧ IsTA s.heap u (keyT d) (lenT d) ∧ kH s.heap u = keyT d ∧ nH s.heap u = lenT d := by
  cases r with
  | tup h1 h2 =>
    rename_i a xs vs
    obtain rfl : u = .ref a := rv
    obtain ⟨its, r2, ⟨o, ho, hc, n, hdt⟩, _⟩ := I.tuple h1
    obtain ⟨p1, p2⟩ := pre_of h2 r2
    have hl : its.length = xs.length := by rw [← r2.length, h2.length]
    refine ⟨⟨a, rfl⟩, ⟨a, o, its.toArray, n, rfl, ho, hc, hdt, p1, hl⟩, ?_, ?_⟩
    · unfold kH
      simp only [ho, hdt]
      exact p2
    · unfold nH
      simp only [ho, hdt]
      exact hl
  | _ => cases hd
section
variable {X : Cx} {T : Tab}
@[simp] def sortedT (S : Store) (ds : List D) : Option (List D) := match ds with
  | [d] => (lstOf S d).bind fun xs => if okT xs = true then some (sortA ltT xs) else none
  | _ => none
def rSortT (K : PySem.W.Frag) : List V → Hp → VK → Prop := fun vs H Q => ∃ (a : Addr) (m : List Addr) (L : Addr → Prop) (xs : List V) (ds : List D), vs = [.ref a] ∧ SqL K H a xs ∧ Rs K m L H ds xs ∧ okT ds = true ∧
  ∀ p ys, H p = none → Rs K m L H (sortA ltT ds) ys → Q (.ref p) (L2.upd H p (.lst ys))
theorem zip_mem {K : PySem.W.Frag} {m : List Addr} {L : Addr → Prop} {H : Hp} : ∀ {ds : List D} {vs : List V} {us : List Value}, Rs K m L H ds vs → Vals vs us → ∀ p ∈ ds.zip us, ∃ v, R K m L H p.1 v ∧ RelV v p.2
  | _, _, _, .nil, _, p, hp => by simp at hp
  | _, _, _, .cons rd rs, r, p, hp => by
    cases r with
    | cons rv r =>
      rw [List.zip_cons_cons] at hp
      rcases List.mem_cons.mp hp with rfl | hp
      · exact ⟨_, rd, rv⟩
      · exact zip_mem rs r p hp
theorem cr_sortT : CallR X (.builtin "sorted") (rSortT X.K) := by
  intro pins s σ H vs us Q I r h
  obtain ⟨a, m, L, xs, ds, rfl, hs, rs, ok, q⟩ := h
  obtain ⟨its, rv, hl, hz⟩ := I.list hs
  obtain ⟨u, rfl, ru⟩ := vals1 r
  obtain rfl : u = Value.ref a := ru
  unfold okT at ok
  rw [Bool.and_eq_true, Bool.and_eq_true] at ok
  obtain ⟨⟨ok1, ok2⟩, ok3⟩ := ok
  have hlen : ds.length = its.length := by rw [rs.length, rv.length]
  have zp := zip_mem rs rv
  have mem1 : ∀ p ∈ ds.zip its, p.1 ∈ ds := fun p hp => (List.of_mem_zip (show (p.1, p.2) ∈ ds.zip its from hp)).1
  have info : ∀ p ∈ ds.zip its, (∃ t, p.2 = .ref t) ∧ R X.K m L H p.1 (backV p.2) ∧ IsTA s.heap p.2 (keyT p.1) (lenT p.1) ∧ kH s.heap p.2 = keyT p.1 ∧ nH s.heap p.2 = lenT p.1 := fun p hp => by
    obtain ⟨v, r1, r2⟩ := zp p hp
    obtain ⟨⟨t, rfl⟩, h2, h3, h4⟩ := ta_at I r1 r2 (List.all_eq_true.mp ok1 _ (mem1 p hp))
    have e : p.2 = Value.ref t := r2
    exact ⟨⟨t, e⟩, by rw [e]; exact r1, h2, h3, h4⟩
  have back : ∀ u ∈ its, ∃ p ∈ ds.zip its, p.2 = u := fun u hu => by
    obtain ⟨i, hi, e⟩ := List.getElem_of_mem hu
    have hi2 : i < ds.length := by omega
    refine ⟨(ds[i], its[i]), ?_, e⟩
    rw [List.mem_iff_getElem]
    exact ⟨i, by rw [List.length_zip]; omega, by rw [List.getElem_zip]⟩
  have isTp_key : ∀ d ∈ ds, ∃ i as, keyT d = .inl i :: as := fun d hd => by
    have := List.all_eq_true.mp ok1 d hd
    unfold isTp at this
    split at this
    · exact ⟨_, _, rfl⟩
    · cases this
  refine sorted_ta (k := kH s.heap) (n := nH s.heap) hl.isList (by rw [← rv.length]; exact hz) (fun v hv => ?_) (fun u hu v hv => ?_) (fun u hu v hv e => ?_) fun h' d out h1 h2 kp hd hn => ?_
  · obtain ⟨p, hp, rfl⟩ := back v hv
    obtain ⟨_, _, i1, i2, i3⟩ := info p hp
    rw [i2, i3]
    exact ⟨i1, isTp_key _ (mem1 p hp)⟩
  · obtain ⟨p, hp, rfl⟩ := back u hu
    obtain ⟨p', hp', rfl⟩ := back v hv
    rw [(info p hp).2.2.2.1, (info p' hp').2.2.2.1]
    exact of_decide_eq_true (List.all_eq_true.mp (List.all_eq_true.mp ok2 _ (mem1 p hp)) _ (mem1 p' hp'))
  · rcases Bool.or_eq_true_iff.mp ok3 with ok3 | ok3
    · right
      obtain ⟨p, hp, rfl⟩ := back u hu
      obtain ⟨p', hp', rfl⟩ := back v hv
      obtain ⟨_, _, _, i2, i3⟩ := info p hp
      obtain ⟨_, _, _, j2, j3⟩ := info p' hp'
      rw [i2, i3, j2, j3]
      exact ⟨of_decide_eq_true (List.all_eq_true.mp ok3 _ (mem1 p hp)), of_decide_eq_true (List.all_eq_true.mp ok3 _ (mem1 p' hp'))⟩
    · left
      have nd : (ds.map keyT).Nodup := of_decide_eq_true ok3
      obtain ⟨i, hi, rfl⟩ := List.getElem_of_mem hu
      obtain ⟨j, hj, rfl⟩ := List.getElem_of_mem hv
      have at_ : ∀ i (hi : i < its.length), kH s.heap its[i] = keyT (ds[i]'(by omega)) := fun i hi => by
        have hm : (ds[i]'(by omega), its[i]) ∈ ds.zip its := by
          rw [List.mem_iff_getElem]
          exact ⟨i, by rw [List.length_zip]; omega, by rw [List.getElem_zip]⟩
        exact (info _ hm).2.2.2.1
      rw [at_ i hi, at_ j hj] at e
      have hij : i = j := by
        have e2 : (ds.map keyT)[i]? = (ds.map keyT)[j]? := by
          rw [List.getElem?_map, List.getElem?_map, List.getElem?_eq_getElem (by omega), List.getElem?_eq_getElem (by omega)]
          exact congrArg some e
        exact (List.getElem?_inj (by rw [List.length_map]; omega) nd).mp e2
      subst hij
      rfl
  · obtain ⟨n, hn⟩ := hn
    have e1 : out = sortA (fun u v => lexLt itemOrd (kH s.heap u) (kH s.heap v)) its := by
      have O := swo_ta (kH s.heap)
      have st := sortA_stb O its
      exact SrtO.stb_uniq O h1 (sortA_srtd O its) (h2.trans ⟨st.perm.symm, fun x => (st.cls x).symm⟩)
    have e2 : its = (ds.zip its).map Prod.snd := (List.map_snd_zip (by omega)).symm
    have e3 : out = (sortA (fun p q : D × Value => lexLt itemOrd (kH s.heap p.2) (kH s.heap q.2)) (ds.zip its)).map Prod.snd := by
      rw [e1]
      conv => lhs; rw [e2]
      rw [← sortA_map]
    have e4 : (sortA (fun p q : D × Value => lexLt itemOrd (kH s.heap p.2) (kH s.heap q.2)) (ds.zip its)).map Prod.fst = sortA ltT ds := by
      rw [sortA_congr (lt' := fun p q : D × Value => ltT p.1 q.1) fun p hp p' hp' => by rw [(info p hp).2.2.2.1, (info p' hp').2.2.2.1]]
      rw [sortA_map (f := Prod.fst) (lt := ltT), List.map_fst_zip (by omega)]
    have mz : ∀ p ∈ sortA (fun p q : D × Value => lexLt itemOrd (kH s.heap p.2) (kH s.heap q.2)) (ds.zip its), p ∈ ds.zip its := fun p hp => (sortA_perm _ _).mem_iff.mp hp
    have h3 : ∀ u ∈ out, ∃ a, u = Value.ref a := fun u hu => by
      rw [e3] at hu
      obtain ⟨p, hp, rfl⟩ := List.mem_map.mp hu
      exact (info p (mz p hp)).1
    have rr : Rs X.K m L H (sortA ltT ds) (out.map backV) := by
      rw [← e4, e3, List.map_map]
      exact rs_map fun p hp => (info p (mz p hp)).2.1
    refine ⟨.ref d, L2.upd H d (.lst (out.map backV)), I.laid (t' := s.toks) kp hd ⟨?_, out, n, vals_back h3, hn⟩, rfl, q d _ (I.hok.fresh hd) rr⟩
    rw [List.length_map, h2.len, ← rv.length]
    exact hz
theorem c_sortedT : FCall X T (.builtin "sorted") sortedT := by
  refine ⟨_, cr_sortT, fun P m S H xs ds ys Q rs r e q => ?_⟩
  unfold sortedT at e
  split at e
  · rename_i d0
    obtain ⟨v, rfl, rv⟩ := rs_one r
    cases hl : lstOf S d0 with
    | none => rw [hl] at e; cases e
    | some zs =>
      rw [hl] at e
      simp only [Option.bind_some] at e
      split at e
      · rename_i ok
        cases e
        obtain ⟨a, ws, rfl, hq, hr⟩ := lst_at rs rv hl
        exact ⟨a, m, _, ws, zs, rfl, hq, hr, ok, fun p ys hp hy => q p ys hp hy⟩
      · cases e
  · cases e
end
end Sm
/-! ## Sm13 -/
/-! Sm13: list.count of data; try .. except InkError as e: return which(e). -/
namespace SmT
open PySem PySem.Spec PyProof.Rows L2
section
variable {X : Cx} {T : Sm.Tab}
/-- list.count of data -/
def rCntD (K : PySem.W.Frag) : V → List V → Hp → VK → Prop := fun x xs H Q => ∃ (a : Addr) (y : V) (vs : List V) (d : PyData) (ds : List PyData), x = .ref a ∧ xs = [y] ∧ SqL K H a vs ∧ DpAll K H vs ds ∧ Dp K H y d ∧
  PyData.canLayAll0 ds = true ∧ PyData.depthAll ds ≤ 63 ∧ d.canLay0 = true ∧ Q (.int ((ds.countP fun z => PyData.eqv z d : Nat) : Int)) H
theorem mt_countD (hu : X.A.units + 65 < cLine) : MtR X "list.count" (rCntD X.K) := by
  intro pins s σ H x xs v us Q I rx rxs h
  obtain ⟨a, y, vs, d, ds, rfl, rfl, hs, hds, hd, c1, c2, c3, q⟩ := h
  cases rx
  obtain ⟨u, rfl, ru⟩ := Vals.one rxs
  obtain ⟨its, r, ⟨o, n, ho, hc, hdn, hdt⟩, hlen⟩ := I.list hs
  obtain ⟨as, h1⟩ := Dp.readsAll I ds vs its hds r
  obtain ⟨bs, h2⟩ := Dp.reads I d y u hd ru
  refine SeqAt.count_list_data (vs := its.toArray) ⟨_, ho, hc, n, hdt⟩ h1 h2 (Sm.lay_plains ds c1) (Sm.lay_plain d c3) ?_ ⟨.int _, H, I.tok _, ⟨_, rfl⟩, q⟩
  have : min (PyData.depthAll ds) d.depth ≤ 63 := Nat.le_trans (Nat.min_le_left _ _) c2
  omega

/-! ### isinstance of the exception at hand -/
/-- a is an exception of the class at C, pinned -/
structure PinE (X : Cx) (a C : Addr) (oe : Obj) : Prop where
  mem : (a, oe) ∈ X.pn
  cls : oe.cls = .ref C
  dct : oe.dict = none
  fld : ∃ vs, oe.data = .fields vs
theorem call_isP {a C : Addr} {oe : Obj} (P : PinE X a C oe) (F : ExcC X.K C) : CallR X (.builtin "isinstance") (rIsE X.K C a) := by
  intro pins s σ H xs us Q I r ⟨c, cv, b, e1, hcv, e, q⟩
  subst e1
  obtain ⟨u1, us2, rfl, r1, r2⟩ : ∃ u1 us2, us = u1 :: us2 ∧ RelV (.ref a) u1 ∧ Vals [c] us2 := by
    cases r with | cons p t => exact ⟨_, _, rfl, p, t⟩
  obtain ⟨u2, rfl, r3⟩ := Vals.one r2
  obtain rfl : u1 = .ref a := r1
  obtain rfl := hcv u2 r3
  have hg := (I.pin (a, oe) (List.mem_append_left _ P.mem)).1
  obtain ⟨vs, hv⟩ := P.fld
  have J : PySem.W.InstAt s.heap a oe C none := by
    have h1 := P.cls
    have h2 := P.dct
    cases oe
    simp only at h1 h2 hv
    subst h1 h2 hv
    exact ⟨hg, rfl, rfl, trivial⟩
  have Z := PySem.W.handS_kitx_exc (x := a) (ox := oe) (D := C) F.hg F.hk F.hs F.hd F.ha F.hn F.ht F.hm
  refine PySem.W.kia_one Z I.kIn J e (fun z => nomatch z) fun tk => ?_
  exact ⟨.bl b, H, I.kept (t' := tk) fun _ _ z => z, rfl, q⟩
end

/-! ### a def run where an exception is handled: the promise may name it -/
def CXF : CXT := fun _ _ _ _ _ _ => False
section
variable {P : Program} {w : World} {K : PySem.W.Frag} {mg : Str → Option Value} {base : Heap} {f : Addr} {name qual : Str} {params : Arguments} {body : List Stmt} {scope : Scope} {fd : FuncData}
  {N ps : List Str} {k : Nat} {A : Around} {outer : List Env} {s : Shared} {H : Hp} {args : Args} {us : List Value} {vs : List V} {Q : VK} {p : Addr × Obj}
theorem hot_run (Fd : FunD K name qual params body scope [] [] f fd) (S : FnScope N ps scope) (hr : L2H.RoomH (k + 1) A) (hp : L2H.PinOk outer H s p) (e0 : Env0 P w K mg base A outer s H)
    (hb : BindsTo s fd args (ps.zip us)) (r : Vals vs us) (hl : vs.length = ps.length)
    (hbody : ∀ cdv, ∃ t, PSs (L2H.cxH CXF P w K mg base N qual scope f cdv A outer s H (fun _ _ _ => False) p) body t ∧ t { nx := fun _ H' => Q .non H', rt := Q } (L2.start N vs) H) :
    codeAny (model P w) A (.call (.ref f) args) (CR CXF outer P w H s Q (fun _ _ _ => False)) s := by
  obtain ⟨oc, od, dV, kV, doc, pm, an, cdv, ct, osl, rfl, lk, hcd, _, _⟩ := Fd.ex
  obtain ⟨t, ht, hq⟩ := hbody cdv
  have stays : ∀ {b o}, base.get? b = some o → s.heap.get? b = some o := fun e => (e0.bs _ _ e).1
  have KX : K.In s.heap := e0.mod.kin.keeps fun _ _ => stays
  refine codeAny_call_function hr.depth (KX _ _ lk) rfl S.co S.gen rfl (PySem.W.codeRec_of KX hcd) (hb _ _ _ _ ?_)
  have hkind : ∀ y ∈ ps.zip us, scope.names.lookup y.1 = some .local ∨ (scope.names.lookup y.1 = some .cell ∧ ((cellsFrom (s.heap.objs.size + 1) scope.names []).lookup y.1).isSome = true) := by
    intro y hy
    have q := S.par y.1 (List.of_mem_zip (show (y.1, y.2) ∈ ps.zip us from hy)).1
    exact q.imp id fun q => ⟨q, PySem.W.cellsFrom_some _ _ _ (.inl q)⟩
  refine wpAny_newFunctionEnv_cells S.kind hkind fun env he s1 x => ⟨(e0.mod.nolimit.keeps fun _ _ => stays).keeps x.toInCall.keep, codeAny_func ?_⟩
  subst he
  have I := L2H.inv_startH (CX := CXF) (E := fun _ _ _ => False) (cd := cdv) S hp e0 hl r x
  refine wpAny_mono (ht.run [] s1 _ H _ I hq) ?_ fun _ _ hs => hs
  rintro (_ | u | _ | _) s' hs
  · obtain ⟨_, H', J, q⟩ := hs
    exact ⟨.non, H', J.os, J.bare, J.base, J.hok, rfl, q⟩
  all_goals first
    | (obtain ⟨v, _, H', J, rv, q⟩ := hs; exact ⟨v, H', J.os, J.bare, J.base, J.hok, rv, q⟩)
    | (obtain ⟨_, _, _, q⟩ := hs; exact q.elim)
end

/-! ### which(e) -/
/-- the classes: 0 is the class that is caught, 1 .. 10 the others -/
structure ExF (K : PySem.W.Frag) (T : Sm.Tab) : Prop where
  exm : ∀ c, 1 ≤ c → c ≤ 10 → PySem.W.exmOne K (.ref (T.exc c)) (.ref (T.exc 0)) = some true
  exc : ∀ c, 1 ≤ c → c ≤ 10 → ExcC K (T.exc c)
  val : ∀ c, 1 ≤ c → c ≤ 10 → PySem.W.kitOne K (.ref (T.exc c)) (.type "ValueError") = some true
  one : ∀ c j, 1 ≤ c → c ≤ 10 → 1 ≤ j → j ≤ 10 → PySem.W.kitOne K (.ref (T.exc c)) (.ref (T.exc j)) = some (decide (c = j))
def isL10 (c : Nat) : List Bool := [decide (c = 1), decide (c = 2), decide (c = 3), decide (c = 4), decide (c = 5), decide (c = 6), decide (c = 7), decide (c = 8), decide (c = 9), decide (c = 10)]
def tagS : List Nat := [114, 101, 102, 117, 115, 101, 100]
def tagD (c : Nat) : Sm.D := .tup [.str tagS, .int ((c - 1 : Nat) : Int)]
end SmT
namespace SmT
open PySem PySem.Spec PyProof.Rows L2
section
variable {K : PySem.W.Frag} {T : Sm.Tab} {a : Addr} {c : Nat}
abbrev tIs (K : PySem.W.Frag) (T : Sm.Tab) (C a : Addr) (j : Nat) : TE := tCB (rIsE K C a) (tCons (tVar 0) (tCons (tC (.ref (T.exc j))) tNil))
abbrev tOwn1 (K : PySem.W.Frag) (T : Sm.Tab) (C a : Addr) : TE := tLst (tCons (tIs K T C a 1) (tCons (tIs K T C a 2) (tCons (tIs K T C a 3) (tCons (tIs K T C a 4) tNil))))
abbrev tOwn2 (K : PySem.W.Frag) (T : Sm.Tab) (C a : Addr) : TE := tLst (tCons (tIs K T C a 5) (tCons (tIs K T C a 6) (tCons (tIs K T C a 7) (tCons (tIs K T C a 8) tNil))))
abbrev tOwn3 (K : PySem.W.Frag) (T : Sm.Tab) (C a : Addr) : TE := tLst (tCons (tIs K T C a 9) (tCons (tIs K T C a 10) tNil))
abbrev tExt (K : PySem.W.Frag) (t : TE) : TE := tBM K "list" (fun x xs H Q => rExtend x xs H Q) (tVar 1) (tCons t tNil)
abbrev tTest (K : PySem.W.Frag) (C a : Addr) : TT := tOr (tB (tOp rNe (tBM K "list" (rCntD K) (tVar 1) (tCons (tC (.bl true)) tNil)) (tC (.int 1)))) (tNot (tB (tCB (rIsE K C a) (tCons (tVar 0) (tCons (tC (.ty "ValueError")) tNil)))))
abbrev tEnd (K : PySem.W.Frag) : TE := tTup (tCons (tC (.str (Sm.tx tagS))) (tCons (tBM K "list" (rIndex K) (tVar 1) (tCons (tC (.bl true)) tNil)) tNil))
abbrev tWhich (K : PySem.W.Frag) (T : Sm.Tab) (C a : Addr) : TS :=
  tSeq (tAsg (tOwn1 K T C a) (gName 1)) (tSeq (tDrop (tExt K (tOwn2 K T C a))) (tSeq (tDrop (tExt K (tOwn3 K T C a))) (tSeq (tIfS (tTest K C a) tNever tNext) (tRet (tEnd K)))))
/-- the wish: behind the call stands the tuple, all else is kept -/
def TagEnd (K : PySem.W.Frag) (c : Nat) (H : Hp) (Q : VK) : Prop := ∀ H' p, (∀ b o, H b = some o → H' b = some o) → SqT K H' p [.str (Sm.tx tagS), .int ((c - 1 : Nat) : Int)] → Q (.ref p) H'
theorem own10 (h1 : 1 ≤ c) (h2 : c ≤ 10) : ((isL10 c).map PyData.bool).countP (fun z => PyData.eqv z (.bool true)) = 1 ∧ (isL10 c)[c - 1]? = some true ∧ ∀ (m : Nat) (z : Bool), m < c - 1 → (isL10 c)[m]? = some z → z = false := by
  have key : ∀ c : Fin 11, 1 ≤ c.val → ((isL10 c.val).map PyData.bool).countP (fun z => PyData.eqv z (.bool true)) = 1 ∧ (isL10 c.val)[c.val - 1]? = some true ∧ ∀ m : Fin 10, m.val < c.val - 1 → (isL10 c.val)[m.val]? = some false := by decide +kernel
  obtain ⟨q1, q2, q3⟩ := key ⟨c, by omega⟩ h1
  refine ⟨q1, q2, fun m z hm hz => ?_⟩
  have := q3 ⟨m, by omega⟩ hm
  simp only at this
  rw [this] at hz
  exact (Option.some.inj hz).symm
theorem grows2 {H : Hp} {p : Addr} {o : HO} (hp : H p = none) : ∀ b x, H b = some x → (upd H p o) b = some x := fun b x e => by
  rw [upd_ne (by rintro rfl; rw [hp] at e; cases e)]; exact e
theorem dps_bl {K : PySem.W.Frag} {H : Hp} : ∀ bs : List Bool, DpAll K H (bs.map V.bl) (bs.map PyData.bool)
  | [] => .nil
  | b :: bs => .cons (.bl b) (dps_bl bs)
theorem lay_bl : ∀ bs : List Bool, PyData.canLayAll0 (bs.map PyData.bool) = true ∧ PyData.depthAll (bs.map PyData.bool) ≤ 63
  | [] => ⟨rfl, by decide⟩
  | b :: bs => by
    obtain ⟨h1, h2⟩ := lay_bl bs
    constructor
    · simp [PyData.canLayAll0, PyData.canLay0, h1]
    · simp only [List.map_cons, PyData.depthAll, PyData.depth]; omega
end
end SmT
namespace SmT
open PySem PySem.Spec PyProof.Rows L2
section
variable {K : PySem.W.Frag} {T : Sm.Tab} {a : Addr} {c : Nat}
abbrev bv (c j : Nat) : V := .bl (decide (c = j))
theorem is_read (F : ExF K T) (h1 : 1 ≤ c) (h2 : c ≤ 10) {σ : L2.St} {H : Hp} {Q : VK} (hσ : σ[0]? = some (some (.ref a))) (j : Nat) (j1 : 1 ≤ j) (j2 : j ≤ 10) (q : Q (bv c j) H) : tIs K T (T.exc c) a j σ H Q :=
  ⟨_, hσ, _, _, _, rfl, fun _ r => r, F.one c j h1 h2 j1 j2, q⟩
theorem own1_read (F : ExF K T) (h1 : 1 ≤ c) (h2 : c ≤ 10) {σ : L2.St} {H : Hp} {Q : VK} (hσ : σ[0]? = some (some (.ref a))) (q : ∀ p, H p = none → Q (.ref p) (upd H p (.lst [bv c 1, bv c 2, bv c 3, bv c 4]))) : tOwn1 K T (T.exc c) a σ H Q :=
  is_read F h1 h2 hσ 1 (by decide) (by decide) (is_read F h1 h2 hσ 2 (by decide) (by decide) (is_read F h1 h2 hσ 3 (by decide) (by decide) (is_read F h1 h2 hσ 4 (by decide) (by decide) ⟨by rw [sizeLine_eq]; exact Nat.le_of_ble_eq_true rfl, q⟩)))
theorem own2_read (F : ExF K T) (h1 : 1 ≤ c) (h2 : c ≤ 10) {σ : L2.St} {H : Hp} {Q : VK} (hσ : σ[0]? = some (some (.ref a))) (q : ∀ p, H p = none → Q (.ref p) (upd H p (.lst [bv c 5, bv c 6, bv c 7, bv c 8]))) : tOwn2 K T (T.exc c) a σ H Q :=
  is_read F h1 h2 hσ 5 (by decide) (by decide) (is_read F h1 h2 hσ 6 (by decide) (by decide) (is_read F h1 h2 hσ 7 (by decide) (by decide) (is_read F h1 h2 hσ 8 (by decide) (by decide) ⟨by rw [sizeLine_eq]; exact Nat.le_of_ble_eq_true rfl, q⟩)))
theorem own3_read (F : ExF K T) (h1 : 1 ≤ c) (h2 : c ≤ 10) {σ : L2.St} {H : Hp} {Q : VK} (hσ : σ[0]? = some (some (.ref a))) (q : ∀ p, H p = none → Q (.ref p) (upd H p (.lst [bv c 9, bv c 10]))) : tOwn3 K T (T.exc c) a σ H Q :=
  is_read F h1 h2 hσ 9 (by decide) (by decide) (is_read F h1 h2 hσ 10 (by decide) (by decide) ⟨by rw [sizeLine_eq]; exact Nat.le_of_ble_eq_true rfl, q⟩)
theorem own_all : ([bv c 1, bv c 2, bv c 3, bv c 4] ++ [bv c 5, bv c 6, bv c 7, bv c 8]) ++ [bv c 9, bv c 10] = (isL10 c).map V.bl := rfl
theorem ty_l {l : Addr} {xs : List V} {H : Hp} (h : H l = some (.lst xs)) : tyV K "list" (.ref l) H := Or.inl ⟨rfl, _, SqL.of h⟩
theorem r_seq {t u : TS} {D : Ends} {σ : L2.St} {H : Hp} (h : t { D with nx := u D } σ H) : tSeq t u D σ H := h
theorem r_asg {te : TE} {g : TG} {D : Ends} {σ : L2.St} {H : Hp} (h : te σ H fun x H1 => g x σ H1 D.nx) : tAsg te g D σ H := h
theorem r_drop {te : TE} {D : Ends} {σ : L2.St} {H : Hp} (h : te σ H fun _ H1 => D.nx σ H1) : tDrop te D σ H := h
theorem r_ret {te : TE} {D : Ends} {σ : L2.St} {H : Hp} (h : te σ H D.rt) : tRet te D σ H := h
theorem r_var {i : Nat} {v : V} {σ : L2.St} {H : Hp} {Q : VK} (e : σ[i]? = some (some v)) (h : Q v H) : tVar i σ H Q := ⟨v, e, h⟩
theorem r_bm {r : V → List V → Hp → VK → Prop} {to : TE} {t : TA} {σ : L2.St} {H : Hp} {Q : VK} (h : to σ H fun x H1 => tyV K "list" x H1 ∧ t σ H1 fun xs H2 => r x xs H2 Q) : tBM K "list" r to t σ H Q := h
theorem r_cons {ta : TE} {tr : TA} {σ : L2.St} {H : Hp} {Q : List V → Hp → Prop} (h : ta σ H fun x H1 => tr σ H1 fun xs H2 => Q (x :: xs) H2) : tCons ta tr σ H Q := h
theorem r_nil {σ : L2.St} {H : Hp} {Q : List V → Hp → Prop} (h : Q [] H) : tNil σ H Q := h
theorem r_c {v : V} {σ : L2.St} {H : Hp} {Q : VK} (h : Q v H) : tC v σ H Q := h
theorem r_if {c : TT} {t u : TS} {D : Ends} {σ : L2.St} {H : Hp} (h : c σ H fun b H1 => if b = true then t D σ H1 else u D σ H1) : tIfS c t u D σ H := h
theorem r_or {t u : TT} {σ : L2.St} {H : Hp} {Q : Bool → Hp → Prop} (h : t σ H fun c H1 => if c = true then Q true H1 else u σ H1 Q) : tOr t u σ H Q := h
theorem r_not {t : TT} {σ : L2.St} {H : Hp} {Q : Bool → Hp → Prop} (h : t σ H fun c H1 => Q (!c) H1) : tNot t σ H Q := h
theorem r_b {t : TE} {σ : L2.St} {H : Hp} {Q : Bool → Hp → Prop} (h : t σ H fun x H1 => ∃ c, x = .bl c ∧ Q c H1) : tB t σ H Q := h
theorem r_op {r : R2} {ta tb : TE} {σ : L2.St} {H : Hp} {Q : VK} (h : ta σ H fun x H1 => tb σ H1 fun y H2 => r x y H2 Q) : tOp r ta tb σ H Q := h
theorem r_cb {r : List V → Hp → VK → Prop} {t : TA} {σ : L2.St} {H : Hp} {Q : VK} (h : t σ H fun vs H1 => r vs H1 Q) : tCB r t σ H Q := h
theorem r_tup {t : TA} {σ : L2.St} {H : Hp} {Q : VK} (h : t σ H fun xs H1 => xs.length ≤ sizeLine ∧ ∀ p, H1 p = none → Q (.ref p) (upd H1 p (.tup xs))) : tTup t σ H Q := h
theorem which_read (F : ExF K T) (h1 : 1 ≤ c) (h2 : c ≤ 10) {D : Ends} {H : Hp} (q : TagEnd K c H D.rt) : tWhich K T (T.exc c) a D [some (.ref a), none] H := by
  refine r_seq (r_asg (own1_read F h1 h2 rfl fun l hl => ?_))
  show tSeq _ _ _ [some (V.ref a), some (V.ref l)] _
  refine r_seq (r_drop (r_bm (r_var rfl ⟨ty_l upd_same, r_cons (own2_read F h1 h2 rfl fun l2 hl2 => r_nil ?_)⟩)))
  have n2 : l ≠ l2 := fun e => by subst e; rw [upd_same] at hl2; cases hl2
  refine ⟨l, l2, _, _, rfl, rfl, (upd_ne n2).trans upd_same, upd_same, by rw [sizeLine_eq]; exact Nat.le_of_ble_eq_true rfl, ?_⟩
  refine r_seq (r_drop (r_bm (r_var rfl ⟨ty_l upd_same, r_cons (own3_read F h1 h2 rfl fun l3 hl3 => r_nil ?_)⟩)))
  have n3 : l ≠ l3 := fun e => by subst e; rw [upd_same] at hl3; cases hl3
  refine ⟨l, l3, _, _, rfl, rfl, (upd_ne n3).trans upd_same, upd_same, by rw [sizeLine_eq]; exact Nat.le_of_ble_eq_true rfl, ?_⟩
  obtain ⟨o1, o2, o3⟩ := own10 h1 h2
  obtain ⟨y1, y2⟩ := lay_bl (isL10 c)
  rw [own_all]
  generalize hH : upd (upd (upd (upd (upd H l (.lst [bv c 1, bv c 2, bv c 3, bv c 4])) l2 (.lst [bv c 5, bv c 6, bv c 7, bv c 8])) l (.lst ([bv c 1, bv c 2, bv c 3, bv c 4] ++ [bv c 5, bv c 6, bv c 7, bv c 8]))) l3 (.lst [bv c 9, bv c 10])) l (.lst ((isL10 c).map V.bl)) = H5
  have at5 : H5 l = some (.lst ((isL10 c).map V.bl)) := by rw [← hH]; exact upd_same
  have g5 : ∀ b o, H b = some o → H5 b = some o := fun b o e => by
    have nl : b ≠ l := by rintro rfl; rw [hl] at e; cases e
    have nl2 : b ≠ l2 := by rintro rfl; rw [upd_ne nl, e] at hl2; cases hl2
    have nl3 : b ≠ l3 := by rintro rfl; rw [upd_ne nl, upd_ne nl2, upd_ne nl, e] at hl3; cases hl3
    rw [← hH, upd_ne nl, upd_ne nl3, upd_ne nl, upd_ne nl2, upd_ne nl]
    exact e
  clear hH
  refine r_seq (r_if (r_or (r_b (r_op (r_bm (r_var rfl ⟨ty_l at5, r_cons (r_c (r_nil ⟨l, _, _, _, _, rfl, rfl, SqL.of at5, dps_bl _, .bl true, y1, y2, rfl, ?_⟩))⟩))))))
  rw [o1]
  refine r_c ⟨rfl, false, rfl, ?_⟩
  rw [if_neg (by decide)]
  refine r_not (r_b (r_cb (r_cons (r_var rfl (r_cons (r_c (r_nil ⟨_, _, true, rfl, fun _ r => r, F.val c h1 h2, true, rfl, ?_⟩)))))))
  show tRet (tEnd K) D _ H5
  refine r_ret (r_tup (r_cons (r_c (r_cons (r_bm (r_var rfl ⟨ty_l at5, r_cons (r_c (r_nil ⟨l, _, .bl true, c - 1, .bl true, rfl, rfl, SqL.of at5, rfl, ?_, ?_, rfl, ?_, r_nil ?_⟩))⟩))))))
  · rw [List.all_map]; exact List.all_eq_true.mpr fun _ _ => rfl
  · rw [List.getElem?_map, o2]; rfl
  · intro m z hm hz
    rw [List.getElem?_map] at hz
    cases hb : (isL10 c)[m]? with
    | none => rw [hb] at hz; cases hz
    | some z0 =>
      rw [hb] at hz
      obtain rfl := o3 m z0 hm hb
      cases hz
      rfl
  · refine ⟨by rw [sizeLine_eq]; exact Nat.le_of_ble_eq_true rfl, fun p hp => q _ p (fun b o e => ?_) (SqT.of upd_same)⟩
    exact grows2 hp b o (g5 b o e)
end

/-! ### the call in the suite -/
def tWc (K : PySem.W.Frag) (i : Nat) (a : Addr) (c : Nat) : TE := fun σ H Q => σ[i]? = some (some (.ref a)) ∧ TagEnd K c H Q
section
variable {X : Cx} {T : Sm.Tab} {W : WX} {a : Addr} {oe : Obj} {pn : List (Addr × Obj)} {c i : Nat} {f : Addr} {fd : FuncData} {name qual x n : Str} {params : Arguments} {body : List Stmt} {scope : Scope} {N : List Str} {k : Nat} {p1 p2 p3 : Pos}
theorem pe_which (Fd : FunD X.K name qual params body scope [] [] f fd) (S : FnScope N ["_law_e"] scope) (hb : Binds X.K fd ["_law_e"] []) (hr : Room (k + 1) X.A) (hg : Gl X x) (hm : X.mg x = some (.ref f)) (hN : X.N[i]? = some n) (hv : Vis X.env.scope n)
    (hpz : Zc (.ref (T.exc c)) none oe) (hpf : ∃ vs, oe.data = .fields vs)
    (hbody : ∀ (cdv : Value) (A : Around) (outer : List Env) (s : Shared) (H : Hp) (Q : VK), L2H.RoomH k (A.deeper (envOfC qual scope s.heap.objs.size f cdv)) → TagEnd X.K c H Q →
      ∃ t, PSs (L2H.cxH CXF X.prog X.w X.K X.mg X.base N qual scope f cdv A outer s H (fun _ _ _ => False) (a, oe)) body t ∧ t { nx := fun _ H' => Q .non H', rt := Q } (L2.start N [.ref a]) H)
    (hdb : (x == ("__debug__" : Str)) = false := by decide) (hd1 : (n == ("__debug__" : Str)) = false := by decide) (hd2 : (n == ("__classdict__" : Str)) = false := by decide) :
    PE (X.suite a ((a, oe) :: pn)) (.Call (.Name x p1) [.Name n p2] [] p3) (tWc X.K i a c) := by
  refine ⟨fun pins s σ H Q I ⟨hσ, hq⟩ => ?_⟩
  refine wpAny_Call_Name_kw (ld_glob I hg hm ?_ hdb)
  have ha : PA (X.suite a ((a, oe) :: pn)) [.Name n p2] (tCons (tVar i) tNil) := pa_cons (pe_var hN hv hd1 hd2) pa_nil
  refine PySem.W.callWith_K (h₀ := X.base) I.ok.mod.kin Fd.kp (thn (ha.run p3 pins s σ H (fun vs H1 => vs = [.ref a] ∧ H1 = H) I ⟨_, hσ, rfl, rfl⟩) fun us s1 ⟨vs, H1, I1, r, e1, e2⟩ => ⟨I1.kIn, ?_⟩) rfl rfl
  subst e1 e2
  have P1 := I1.pin (a, oe) (List.mem_append_left _ List.mem_cons_self)
  have hp : L2H.PinOk X.stack H1 s1 (a, oe) := ⟨P1.1, P1.2.1, fun hm => (List.mem_cons.mp (I1.stkSub a hm)).elim P1.2.2.1 P1.2.2.2.1, P1.2.2.2.2⟩
  have hl : (us ++ ([] : List Value)).length = (["_law_e"] : List Str).length := by rw [List.append_nil, ← r.length]; rfl
  have b := hb s1 us I1.kIn hl
  rw [List.append_nil] at b
  have hrH : L2H.RoomH (k + 1) (X.A.mark (some (.ref a))) := ⟨hr.dp, hr.un⟩
  refine wpAny_call (codeAny_mono (hot_run (k := k) (Q := Q) Fd S hrH hp I1.env0 b r rfl fun cdv => hbody cdv _ _ _ _ _ (hrH.deeper _) hq) fun r s' hr => ?_)
  match r, hr with
  | .error e, hr => exact False.elim hr
  | .ok (.ret u), hr => exact I1.after hr
  | .ok .next, hr => exact False.elim hr
  | .ok .brk, hr => exact False.elim hr
  | .ok .cont, hr => exact False.elim hr
end
end SmT
namespace Sm
open PySem PySem.Spec PyProof.Rows L2 RZ SmT
/-! ### try -/
def sTry (i : Nat) (g : SM) : SM := fun ρ S => match g ρ S with
  | .exc c ρ' S' => if 1 ≤ c ∧ c ≤ 10 ∧ i < ρ'.length then .rt (tagD c) S' else .stuck
  | r => r
section
variable {X : Cx} {T : Sm.Tab} {W : WX} {body : List Stmt} {g : SM} {x n : Str} {np rp pos pos' : Pos} {call : Expr} {i : Nat}
theorem s_try (hs : X.stack = X.env :: X.outer) (hf : X.env.frame = some X.env.locals) (hN : X.N.Nodup) (hi : X.N[i]? = some n) (hln : X.env.kindOf n = some .local) (hc : Names X x (.ref (T.exc 0))) (tk : Takes X W) (F : ExF X.K T)
    (hb : ∀ (W : WX) (pn : List (Addr × Obj)) (xe : Value → Shared → Prop), Takes (X.tr pn xe) W → PassesOwn (model X.prog X.w) X.A X.env xe → SS (X.tr pn xe) T W body g)
    (hw : ∀ (a : Addr) (oe : Obj) (pn : List (Addr × Obj)) (c : Nat), 1 ≤ c → c ≤ 10 → Zc (.ref (T.exc c)) none oe → (∃ vs, oe.data = .fields vs) → PE (X.suite a ((a, oe) :: pn)) call (tWc X.K i a c)) :
    S1 X T W (.Try body [.ExceptHandler (some (.Name x np)) (some n) [.Return (some call) rp] pos'] [] [] pos) (sTry i g) := by
  refine PS.mono (ps_try_as (tb := fun W => tS X.K T W g) (ts := fun a cls d D σ H => ∃ c, 1 ≤ c ∧ c ≤ 10 ∧ cls = .ref (T.exc c) ∧ d = none ∧ tWc X.K i a c σ H D.rt) hs hf hN hi hln hc tk hb fun a oe cls d pn hz hfl => ⟨fun pins s σ H D I ⟨c, c1, c2, e1, e2, h⟩ => ?_⟩) fun D σ H ⟨P, m, S, ρ, rs, re, h⟩ => ⟨P, m, S, ρ, rs, re, ?_⟩
  · subst e1 e2
    exact (pss_one (ps_ret (hw a oe pn c c1 c2 hz hfl))).run pins s σ H D I h
  · unfold sTry at h
    cases hg : g ρ S with
    | exc c ρ' S' =>
      rw [hg] at h
      dsimp only at h
      split at h
      · rename_i hcc
        obtain ⟨c1, c2, c3⟩ := hcc
        intro m' H' σ' x1 rs1 re1
        refine ⟨true, F.exm c c1 c2, fun _ a ha => ⟨c, c1, c2, rfl, rfl, ?_, fun H'' p gr ht => ?_⟩, fun z => by cases z⟩
        · exact List.getElem?_set_self (by rw [← re1.len]; exact c3)
        · refine h m' H'' (.ref p) (x1.trans (ext_grow gr)) (rs1.ext0 gr) (.tup ht (.cons (.str _) (.cons (.int _) .nil)))
      · exact h.elim
    | nx ρ' S' => rw [hg] at h; exact h
    | rt d S' => rw [hg] at h; exact h
    | bk ρ' S' => rw [hg] at h; exact h
    | ct ρ' S' => rw [hg] at h; exact h
    | stuck => rw [hg] at h; exact h
end
end Sm
/-! ## Sm14 -/
/-! Sm14: more methods of lists and texts, texts many times, backwards, enumerate of tuples and texts, lists unpacked. -/
namespace SmT
open PySem PySem.Spec PyProof.Rows L2
/-! ### enumerate of a tuple, of a text -/
theorem enum_new {v : Value} {o : Obj} {B : Heap → Prop} (b : Begins v o B) : Meets (Builtin.«enumerate.__new__» ⟨[.type "enumerate", v], []⟩) (fun _ R s => B s.heap ∧
    R (.ok (.ret (.ref (s.heap.push o).objs.size))) { s with heap := (s.heap.push o).push { cls := .type "enumerate", data := .fields #[.none, .bool false, .ref s.heap.objs.size, rawInt 0, .none, .none] } }) :=
  .of_wp fun prog w A R s h => by
    obtain ⟨hp, g, d, tk, os⟩ := s
    obtain ⟨hB, hR⟩ := h
    have hsub := PySem.sub_enumerate
    have it : ∀ {A' : Around} {E : Value → Shared → Prop} {Q : Value → Shared → Prop}, Q (.ref hp.objs.size) ⟨hp.push o, g, d, tk, os⟩ → wpAny (model prog w) A' (pyIter v) Q E ⟨hp, g, d, tk, os⟩ := fun q => b.iter prog w _ _ ⟨hp, g, d, tk, os⟩ _ hB q
    wp_walk
    refine wpAny_stack_any fun st => wpAny_pure ?_
    split
    · rename_i c _ _ _ _ _
      cases (c == Value.type "enumerate") <;> (wp_walk using it; exact ⟨_, rfl, hR⟩)
    · wp_walk using it
      exact ⟨_, rfl, hR⟩
section
variable {prog : Program} {w : World} {A : Around} {E : Value → Shared → Prop} {s : Shared}
theorem call_enum {v : Value} {o : Obj} {B : Heap → Prop} {Q : Value → Shared → Prop} (b : Begins v o B) (hB : B s.heap)
    (h : ∀ h', IsEnum h' (s.heap.objs.size + 1) s.heap.objs.size 0 .none → h'.get? s.heap.objs.size = some o → (∀ c u, s.heap.get? c = some u → h'.get? c = some u) → Q (.ref (s.heap.objs.size + 1)) { s with heap := h' }) :
    wpAny (model prog w) A (call (.type "enumerate") [v]) Q E s := by
  refine callType_new F.called_enumerate (by decide) (F.typeCall_enumerate_1 _) (F.newCall_enumerate_1 _) (fun obj => F.args_object_init_2 obj _) F.entry_enumerate_new (enum_new b) ⟨hB, ?_⟩
  have hz : (s.heap.push o).objs.size = s.heap.objs.size + 1 := Heap.size_push ..
  show _ ∧ _
  rw [hz]
  have at1 := Heap.get?_push_size (s.heap.push o) (o := { cls := .type "enumerate", data := .fields #[.none, .bool false, .ref s.heap.objs.size, rawInt 0, .none, .none] }) rfl
  rw [hz] at at1
  exact ⟨⟨_, at1, rfl⟩, h _ at1 (Heap.get?_push_of_some _ (Heap.get?_push_size _ b.free)) fun c u e => Heap.get?_push_of_some _ (Heap.get?_push_of_some _ e)⟩
end
/-- the items xs, each in a new pair -/
def ItN (G : Hp → Prop) (xs : List V) : It :=
  ⟨fun i H => G H ∧ i < xs.length, fun i H v H' => ∃ T x, v = .ref T ∧ H T = none ∧ H' = upd H T (.tup [.int (i : Nat), x]) ∧ xs[i]? = some x, fun i H => G H ∧ i = xs.length⟩
def IsEnumAt (e : Addr) (h : Heap) : Prop := ∃ o, h.get? e = some o ∧ o.cls = .type "enumerate"
/-- what is asked of the iterator within -/
structure Inner (P : Program) (w : World) (K : PySem.W.Frag) (G : Hp → Prop) (xs : List V) (it e : Addr) (In : Nat → Heap → Prop) : Prop where
  live : ∀ i h, In i h → ∃ o, h.get? it = some o ∧ ∀ v, o.data ≠ .cell v
  keep : ∀ i h h', In i h → (∀ o, h.get? it = some o → h'.get? it = some o) → In i h'
  draws : ∀ (X : Cx), X.prog = P → X.w = w → X.K = K → X.calm = true → ∀ (pins : List (Addr × Obj)) (s : Shared) (σ : L2.St) (H : Hp), Inv X pins σ H s → G H → IsEnumAt e s.heap → e ≠ it → ∀ j, In j s.heap → ∃ fp n Pv, ∃ Sx : Nat → Heap → Prop, Draws P w X.A.in1 it fp n Pv Sx ∧ n = xs.length ∧ e ∉ fp ∧
    (∀ i, In i s.heap → Sx i s.heap) ∧ (∀ i h', Sx i h' → In i h') ∧ ∀ i v, Pv i v → ∃ x, xs[i]? = some x ∧ RelV x v
theorem turn_enumN {P : Program} {w : World} {K : PySem.W.Frag} {elts : List Expr} {kk : Nat} {tpos : Pos} {G : Hp → Prop} {xs : List V} {it e : Addr} {In : Nat → Heap → Prop} (N : Inner P w K G xs it e In) :
    Turn P w K (.Tuple elts kk tpos) (ItN G xs) [e, it] e (fun i h => (∃ old, IsEnum h e it ((i : Nat) : Int) old) ∧ In i h ∧ e ≠ it) where
  mem := by simp
  obj := fun i h ⟨⟨old, he⟩, hi, _⟩ b hb => by
    rcases List.mem_cons.mp hb with rfl | hb
    · exact ⟨_, he, fun v q => nomatch q⟩
    · rw [List.mem_singleton.mp hb]; exact N.live i h hi
  keep := fun i h h' ⟨⟨old, he⟩, hi, hne⟩ k => ⟨⟨old, k e (by simp) _ he⟩, N.keep i h h' hi (k it (by simp)), hne⟩
  item := by
    intro X hP hw hK hc i pins s σ H E I hf ⟨⟨old, he⟩, hi, hne⟩ ⟨hG, hlt⟩
    obtain ⟨fp, n, Pv, Sx, D, rfl, hef, s1, s2, hPv⟩ := N.draws X hP hw hK hc pins s σ H I hG ⟨_, he, rfl⟩ hne _ hi
    subst hP hw hK
    have hel : e < s.heap.objs.size := Heap.lt_size he
    have hil : it < s.heap.objs.size := by obtain ⟨o, q, _⟩ := N.live i _ hi; exact Heap.lt_size q
    refine wpAny_pyNext_enum_itemD D he (s1 i hi) hlt hne hef fun u h' tk hu ho hst hT hsz hk => ?_
    refine ⟨_, rfl, wpAny_letOwnedTupleGo_enum (s := { s with heap := h', toks := tk + 1 }) ho fun h'' he' sb => ?_⟩
    obtain ⟨x, hx, rx⟩ := hPv i u hu
    have hT2 : h''.get? s.heap.objs.size = some { cls := .type "tuple", data := .seq #[.int i tk, u] } := (sb.2 _ (Nat.ne_of_gt hel)).trans hT
    have new : ObjOk X.prog X.w (upd H s.heap.objs.size (.tup [.int (i : Nat), x])) h'' s.heap.objs.size (.tup [.int (i : Nat), x]) :=
      ⟨by rw [sizeLine_eq]; exact Nat.le_of_ble_eq_true rfl, [.int i tk, u], .cons ⟨_, rfl⟩ (.cons rx .nil), ⟨_, hT2, rfl, _, rfl⟩⟩
    have I1 := I.turnedNew (t' := tk + 1) (h' := h'') (ch := [e, it]) (fun b ob hb q => by
      have b1 : b ≠ e := fun z => hb (by simp [z])
      have b2 : b ≠ it := fun z => hb (by simp [z])
      exact (sb.2 b b1).trans (hk b ob b1 b2 q)) hf (Nat.le_refl _) new
    refine ⟨.ref s.heap.objs.size, _, I1, rfl, ⟨_, x, rfl, I.hok.fresh (Nat.le_refl _), rfl, hx⟩, ⟨⟨u, by rw [show ((i + 1 : Nat) : Int) = (i : Int) + 1 by omega]; exact he'⟩, N.keep _ _ _ (s2 _ _ hst) fun o q => (sb.2 it (Ne.symm hne)).trans q, hne⟩, fun b hb => ?_⟩
    have hb' : b < s.heap.objs.size := by
      rcases List.mem_cons.mp hb with z | z
      · rw [z]; exact hel
      · rw [List.mem_singleton.mp z]; exact hil
    rw [upd_ne (Nat.ne_of_lt hb')]
    exact (hf b hb).1
  done := by
    intro X hP hw hK hc i pins s σ H E I hf ⟨⟨old, he⟩, hi, hne⟩ ⟨hG, hle⟩
    subst hle
    obtain ⟨fp, n, Pv, Sx, D, rfl, hef, s1, s2, hPv⟩ := N.draws X hP hw hK hc pins s σ H I hG ⟨_, he, rfl⟩ hne _ hi
    subst hP hw hK
    obtain ⟨f0, f1, f2, f3, f4, f5⟩ := hf it (by simp)
    exact wpAny_pyNext_enum_endD D he (s1 _ hi) fun h' eb => ⟨rfl, I.turned (t' := s.toks) (fun b o hb q => eb b o hb q) f0 f1 f3 f4 f5⟩
  self := fun A i s Q E ⟨⟨_, he⟩, _⟩ h => wpAny_pyIter_enum he h
theorem vals_at {xs : List V} {us : List Value} {i : Nat} {u : Value} (r : Vals xs us) (h : us[i]? = some u) : ∃ x, xs[i]? = some x ∧ RelV x u := by
  have hi : i < us.length := (List.getElem?_eq_some_iff.mp h).1
  have hx : i < xs.length := by rw [r.length]; exact hi
  obtain ⟨u', h', r'⟩ := r.get (List.getElem?_eq_getElem hx)
  rw [h] at h'
  cases h'
  exact ⟨_, List.getElem?_eq_getElem hx, r'⟩
theorem inner_tup {P : Program} {w : World} {K : PySem.W.Frag} {xs : List V} {t it e : Addr} : Inner P w K (fun H => SqT K H t xs) xs it e (fun i h => h.IsTupleIter it t i) where
  live := fun i h ⟨o, ho, hc, hd⟩ => ⟨o, ho, fun v q => by rw [hd] at q; cases q⟩
  keep := fun i h h' st k => st.at k
  draws := by
    intro X hP hw hK hc pins s σ H I hG ⟨oe, hoe, hce⟩ hne j hj
    subst hP hw hK
    obtain ⟨its, rv, ⟨o, ho, hcl, n, hdt⟩, hz⟩ := I.tuple hG
    have d1 : t ≠ it := by
      rintro rfl
      obtain ⟨o', ho', hc', _⟩ := hj
      rw [ho] at ho'
      cases ho'
      rw [hcl] at hc'
      exact absurd (Value.type.inj hc') (by decide)
    have d2 : e ≠ t := by
      rintro rfl
      rw [ho] at hoe
      cases hoe
      rw [hcl] at hce
      exact absurd (Value.type.inj hce) (by decide)
    have hh : X.A.in1.handled = none := by simp [I.ok.hd hc]
    refine ⟨_, _, _, _, Draws.tuple hh it t d1 its.toArray, by simp [rv.length], by simp [hne, d2], fun i st => ⟨st, ⟨o, ho, hcl, n, hdt⟩⟩, fun i h' st => st.1, fun i v hv => ?_⟩
    have hi : its[i]? = some v := by rw [← List.getElem?_toArray]; exact hv
    exact vals_at rv hi
theorem inner_str {P : Program} {w : World} {K : PySem.W.Frag} {x : Str} {t : Tok} {it e : Addr} : Inner P w K (fun _ => True) (x.cps.toList.map fun c => V.str ⟨#[c]⟩) it e (fun i h => h.IsStrIter it (strIterType x) x t i) where
  live := fun i h ⟨o, ho, hc, hd⟩ => ⟨o, ho, fun v q => by rw [hd] at q; cases q⟩
  keep := fun i h h' ⟨o, ho, r⟩ k => ⟨o, k o ho, r⟩
  draws := by
    intro X hP hw hK hc pins s σ H I hG _ hne j hj
    subst hP hw hK
    have hh : X.A.in1.handled = none := by simp [I.ok.hd hc]
    refine ⟨_, _, _, _, Draws.text hh it x t, by simp, by simp [hne], fun i st => st, fun i h' st => st, fun i v ⟨c, u, hc, hv⟩ => ⟨V.str ⟨#[c]⟩, ?_, u, hv⟩⟩
    rw [List.getElem?_map, Array.getElem?_toList, hc]
    rfl
/-- what is walked -/
inductive EnSrc (K : PySem.W.Frag) (H : Hp) : V → (Hp → Prop) → List V → Prop
  | tup {t : Addr} {xs : List V} : SqT K H t xs → EnSrc K H (.ref t) (fun H => SqT K H t xs) xs
  | str (x : Str) : EnSrc K H (.str x) (fun _ => True) (x.cps.toList.map fun c => V.str ⟨#[c]⟩)
def iEnumN (K : PySem.W.Frag) (ta : TA) : TI := fun σ H R => ta σ H fun vs H1 => ∃ v G xs, vs = [v] ∧ EnSrc K H1 v G xs ∧ R (ItN G xs) H1
theorem pi_enumN {X : Cx} {e : Expr} {ta : TA} {p pos tpos : Pos} {elts : List Expr} {kk : Nat} (hg : Gl X "enumerate") (hm : X.mg "enumerate" = none) (ha : PA X [e] ta) (hs : starEach [e] X.env = [(false, eval e X.env)] := by rfl) :
    PI X (.Tuple elts kk tpos) (.Call (.Name "enumerate" p) [e] [] pos) (iEnumN X.K ta) := by
  refine ⟨fun pins s σ H R I h => ?_⟩
  refine Call_ (ld_blt I hg hm boot_enumerate (PyProof.Rows.callWith_type1 (thn (ha.run pos pins s σ H _ I h) fun us s1 ⟨vs, H1, I1, r1, v, G, xs, ex, src, q⟩ => ?_) hs rfl))
  subst ex
  obtain ⟨u, rfl, ru⟩ := vals1 r1
  have fp : ∀ b ∈ [s1.heap.objs.size + 1, s1.heap.objs.size], FpOk X pins H1 b := fun b hb => by
    have hle : s1.heap.objs.size ≤ b := by
      rcases List.mem_cons.mp hb with z | z
      · rw [z]; exact Nat.le_succ _
      · rw [List.mem_singleton.mp z]; exact Nat.le_refl _
    exact I1.fpOk hle (I1.hok.fresh hle)
  cases src with
  | tup ht =>
    rename_i t
    obtain rfl : u = Value.ref t := ru
    obtain ⟨its, rv, ⟨o, ho, hcl, n, hdt⟩, hz⟩ := I1.tuple ht
    refine call_enum (begins_tuple t its.toArray) ⟨o, ho, hcl, n, hdt⟩ fun h' he hi hk => wpAny_pyIter_enum he ?_
    have I2 : Inv X pins σ H1 { s1 with heap := h' } := I1.kept (t' := s1.toks) hk
    exact ⟨s1.heap.objs.size + 1, [s1.heap.objs.size + 1, s1.heap.objs.size], _, _, H1, rfl, I2, turn_enumN inner_tup, ⟨⟨.none, he⟩, ⟨_, hi, rfl, rfl⟩, Nat.succ_ne_self _⟩, fp, q⟩
  | str x =>
    obtain ⟨tk, rfl⟩ := ru
    refine call_enum (begins_text x tk) trivial fun h' he hi hk => wpAny_pyIter_enum he ?_
    have I2 : Inv X pins σ H1 { s1 with heap := h' } := I1.kept (t' := s1.toks) hk
    exact ⟨s1.heap.objs.size + 1, [s1.heap.objs.size + 1, s1.heap.objs.size], _, _, H1, rfl, I2, turn_enumN (inner_str (t := tk)), ⟨⟨.none, he⟩, ⟨_, hi, rfl, rfl⟩, Nat.succ_ne_self _⟩, fp, q⟩
end SmT
namespace Sm
open PySem PySem.Spec PyProof.Rows L2 RZ SmT
theorem walks_enumN {K : PySem.W.Frag} {T : Tab} {m : List Addr} {L : Addr → Prop} {H : Hp} {G : Hp → Prop} {xs : List V} {ds : List D} (hG : ∀ P m' S' H', Le K m L H m' (Lv P m' S') H' → G H') (r : Rs K m L H ds xs) : Walks K T m L H (ItN G xs) (wkE (wkL ds)) := by
  have hlen : ds.length = xs.length := r.length
  refine ⟨fun P m' S' H' i d le rs hi e => ?_, fun P m' S' H' le rs hf => ⟨hG _ _ _ _ le, hlen⟩⟩
  have e' : (ds[i]?.map fun d => D.tup [.int (i : Nat), d]) = some d := e
  cases hd : ds[i]? with
  | none => rw [hd] at e'; cases e'
  | some d0 =>
    rw [hd] at e'
    cases e'
    have hi' : i < ds.length := hi
    refine ⟨⟨hG _ _ _ _ le, by omega⟩, fun v H'' ⟨t, x, ev, ht, eH, hx⟩ => ?_⟩
    subst ev eH
    obtain ⟨d1, h1, rx⟩ := (Rs.le le _ _ r).get hx
    rw [hd] at h1
    cases h1
    exact ⟨grow_upd ht, tup_upd rs ht (.cons (.int _) (.cons rx .nil))⟩
@[simp] def wkTS (d : D) : Option Wk := match d with
  | .tup ds => some (wkE (wkL ds))
  | .str s => some (wkE (wkL (s.map fun c => .str [c])))
  | _ => none
@[simp] def wEnumN (f : EM) : WM := fun ρ S => (f ρ S).bind fun d S1 => giveW (wkTS d) S1
theorem rs_signs {K : PySem.W.Frag} {m : List Addr} {L : Addr → Prop} {H : Hp} : ∀ s : List Nat, Rs K m L H (s.map fun c => D.str [c]) (s.map fun c => V.str ⟨#[c]⟩)
  | [] => .nil
  | c :: s => .cons (.str [c]) (rs_signs s)
section
variable {X : Cx} {T : Tab} {W : WX} {e : Expr} {f : EM} {p pos tpos : Pos} {elts : List Expr} {kk : Nat}
theorem i_enumN (hg : Gl X "enumerate") (hm : X.mg "enumerate" = none) (he : SE X T W e f) (hs : starEach [e] X.env = [(false, eval e X.env)] := by rfl) : SI X T W (.Tuple elts kk tpos) (.Call (.Name "enumerate" p) [e] [] pos) (wEnumN f) := by
  refine PI.mono (pi_enumN hg hm (pa_cons he pa_nil (by rw [hs]; rfl)) hs) fun σ H Q ⟨P, m, S, ρ, rs, re, h⟩ => ?_
  refine tE.use rs re h fun m1 S1 H1 d v x1 rs1 re1 r1 h1 => ?_
  obtain ⟨w, ew, q⟩ := h1.giveW rs1
  cases d with
  | tup ds =>
    cases ew
    cases r1 with
    | tup ht r => exact ⟨_, _, _, rfl, .tup ht, q _ (walks_enumN (fun P' m' S' H' le => sqT_keep (fun _ _ => le.tup) ht) r)⟩
  | str s =>
    cases ew
    cases r1
    refine ⟨_, _, _, rfl, .str _, q _ (walks_enumN (fun _ _ _ _ _ => trivial) ?_)⟩
    have e1 : (tx s).cps.toList = s := by simp
    rw [e1]
    exact rs_signs s
  | _ => cases ew
end
end Sm
/-! ## Sm15 -/
/-! Sm15: more methods of lists and texts, texts many times, backwards, lists unpacked, a def out of a list of defs. -/
namespace Sm
open PySem PySem.Spec PyProof.Rows L2 RZ SmT
section
variable {X : Cx} {T : Tab} {W : WX}
/-! ### list.count -/
@[simp] def countM (S : Store) (d : D) (ds : List D) : Option (D × Store) := match ds with
  | [y] => (lstOf S d).bind fun xs => if (D.flats 63 xs && D.flat 64 y) = true then some (.int ((xs.countP fun x => D.eqv x y : Nat) : Int), S) else none
  | _ => none
theorem count_py {y : D} (hy : D.flat 64 y = true) : ∀ {ds : List D}, D.flats 63 ds = true → (D.pys ds).countP (fun z => PyData.eqv z y.py) = ds.countP fun x => D.eqv x y
  | [], _ => rfl
  | x :: xs, h => by
    obtain ⟨h1, h2⟩ := Bool.and_eq_true_iff.mp (show (D.flat 63 x && D.flats 63 xs) = true from h)
    show (x.py :: D.pys xs).countP _ = _
    rw [List.countP_cons, List.countP_cons, count_py hy h2, eqv_py 63 64 x y h1 hy]
theorem m_count (hu : X.A.units + 65 < cLine) : SMm X T "list.count" countM := by
  refine ⟨_, mt_countD hu, fun P m S H x xs dx ds d S' Q rs rx r e q => ?_⟩
  unfold countM at e
  split at e
  · rename_i y
    obtain ⟨v, rfl, rv⟩ := rs_one r
    cases hl : lstOf S dx with
    | none => rw [hl] at e; cases e
    | some zs =>
      rw [hl, Option.bind_some] at e
      split at e
      · rename_i hb
        obtain ⟨h1, h2⟩ := Bool.and_eq_true_iff.mp hb
        cases e
        obtain ⟨a, vs, rfl, hq, hr⟩ := lst_at rs rx hl
        obtain ⟨c1, c2⟩ := flats_shape 63 zs h1
        refine ⟨a, v, vs, y.py, D.pys zs, rfl, rfl, hq, dps_of 63 zs vs h1 hr, dp_of 64 y v h2 rv, c1, c2, (flat_shape 64 y h2).1, ?_⟩
        rw [count_py h2 h1]
        exact q m H _ .refl rs (.int _)
      · cases e
  · cases e
/-! ### texts -/
/-- a text's method whose argument is read out of the store -/
def SMx (X : Cx) (id : String) (g : Store → List Nat → List D → Option D) : Prop :=
  ∃ r, MtR X id r ∧ ∀ T P m S H (s : List Nat) xs ds d (Q : VK), RS X.K T P m S H → Rs X.K m (Lv P m S) H ds xs → g S s ds = some d → (∀ v, R X.K m (Lv P m S) H d v → Q v H) → r (.str (tx s)) xs H Q
@[simp] def eMx (g : Store → List Nat → List D → Option D) (fo : EM) (a : AM) : EM := fun ρ S => (fo ρ S).bind fun d S1 => onS d fun s => (a ρ S1).bind fun ds S2 => give (g S2 s ds) S2
variable {o e : Expr} {es : List Expr} {fo : EM} {a : AM} {name : Str} {apos cpos pos : Pos} {id : String} {g : Store → List Nat → List D → Option D}
theorem s_mx (slot : Slot "str" name id) (hty : typeOf (.builtin id) = pure (.type "method_descriptor")) (hm : SMx X id g) (ho : SE X T W o fo) (ha : SA X T W (e :: es) a)
    (hbase : attributeBase o name X.env (eval o X.env) = eval o X.env := by rfl)
    (hfew : ((backTo cpos (starEach (e :: es) X.env)).all (fun x => !x.1) && (backToKw cpos (keywordEach [] X.env)).all (fun x => x.1.isSome)
      && decide ((e :: es).length + ([] : List Keyword).length + (if ([] : List Keyword).isEmpty then 0 else 1) < 30)) = true := by rfl)
    (hline : (apos.endLine == cpos.line) = true := by rfl) (hs : starEach (e :: es) X.env = (false, eval e X.env) :: starEach es X.env := by rfl) (hplain : (backTo cpos (starEach es X.env)).any (·.1) = false := by rfl) :
    SE X T W (.Call (.Attribute o name apos) (e :: es) [] cpos) (eMx g fo a) := by
  obtain ⟨r, hr, hg⟩ := hm
  refine PE.mono (pe_bm F.plainAttrs_str slot hty hr ho ha hbase hfew hline hs hplain) fun σ H Q ⟨P, m, S, ρ, rs, re, h⟩ => ?_
  refine tE.use rs re h fun m1 S1 H1 d v x1 rs1 re1 r1 h1 => ?_
  cases d with
  | str s =>
    cases r1
    refine ⟨rfl, ?_⟩
    refine tA.use rs1 re1 h1 fun m2 S2 H2 ds vs x2 rs2 re2 r2 h2 => ?_
    obtain ⟨z, ez, q⟩ := h2.give rs2
    exact hg T P m2 S2 H2 s vs ds z Q rs2 r2 ez fun v rv => q H2 v (fun _ _ e => e) rv
  | _ => exact h1.elim
def strsOf : List D → Option (List (List Nat))
  | [] => some []
  | .str s :: r => (strsOf r).map (s :: ·)
  | _ :: _ => none
theorem strs_at {K : PySem.W.Frag} {m : List Addr} {L : Addr → Prop} {H : Hp} : ∀ {ds : List D} {vs : List V} {ss : List (List Nat)}, Rs K m L H ds vs → strsOf ds = some ss → vs = ss.map fun s => V.str (tx s)
  | _, _, _, .nil, e => by cases e; rfl
  | _, _, ss, .cons (d := d) (ds := ds) rd rs, e => by
    cases rd with
    | str s =>
      have e' : (strsOf ds).map (s :: ·) = some ss := e
      cases h : strsOf ds with
      | none => rw [h] at e'; cases e'
      | some zs =>
        rw [h] at e'
        cases e'
        rw [strs_at rs h]
        rfl
    | _ => cases e
def joinL (a : List Nat) : List (List Nat) → List Nat
  | [] => []
  | [s] => s
  | s :: t :: r => s ++ a ++ joinL a (t :: r)
def seqOf (S : Store) (d : D) : Option (List D) := match d with
  | .tup xs => some xs
  | d => lstOf S d
@[simp] def joinX (S : Store) (s : List Nat) (ds : List D) : Option D := match ds with
  | [d] => (seqOf S d).bind fun xs => (strsOf xs).bind fun ss => if decide ((ss.map (·.length)).sum + ss.length * s.length ≤ 16777216) = true then some (.str (joinL s ss)) else none
  | _ => none
theorem glued_cons (s t : Str) (a : Str) (r : List Str) : (Builtin.Str.glued a (s :: t :: r)).cps.toList = s.cps.toList ++ a.cps.toList ++ (Builtin.Str.glued a (t :: r)).cps.toList := by
  have key : ∀ (l : List Str) (x y : Array Nat), (l.foldl (fun acc p => acc ++ a.cps ++ p.cps) (x ++ y)) = x ++ l.foldl (fun acc p => acc ++ a.cps ++ p.cps) y := by
    intro l
    induction l with
    | nil => intro x y; rfl
    | cons p l ih =>
      intro x y
      rw [List.foldl_cons, List.foldl_cons, Array.append_assoc, Array.append_assoc, ih, Array.append_assoc]
  unfold Builtin.Str.glued
  simp only [List.drop_succ_cons, List.drop_zero, List.headD_cons, List.foldl_cons]
  rw [key, Array.append_assoc]
  simp
theorem join_tx (a : List Nat) : ∀ ss : List (List Nat), Txt.join (tx a) (ss.map tx) = tx (joinL a ss)
  | [] => rfl
  | [s] => by
    show Builtin.Str.glued (tx a) [tx s] = tx s
    unfold Builtin.Str.glued
    simp
  | s :: t :: r => by
    have ih := join_tx a (t :: r)
    have e : (Builtin.Str.glued (tx a) (tx s :: tx t :: r.map tx)).cps = (tx (s ++ a ++ joinL a (t :: r))).cps := by
      apply Array.toList_inj.mp
      rw [glued_cons]
      have ih' : Builtin.Str.glued (tx a) (tx t :: r.map tx) = tx (joinL a (t :: r)) := ih
      rw [ih']
    show Builtin.Str.glued (tx a) (tx s :: tx t :: r.map tx) = tx (s ++ a ++ joinL a (t :: r))
    generalize Builtin.Str.glued (tx a) (tx s :: tx t :: r.map tx) = z at e
    cases z
    simp only at e
    rw [e]
theorem seq_at {K : PySem.W.Frag} {T : Tab} {P : Addr → Prop} {m : List Addr} {S : Store} {H : Hp} {d : D} {v : V} {xs : List D} (rs : RS K T P m S H) (r : R K m (Lv P m S) H d v) (h : seqOf S d = some xs) : ∃ a vs, v = .ref a ∧ (SqL K H a vs ∨ SqT K H a vs) ∧ Rs K m (Lv P m S) H xs vs := by
  cases d with
  | tup ys =>
    cases h
    cases r with
    | tup h1 h2 => exact ⟨_, _, rfl, .inr h1, h2⟩
  | _ =>
    obtain ⟨a, vs, e, h1, h2⟩ := lst_at rs r h
    exact ⟨a, vs, e, .inl h1, h2⟩
theorem m_join : SMx X "str.join" joinX := by
  refine ⟨_, mt_join, fun T P m S H s xs ds d Q rs r e q => ?_⟩
  unfold joinX at e
  split at e
  · rename_i d0
    obtain ⟨v, rfl, rv⟩ := rs_one r
    cases hl : seqOf S d0 with
    | none => rw [hl] at e; cases e
    | some zs =>
      rw [hl, Option.bind_some] at e
      cases hs : strsOf zs with
      | none => rw [hs] at e; cases e
      | some ss =>
        rw [hs, Option.bind_some] at e
        split at e
        · rename_i hz
          cases e
          obtain ⟨p, vs, rfl, hp, hr⟩ := seq_at rs rv hl
          have ev := strs_at hr hs
          subst ev
          have ez := of_decide_eq_true hz
          refine ⟨tx s, p, ss.map tx, rfl, rfl, by rw [List.map_map]; exact hp, ?_, ?_⟩
          · rw [List.map_map, List.length_map]
            have : (ss.map ((fun y : Str => y.length) ∘ tx)) = ss.map (·.length) := by
              refine List.map_congr_left fun z _ => ?_
              exact tx_len z
            rw [this, tx_len]
            exact ez
          · rw [join_tx]
            exact q _ (.str _)
        · cases e
  · cases e
/-- how often a sign stands in a text -/
@[simp] def countS (s : List Nat) (ds : List D) : Option D := match ds with
  | [.str t] => some (.int (Txt.count (tx s) (tx t)))
  | _ => none
theorem m_countS : SMs X "str.count" countS := by
  refine ⟨_, mt_count, fun K T P m S H s xs ds d Q rs r e q => ?_⟩
  unfold countS at e
  split at e
  · obtain ⟨v, rfl, rv⟩ := rs_one r
    cases rv
    cases e
    exact ⟨_, _, rfl, rfl, q _ (.int _)⟩
  · cases e
@[simp] def startsS (s : List Nat) (ds : List D) : Option D := match ds with
  | [.str t] => some (.bl (Txt.startswith (tx s) (tx t)))
  | _ => none
theorem m_startsS : SMs X "str.startswith" startsS := by
  refine ⟨_, mt_startswith, fun K T P m S H s xs ds d Q rs r e q => ?_⟩
  unfold startsS at e
  split at e
  · obtain ⟨v, rfl, rv⟩ := rs_one r
    cases rv
    cases e
    exact ⟨_, _, rfl, rfl, q _ (.bl _)⟩
  · cases e
@[simp] def isalphaS (s : List Nat) (ds : List D) : Option D := match ds with
  | [] => some (.bl (Txt.isalpha (tx s)))
  | _ => none
theorem m_isalphaS : SMs X "str.isalpha" isalphaS := by
  refine ⟨_, mt_isalpha, fun K T P m S H s xs ds d Q rs r e q => ?_⟩
  unfold isalphaS at e
  split at e
  · cases r
    cases e
    exact ⟨_, rfl, rfl, trivial, q _ (.bl _)⟩
  · cases e
/-! ### a text many times -/
@[simp] def mulS (_ : Store) (x y : D) : Option D := match x, y with
  | .str s, .int k => if (decide (-1000000 ≤ k) && decide (k ≤ 1000000) && decide (s.length * k.toNat ≤ 16777216) && decide (s.length ≤ 1000000)) = true then some (.str (List.replicate k.toNat s).flatten) else none
  | _, _ => none
theorem rep_fold (c : Array Nat) : ∀ (n : Nat) (acc : Array Nat), ((List.replicate n c).foldl (· ++ ·) acc).toList = acc.toList ++ (List.replicate n c.toList).flatten
  | 0, acc => by simp
  | n + 1, acc => by
    rw [List.replicate_succ, List.foldl_cons, rep_fold c n]
    simp [List.replicate_succ]
theorem mul_tx (s : List Nat) (k : Int) : Txt.mul (tx s) k = tx (List.replicate k.toNat s).flatten := by
  unfold Txt.mul
  by_cases h1 : k < 1
  · rw [if_pos h1, show k.toNat = 0 by omega]
    rfl
  · rw [if_neg h1]
    split
    · rename_i h2
      rcases Bool.or_eq_true_iff.mp h2 with h2 | h2
      · have : k = 1 := by simpa using h2
        subst this
        simp
      · have : s = [] := List.eq_nil_of_length_eq_zero (by rw [← tx_len]; simpa using h2)
        subst this
        simp
    · have e := rep_fold (tx s).cps k.toNat #[]
      have e2 : ((List.replicate k.toNat (tx s).cps).foldl (· ++ ·) #[]) = (List.replicate k.toNat s).flatten.toArray := by
        apply Array.toList_inj.mp
        rw [e]
        simp
      rw [e2]
theorem o_mulS : SOp X T (binaryOp .Mult) mulS := by
  refine ⟨fun x y H Q => ∃ (s : List Nat) (k : Int), x = .str (tx s) ∧ y = .int k ∧ -1000000 ≤ k ∧ k ≤ 1000000 ∧ s.length * k.toNat ≤ 16777216 ∧ s.length ≤ 1000000 ∧ Q (.str (tx (List.replicate k.toNat s).flatten)) H, ?_, ?_⟩
  · intro pins st σ H x y v u Q I rx ry ⟨s, k, e1, e2, h1, h2, h3, h4, q⟩
    subst e1 e2
    obtain ⟨t, rfl⟩ := rx
    obtain ⟨t2, rfl⟩ := ry
    refine SB.mul ⟨?_, fun a1 a2 => ?_, fun a1 a2 => ?_⟩ fun t' j => ?_
    · simp; omega
    · rw [tx_len]
      have hk : 1 ≤ k := by omega
      have : (2 ^ 63 - 1 : Int) / k ≥ 1000000 := by
        refine Int.le_ediv_of_mul_le (by omega) ?_
        have : (1000000 : Int) * k ≤ 1000000 * 1000000 := by omega
        omega
      omega
    · rw [tx_len]
      unfold Builtin.Str.tooLong
      simp
      rw [sizeLine_eq]
      omega
    · exact ⟨.str _, H, I.tok _, ⟨t', by rw [← mul_tx]⟩, q⟩
  · intro P m S H x y dx dy d Q rs rx ry e q
    unfold mulS at e
    split at e
    · split at e
      · rename_i hb
        cases e
        cases rx
        cases ry
        simp only [Bool.and_eq_true, decide_eq_true_eq] at hb
        exact ⟨_, _, rfl, rfl, hb.1.1.1, hb.1.1.2, hb.1.2, hb.2, q H _ (fun _ _ e => e) (.str _)⟩
      · cases e
    · cases e
/-! ### backwards -/
@[simp] def eRev (f : EM) : EM := fun ρ S => (f ρ S).bind fun d S1 => give ((lstOf S1 d).map fun xs => .lst xs.reverse) S1
theorem s_rev {k : Nat} {p1 p2 p3 : Pos} {f : EM} (he : SE X T W e f) : SE X T W (.Subscript e (.Slice none none (some (.UnaryOp .USub (.Constant (.int 1) k p1) p2)) p3) pos) (eRev f) := by
  refine PE.mono (pe_revL he) fun σ H Q ⟨P, m, S, ρ, rs, re, h⟩ => ?_
  refine tE.use rs re h fun m1 S1 H1 d v x1 rs1 re1 r1 h1 => ?_
  obtain ⟨z, ez, q⟩ := h1.give rs1
  cases hl : lstOf S1 d with
  | none => rw [hl] at ez; cases ez
  | some xs =>
    rw [hl] at ez
    cases ez
    obtain ⟨a, vs, rfl, hq, hr⟩ := lst_at rs1 r1 hl
    exact ⟨a, vs, rfl, hq, fun p hp => q _ _ (grow_upd hp) (frz_upd rs1 hp hr.reverse)⟩
/-! ### a list unpacked -/
inductive Tl where
  | nm (i : Nat)
def putL : List Nat → List D → Ev → Option Ev
  | [], [], ρ => some ρ
  | i :: is, d :: ds, ρ => putL is ds (ρ.set i (some d))
  | _, _, _ => none
theorem putL_puts : ∀ (is : List Nat) (ds : List D) (ρ : Ev), putL is ds ρ = Tg.puts (is.map .nm) ds ρ
  | [], [], ρ => by simp [putL, Tg.puts]
  | i :: is, d :: ds, ρ => by
    show putL is ds _ = _
    rw [putL_puts is ds]
    simp [Tg.puts, Tg.put]
  | [], _ :: _, ρ => by simp [putL, Tg.puts]
  | _ :: _, [], ρ => by simp [putL, Tg.puts]
@[simp] def sUnl (is : List Nat) (f : EM) : SM := fun ρ S => (f ρ S).sb ρ fun d S1 => match (lstOf S1 d).bind fun ds => putL is ds ρ with
  | some ρ1 => .nx ρ1 S1
  | none => .stuck
theorem s_unl {tes : List Expr} {kk : Nat} {tp : Pos} {is : List Nat} {f : EM} (hc : X.calm = true) (he : SE X T W e f) (hg : PGs X tes (tGs X.K T (is.map .nm)))
    (hn : (assignEach tes X.env).length = is.length := by rfl) (hst : (assignEach tes X.env).findIdx? (·.1) = none := by rfl)
    (hs : swapsWithSole [.Tuple tes kk tp] e pos.line X.env = pure false := by rfl) (hw : swappedStores [.Tuple tes kk tp] e X.env = pure none := by rfl)
    (h1 : (assignEach [.Tuple tes kk tp] X.env).map (·.2) = [assign (.Tuple tes kk tp) X.env] := by rfl) : S1 X T W (.Assign [.Tuple tes kk tp] e pos) (sUnl is f) := by
  refine PS.mono (ps_asg he (pg_unl hc hg hn hst) hs hw h1) fun D σ H ⟨P, m, S, ρ, rs, re, h⟩ => ?_
  refine tE.suse rs re h fun m1 S1 H1 d v x1 rs1 re1 r1 h1 => ?_
  cases hl : lstOf S1 d with
  | none => rw [hl] at h1; exact h1.elim
  | some ds =>
    rw [hl, Option.bind_some] at h1
    cases hp : putL is ds ρ with
    | none => rw [hp] at h1; exact h1.elim
    | some ρ1 =>
      rw [hp] at h1
      obtain ⟨a, vs, rfl, hq, hr⟩ := lst_at rs1 r1 hl
      rw [putL_puts] at hp
      have hlen := Tg.puts_len hp
      refine ⟨a, vs, rfl, hq, by rw [← hr.length, ← hlen, List.length_map], P, m1, S1, ρ, ds, ρ1, rs1, re1, hr, hp, fun σ' re' _ => ?_⟩
      exact h1 m1 H1 σ' .refl rs1 re'
/-! ### a def out of a list of defs -/
structure FnAt (X : Cx) (T : Tab) (j : Nat) (f : Addr) (g : FM) : Prop where
  ex : ∃ (k : Nat) (fd : FuncData) (ps : List Str), k ≤ j ∧ FnOk X.prog X.w X.K X.mg X.base (L2.CX X.prog X.w) k f fd ps (spOf X.K T g) ∧ PySem.W.keepIn X.K (.ref f) = true ∧ Binds X.K fd ps []
inductive FnsAt (X : Cx) (T : Tab) (j : Nat) : List Addr → List FM → Prop
  | nil : FnsAt X T j [] []
  | cons {f : Addr} {g : FM} {fs : List Addr} {gs : List FM} : FnAt X T j f g → FnsAt X T j fs gs → FnsAt X T j (f :: fs) (g :: gs)
theorem FnsAt.get {j : Nat} : ∀ {fs : List Addr} {gs : List FM} {i : Nat} {g : FM}, FnsAt X T j fs gs → gs[i]? = some g → ∃ f, fs[i]? = some f ∧ FnAt X T j f g
  | _, _, _, _, .nil, h => by simp at h
  | _, _, 0, _, .cons a _, h => by simp at h; subst h; exact ⟨_, rfl, a⟩
  | _, _, i + 1, _, .cons _ r, h => by
    obtain ⟨f, h1, h2⟩ := FnsAt.get (i := i) r (by simpa using h)
    exact ⟨f, by simpa using h1, h2⟩
theorem FnsAt.length {j : Nat} : ∀ {fs : List Addr} {gs : List FM}, FnsAt X T j fs gs → fs.length = gs.length
  | _, _, .nil => rfl
  | _, _, .cons _ r => by simp [r.length]
def tRefs (fs : List Addr) : TA := fun _ H Q => Q (fs.map V.ref) H
theorem pr_nil : PA X [] (tRefs []) := ⟨fun pos pins s σ H Q I h => (pa_nil (X := X)).run pos pins s σ H Q I h⟩
theorem pr_cons {x : Str} {f : Addr} {fs : List Addr} {es : List Expr} {p : Pos} (hg : Gl X x) (hm : X.mg x = some (.ref f)) (hr : PA X es (tRefs fs)) (hd : (x == ("__debug__" : Str)) = false := by decide)
    (hs : starEach (.Name x p :: es) X.env = (false, eval (.Name x p) X.env) :: starEach es X.env := by rfl) : PA X (.Name x p :: es) (tRefs (f :: fs)) :=
  ⟨fun pos pins s σ H Q I h => (pa_cons (pe_glob (v := .ref f) hg hm rfl hd) hr hs).run pos pins s σ H Q I h⟩
@[simp] def eCallIx (gs : List FM) (fi : EM) (a : AM) : EM := fun ρ S => (fi ρ S).bind fun d S1 => match d with
  | .int i => (match atI gs i with
    | some g => (a ρ S1).bind fun ds S2 => g ds S2
    | none => .stuck)
  | _ => .stuck
theorem s_callIx {names : List Expr} {ix : Expr} {fs : List Addr} {gs : List FM} {fi : EM} {j : Nat} {p0 p1 : Pos} (F : FnsAt X T j fs gs) (hr : Room j X.A) (tk : Takes X W) (hl : PA X names (tRefs fs)) (hix : SE X T W ix fi) (ha : SA X T W (e :: es) a)
    (hlen : big gs.length = true := by rfl) (hpx : PlainIx ix := by exact fun _ _ => rfl)
    (he : starEach (e :: es) X.env = (false, eval e X.env) :: starEach es X.env := by rfl) (hpl : (backTo pos (starEach es X.env)).any (·.1) = false := by rfl) :
    SE X T W (.Call (.Subscript (.List names p0) ix p1) (e :: es) [] pos) (eCallIx gs fi a) := by
  refine ⟨fun pins s σ H Q I ⟨P, m, S, ρ, rs, re, h⟩ => ?_⟩
  show wpAny _ _ (do callWith pos (← eval (.Subscript (.List names p0) ix p1) X.env) [] (backTo pos (starEach (e :: es) X.env)) (backToKw pos (keywordEach [] X.env))) _ _ _
  have hread : tOp (rIxL X.K) (tLst (tRefs fs)) (tE X.K T W fi) σ H (fun v H1 => ∃ f g m1 S1, v = .ref f ∧ FnAt X T j f g ∧ RS X.K T P m1 S1 H1 ∧ RE X.K m1 (Lv P m1 S1) H1 ρ σ ∧ Meets X.K T P m1 S1 H1 (WN T W σ) (GD X.K P Q) ((a ρ S1).bind fun ds S2 => g ds S2)) := by
    refine ⟨by rw [List.length_map, F.length]; exact big_ok hlen, fun p hp => ?_⟩
    have x0 : Ext m S H m S (L2.upd H p (.lst (fs.map V.ref))) := ext_upd hp
    have rs0 := rs.upd (o := .lst (fs.map V.ref)) hp
    refine tE.use rs0 (re.ext x0 rs) (Meets.shift x0 h) fun m1 S1 H1 d v x1 rs1 re1 r1 h1 => ?_
    cases d with
    | int i =>
      cases r1
      dsimp only at h1
      cases hi : atI gs i with
      | none => rw [hi] at h1; exact h1.elim
      | some g =>
        rw [hi] at h1
        have hpl : H1 p = some (.lst (fs.map V.ref)) := x1.keep p _ upd_same fun l => rs.fresh hp (.inr l)
        have hat : ∃ f, atI fs i = some f ∧ FnAt X T j f g := by
          unfold atI at hi ⊢
          rw [F.length]
          cases hk : ixN gs.length i with
          | none => rw [hk] at hi; cases hi
          | some n =>
            rw [hk] at hi
            exact F.get hi
        obtain ⟨f, hf, hF⟩ := hat
        refine ⟨p, _, i, .ref f, rfl, rfl, SqL.of hpl, ?_, f, g, m1, S1, rfl, hF, rs1, re1, h1⟩
        unfold atI at hf ⊢
        rw [List.length_map]
        cases hk : ixN fs.length i with
        | none => rw [hk] at hf; cases hf
        | some n =>
          rw [hk] at hf
          rw [Option.bind_some] at hf ⊢
          rw [List.getElem?_map, hf]
          rfl
    | _ => exact h1.elim
  refine wpAny_bind (thn ((pe_ix ix_list (pe_lst hl) hix hpx).run pins s σ H _ I hread) fun u s1 ⟨v, H1, I1, r1, f, g, m1, S1, ev, ⟨k, fd, ps, hk, Fk, kp, hb⟩, rs1, re1, h1⟩ => ?_)
  subst ev
  obtain rfl : u = .ref f := r1
  refine PySem.W.callWith_K (h₀ := X.base) I1.ok.mod.kin kp (thn (ha.run pos pins s1 σ H1 (fun vs H2 => spOf X.K T g vs H2 Q (fun cls d H' => W cls d σ H')) I1 ?_) fun us s2 ⟨vs, H2, I2, r, q⟩ => ⟨I2.kIn, ?_⟩) he hpl
  · exact tA.use rs1 re1 h1 fun m2 S2 H2 ds vs x2 rs2 re2 r2 h2 => ⟨P, m2, S2, ds, rs2, r2, h2⟩
  · exact run_fnS (E := fun σ cls d H' => W cls d σ H') Fk (hr.mono hk) hb (passAt tk σ) I2 r q
end
end Sm
/-! ## Sm16 -/
/-! Sm16: a, b, c = x, y, z of plain local names. -/
namespace Sm
open PySem PySem.Spec PyProof.Rows L2 RZ SmT
def three (i j l : Nat) (ds : List D) (ρ : Ev) (S : Store) : SR := match ds with
  | [d, e, f] => .nx (((ρ.set i (some d)).set j (some e)).set l (some f)) S
  | _ => .stuck
theorem three_put (i j l : Nat) (ds : List D) (ρ : Ev) (S : Store) : (match (Tg.tup [.nm i, .nm j, .nm l]).put (.tup ds) ρ with
  | some ρ1 => SR.nx ρ1 S
  | none => .stuck) = three i j l ds ρ S := by
  have p1 : ∀ i d (ρ : Ev), (Tg.nm i).put d ρ = some (ρ.set i (some d)) := fun i d ρ => by unfold Tg.put; rfl
  have p0 : ∀ ρ : Ev, Tg.puts [] [] ρ = some ρ := fun ρ => by unfold Tg.puts; rfl
  match ds with
  | [d, e, f] =>
    have : (Tg.tup [.nm i, .nm j, .nm l]).put (.tup [d, e, f]) ρ = some (((ρ.set i (some d)).set j (some e)).set l (some f)) := by
      unfold Tg.put
      simp only [Tg.puts, p1, p0, Option.bind_some]
    rw [this]; rfl
  | [] => unfold Tg.put; simp only [Tg.puts, p1, Option.bind_some]; rfl
  | [d] => unfold Tg.put; simp only [Tg.puts, p1, Option.bind_some]; rfl
  | [d, e] => unfold Tg.put; simp only [Tg.puts, p1, Option.bind_some]; rfl
  | d :: e :: f :: g :: r => unfold Tg.put; simp only [Tg.puts, p1, Option.bind_some]; rfl
theorem asg_three (i j l : Nat) (fa : AM) (ρ : Ev) (S : Store) (W : SR → Prop) (hW : ¬ W .stuck) (h : W (sAsg (.tup [.nm i, .nm j, .nm l]) (eTup fa) ρ S)) : W ((fa ρ S).sb ρ fun ds S1 => three i j l ds ρ S1) := by
  unfold sAsg eTup at h
  cases hf : fa ρ S with
  | ok ds S1 =>
    rw [hf] at h
    show W (three i j l ds ρ S1)
    have h2 : W ((if big ds.length = true then Res.ok (D.tup ds) S1 else Res.stuck).sb ρ fun d S1 => match (Tg.tup [.nm i, .nm j, .nm l]).put d ρ with
      | some ρ1 => SR.nx ρ1 S1
      | none => .stuck) := h
    by_cases hl : big ds.length = true
    · rw [if_pos hl] at h2
      have h3 : W (match (Tg.tup [.nm i, .nm j, .nm l]).put (.tup ds) ρ with
        | some ρ1 => SR.nx ρ1 S1
        | none => .stuck) := h2
      rw [three_put] at h3
      exact h3
    · rw [if_neg hl] at h2
      exact absurd h2 hW
  | exc c S1 => rw [hf] at h; exact h
  | stuck => rw [hf] at h; exact h
theorem s_par3 {X : Cx} {T : Tab} {W : WX} {i j l : Nat} {x y z : Str} {a b c : Expr} {fa : AM} {px py pz pt pos : Pos} {kt k2 pt2} (hc : X.calm = true) (hN : X.N.Nodup) (hi : X.N[i]? = some x) (hj : X.N[j]? = some y) (hl : X.N[l]? = some z) (hij : i ≠ j) (hil : i ≠ l) (hjl : j ≠ l)
    (hx : X.env.scope.names.lookup x = some .local) (hy : X.env.scope.names.lookup y = some .local) (hz : X.env.scope.names.lookup z = some .local) (ha : SA X T W [a, b, c] fa)
    (hw : swappedStores [.Tuple [.Name x px, .Name y py, .Name z pz] kt pt] (.Tuple [a, b, c] k2 pt2) X.env = pure (some [x, y, z]) := by rfl)
    (hs : swapsWithSole [.Tuple [.Name x px, .Name y py, .Name z pz] kt pt] (.Tuple [a, b, c] k2 pt2) pos.line X.env = pure false := by rfl) :
    S1 X T W (.Assign [.Tuple [.Name x px, .Name y py, .Name z pz] kt pt] (.Tuple [a, b, c] k2 pt2) pos) (sAsg (.tup [.nm i, .nm j, .nm l]) (eTup fa)) := by
  refine PS.mono (ps_par3 hc hN hi hj hl hij hil hjl hx hy hz ha hw hs) fun E σ H ⟨P, m, S, ρ, rs, re, h⟩ => ?_
  have h' := asg_three i j l fa ρ S _ (fun z => z) h
  refine tA.suse rs re h' fun m1 S1 H1 ds vs x1 rs1 re1 r1 h1 => ?_
  match ds, r1, h1 with
  | [d, e, f], .cons ra (.cons rb (.cons rc .nil)), h1 => exact ⟨_, _, _, rfl, h1 m1 H1 _ .refl rs1 (((re1.set ra i).set rb j).set rc l)⟩
  | [], _, h1 => exact h1.elim
  | [_], _, h1 => exact h1.elim
  | [_, _], _, h1 => exact h1.elim
  | _ :: _ :: _ :: _ :: _, _, h1 => exact h1.elim
end Sm
/-! ## Sm17 -/
/-! Sm17: sets of tuples of ints and texts; sorted. -/
namespace SmT
open PySem PySem.Spec PyProof.Rows L2
section
variable {P : Program} {w : World} {A : Around} {E : Value → Shared → Prop} {s : Shared}
/-- at a stands a tuple whose items are the leaves k -/
abbrev TupL (P : Program) (w : World) (h : Heap) (k : List Leaf) (a : Addr) : Prop := IsTupleKey (leafKind P w) h k a
abbrev hshL (P : Program) (w : World) (k : List Leaf) : Int := tupleKeyHash (leafKind P w) k
/-- a leaf's value is no address: it tells of no class, its hash is by value or is not -/
theorem leaf_plain {l : Leaf} {v : Value} (h : (leafKind P w).is l v = true) (n : Nat) : ofAClassStatement n v = pure false ∧ ∃ b, hashByValue n v = pure b := by
  cases l with
  | none => cases Leaf.nested (h := default) (show Leaf.isOf .none v = true from h); exact ⟨by cases n <;> rfl, _, by cases n <;> rfl⟩
  | num i => cases Leaf.nested (h := default) (show Leaf.isOf (.num i) v = true from h) <;> exact ⟨by cases n <;> rfl, _, by cases n <;> rfl⟩
  | text x => cases Leaf.nested (h := default) (show Leaf.isOf (.text x) v = true from h); exact ⟨by cases n <;> rfl, _, by cases n <;> rfl⟩
theorem leaves_plain {k : List Leaf} {vs : List Value} (h : ItemsAre (leafKind P w) k vs) (n : Nat) : ∀ v ∈ vs, ofAClassStatement n v = pure false ∧ ∃ b, hashByValue n v = pure b := by
  induction h with
  | nil => intro v hv; cases hv
  | cons hx _ ih =>
    intro v hv
    rcases List.mem_cons.mp hv with rfl | hv
    · exact leaf_plain hx n
    · exact ih v hv
/-- a tuple of leaves is of no class statement -/
theorem class_tup {k : List Leaf} {b : Addr} {Q : Bool → Shared → Prop} (hk : TupL P w s.heap k b) (h : Q false s) : wpAny (model P w) A (ofAClassStatement 8 (.ref b)) Q E s := by
  obtain ⟨o, its, n, ho, hc, hd, hi⟩ := id hk
  have pl := leaves_plain hi 7
  unfold ofAClassStatement
  refine wpAny_bind (wpAny_typeOf hk.typeIs ?_)
  simp only [show (("tuple" : String) == "tuple") = true from rfl, if_true]
  refine wpAny_bind (wpAny_pure ?_)
  simp only [Bool.not_true, Bool.false_eq_true, if_false]
  refine wpAny_bind (wpAny_seqItems ho hd ?_)
  refine wpAny_bind ?_
  show wpAny _ _ (forIn its _ _) _ _ s
  rw [← Array.forIn_toList]
  refine wpAny_forIn_list _ (fun rest st z => st.1 = none ∧ z = s ∧ ∀ v ∈ rest, ofAClassStatement 7 v = pure false) _ (fun v rest st z hz => ?_) (fun st z hz => ?_) _ _ ⟨rfl, rfl, fun v hv => (pl v hv).1⟩
  · obtain ⟨-, rfl, all⟩ := hz
    rw [all v (by simp)]
    exact wpAny_bind (wpAny_pure (wpAny_pure ⟨rfl, rfl, fun u hu => all u (by simp [hu])⟩))
  · obtain ⟨st1, st2⟩ := st
    obtain ⟨e, rfl, -⟩ := hz
    cases e
    exact wpAny_pure h
/-- whether a tuple's hash is by value: the one or the other -/
theorem byValue_tup {k : List Leaf} {b : Addr} {Q : Bool → Shared → Prop} (hk : TupL P w s.heap k b) (h : ∀ r, Q r s) : wpAny (model P w) A (hashByValue 8 (.ref b)) Q E s := by
  obtain ⟨o, its, n, ho, hc, hd, hi⟩ := id hk
  have pl := leaves_plain hi 7
  unfold hashByValue
  refine wpAny_bind (wpAny_specialOf hk.typeIs F.slot_tuple_hash.lookup ?_)
  refine wpAny_bind (wpAny_seqItems ho hd ?_)
  refine wpAny_bind ?_
  show wpAny _ _ (forIn its _ _) _ _ s
  rw [← Array.forIn_toList]
  refine wpAny_forIn_list _ (fun rest st z => z = s ∧ st.1 = none ∧ ∀ v ∈ rest, ∃ b, hashByValue 7 v = pure b) _ (fun v rest st z hz => ?_) (fun st z hz => ?_) _ _ ⟨rfl, rfl, fun v hv => (pl v hv).2⟩
  · obtain ⟨rfl, -, all⟩ := hz
    obtain ⟨r, er⟩ := all v (by simp)
    rw [er]
    refine wpAny_bind (wpAny_pure ?_)
    cases r with
    | true => exact wpAny_pure ⟨rfl, rfl, fun u hu => all u (by simp [hu])⟩
    | false => exact wpAny_pure (wpAny_pure (h false))
  · obtain ⟨st1, st2⟩ := st
    obtain ⟨rfl, e, -⟩ := hz
    cases e
    exact wpAny_pure (h true)
/-- a search among such tuples shows nothing -/
theorem quiet_tups {k : List Leaf} {b : Addr} {Q : Bool → Shared → Prop} (hk : TupL P w s.heap k b) {ys : List Value} (hy : ∀ y ∈ ys, ∃ c q, y = Value.ref c ∧ TupL P w s.heap q c) (h : Q false s) : wpAny (model P w) A (searchCouldBeSeen (.ref b) ys) Q E s := by
  unfold searchCouldBeSeen
  refine wpAny_bind (wpAny_forIn_list _ (fun rest st z => st.1 = none ∧ z = s ∧ ∀ y ∈ rest, ∃ c q, y = Value.ref c ∧ TupL P w s.heap q c) _ (fun v rest st z hz => ?_) (fun st z hz => ?_) _ _ ⟨rfl, rfl, hy⟩)
  · obtain ⟨-, rfl, all⟩ := hz
    obtain ⟨c, q, rfl, hq⟩ := all v (by simp)
    have go : ∀ y ∈ rest, ∃ c q, y = Value.ref c ∧ TupL P w z.heap q c := fun u hu => all u (by simp [hu])
    dsimp only
    split
    · exact wpAny_pure ⟨rfl, rfl, go⟩
    · refine wpAny_bind (wpAny_eqIsQuiet_tuple hk ?_)
      simp only [Bool.not_true, Bool.false_eq_true, if_false]
      refine wpAny_bind (wpAny_eqIsQuiet_tuple hq ?_)
      simp only [Bool.not_true, Bool.false_eq_true, if_false]
      refine wpAny_bind (class_tup hk ?_)
      simp only [Bool.false_eq_true, if_false]
      refine wpAny_bind (class_tup hq ?_)
      simp only [Bool.false_eq_true, if_false]
      exact wpAny_pure ⟨rfl, rfl, go⟩
  · obtain ⟨st1, st2⟩ := st
    obtain ⟨e, rfl, -⟩ := hz
    cases e
    exact wpAny_pure h
/-! ### the set in the heap -/
abbrev KA := Addr × List Leaf
def rowL (P : Program) (w : World) (p : KA) : Int × Value := (hshL P w p.2, .ref p.1)
/-- at a stands a set of the tuples L, its table in order -/
structure SetL (P : Program) (w : World) (h : Heap) (a : Addr) (L : List KA) (es : Array (Int × Value)) (ep : Nat) (t : SetTable) : Prop where
  obj : ∃ o, h.get? a = some o ∧ o.ExactSet ∧ o.data = .set es ep t
  rows : es.toList = L.map (rowL P w)
  tab : TabOk t (L.map fun p => hshL P w p.2)
  nd : (L.map (·.2)).Nodup
  tup : ∀ p ∈ L, TupL P w h p.2 p.1
  led : w.params.followText "set-order" = true ∨ t.led = true
  room : L.length * 5 < t.mask * 3
  few : L.length ≤ 76
variable {a : Addr} {L : List KA} {es : Array (Int × Value)} {ep : Nat} {t : SetTable}
theorem SetL.size (R : SetL P w s.heap a L es ep t) : es.size = L.length := by
  rw [← Array.length_toList, R.rows, List.length_map]
theorem SetL.psz (R : SetL P w s.heap a L es ep t) : t.place.size = L.length := by
  have := R.tab.sz
  rwa [List.length_map] at this
theorem SetL.fits (R : SetL P w s.heap a L es ep t) : t.fits es.size = true := by
  have h1 := R.psz
  have h2 := R.size
  have h3 := R.room
  have h4 : t.fill = L.length := by
    unfold SetTable.fill
    rw [R.tab.dm]
    exact h1
  unfold SetTable.fits
  rw [h4, h1, h2]
  simp only [BEq.rfl, Bool.true_and, decide_eq_true_eq]
  omega
theorem SetL.at_ (R : SetL P w s.heap a L es ep t) {i : Nat} {p : KA} (h : L[i]? = some p) : es[i]? = some (hshL P w p.2, .ref p.1) := by
  rw [← Array.getElem?_toList, R.rows, List.getElem?_map, h]; rfl
/-- the walk's c-th probe for the hash h -/
abbrev prb (m : Nat) (h : Int) (c : Nat) : SetTable.Probe := nth m (runAt m (SetTable.bits h % (m + 1)) (SetTable.bits h)) c
theorem prb_add (m : Nat) (h : Int) (c q : Nat) : nth m (prb m h c) q = prb m h (c + q) := (nth_add m c _ q).symm
theorem prb_dummy (m : Nat) (h : Int) : ∀ c, (prb m h c).dummy = none := by
  have key : ∀ (c : Nat) (p : SetTable.Probe), p.dummy = none → (nth m p c).dummy = none := by
    intro c
    induction c with
    | zero => exact fun _ z => z
    | succ c ih =>
      intro p z
      exact ih (adv m p) (by unfold adv; split <;> exact z)
  exact fun c => key c _ rfl
/-- what stands in the search's way: from its c-th probe on, K the first that is free -/
structure Ahd (P : Program) (w : World) (L : List KA) (t : SetTable) (k : List Leaf) (K c : Nat) : Prop where
  le : c ≤ K
  still : ∀ (i : Nat) (p : KA), L[i]? = some p → p.2 = k → ∃ z, c ≤ z ∧ z < K ∧ t.place.toList[i]? = some (way t.mask (hshL P w k) z)
theorem seek (R : SetL P w s.heap a L es ep t) {x : Addr} {k : List Leaf} (hx : TupL P w s.heap k x) (hu : A.units < cLine) {K : Nat} (K1 : K < 10 * SetTable.turns t.mask) (K2 : way t.mask (hshL P w k) K ∉ t.place.toList) (K3 : ∀ c, c < K → way t.mask (hshL P w k) c ∈ t.place.toList)
    {Q : SetFound → Shared → Prop} (old : k ∈ L.map (·.2) → Q (.there none) s) (new : k ∉ L.map (·.2) → Q (.free (way t.mask (hshL P w k) K) false) s) :
    ∀ (f c : Nat) (st : Option SetTable.Probe), st.getD (t.probeStart (hshL P w k)) = prb t.mask (hshL P w k) c → K - c < f → Ahd P w L t k K c → wpAny (model P w) A (setSearchFrom a (.ref x) (hshL P w k) true f st) Q E s := by
  obtain ⟨o, ho, hex, hd⟩ := R.obj
  intro f
  induction f with
  | zero => intro c st _ hf _; omega
  | succ f ih =>
    intro c st hst hf ha
    have hcK := ha.le
    rw [setSearchFrom_succ]
    refine wpAny_bind (wpAny_setState_of ho hd R.fits ?_)
    have gw : ¬ t.gaveWay = true := by
      unfold SetTable.gaveWay
      rw [mask_odd R.tab.mok]; decide
    dsimp only
    rw [if_neg gw]
    have wq : ∀ q, (nth t.mask (prb t.mask (hshL P w k) c) q).j = way t.mask (hshL P w k) (c + q) := fun q => by rw [prb_add]
    have hsh : ∀ (i : Nat) (p : KA), L[i]? = some p → ((es[i]?).map (·.1)).getD 0 = hshL P w p.2 := fun i p hp => by rw [R.at_ hp]; rfl
    rcases go_spec t R.tab.ris R.tab.dm (fun i => (es[i]?.map (·.1)).getD 0) (hshL P w k) (10 * SetTable.turns t.mask) (K - c) (prb t.mask (hshL P w k) c) (prb_dummy _ _ c) (by omega)
      (fun q hq => by rw [wq]; exact K3 _ (by omega)) (by rw [wq, show c + (K - c) = K by omega]; exact K2) with ⟨q, i, hq, hi, hh, hno, hpr⟩ | ⟨hno, hpr⟩
    · have hp' : t.probe (fun i => (es[i]?.map (·.1)).getD 0) (hshL P w k) (st.getD (t.probeStart (hshL P w k))) = some (.candidate (way t.mask (hshL P w k) (c + q)) i (prb t.mask (hshL P w k) (c + (q + 1)))) := by
        rw [hst]
        rw [wq, prb_add] at hpr
        exact hpr
      rw [wq] at hi
      have il : i < L.length := by
        rw [← R.psz, ← Array.length_toList]
        exact (List.getElem?_eq_some_iff.mp hi).1
      obtain ⟨p, hp⟩ : ∃ p, L[i]? = some p := ⟨_, List.getElem?_eq_getElem il⟩
      have pm : p ∈ L := List.mem_of_getElem? hp
      -- behind the candidate
      have rest : wpAny (model P w) A (searchRest a (.ref x) (hshL P w k) true f es t (way t.mask (hshL P w k) (c + q)) i (prb t.mask (hshL P w k) (c + (q + 1)))) Q E s := by
        unfold searchRest
        rw [R.at_ hp]
        refine wpAny_bind (wpAny_holding (wpAny_eqBool_tuple hu (R.tup p pm) hx (wpAny_bind (wpAny_setState_of ho hd R.fits ?_))))
        by_cases e : p.2 = k
        · simp only [e, decide_true, Bool.and_true, if_true]
          exact wpAny_pure (old (List.mem_map.mpr ⟨p, pm, e⟩))
        · have sl : t.slot (way t.mask (hshL P w k) (c + q)) = .live i := slot_live R.tab.ris hi
          simp only [e, decide_false, Bool.and_false, Bool.false_eq_true, if_false, sameMem, if_true, sl, R.at_ hp]
          refine wpAny_bind (wpAny_isSame_ref_self (wpAny_bind (wpAny_pure ?_)))
          simp only [if_true]
          refine ih (c + (q + 1)) _ rfl (by omega) ⟨by omega, fun i0 p0 h0 e0 => ?_⟩
          obtain ⟨z, z1, z2, z3⟩ := ha.still i0 p0 h0 e0
          refine ⟨z, ?_, z2, z3⟩
          rcases Nat.lt_trichotomy z (c + q) with y | y | y
          · exact absurd ((hsh i0 p0 h0).trans (by rw [e0])) (hno (z - c) i0 (by omega) (by rw [wq, show c + (z - c) = z by omega]; exact z3))
          · subst y
            have s0 := slot_live R.tab.ris z3
            rw [sl] at s0
            injection s0 with s0
            rw [← s0, hp] at h0
            exact absurd ((congrArg Prod.snd (Option.some.inj h0)).trans e0) e
          · omega
      rw [hp']
      dsimp only
      by_cases hl : t.led = true
      · simp only [hl, Bool.not_true, Bool.false_eq_true, if_false]
        first | exact rest | exact wpAny_bind (wpAny_pure rest)
      · have hl : t.led = false := by simpa using hl
        simp only [hl, Bool.not_false, if_true]
        refine wpAny_bind (quiet_tups hx (fun y hy => ?_) ?_)
        · obtain ⟨r, hr, rfl⟩ := List.mem_map.mp hy
          have hr2 : r ∈ es.toList := by
            have := Array.mem_toList_iff.mp hr
            exact Array.mem_toList_iff.mpr (Array.mem_filter.mp this).1
          rw [R.rows] at hr2
          obtain ⟨p2, hp2, rfl⟩ := List.mem_map.mp hr2
          exact ⟨p2.1, p2.2, rfl, R.tup p2 hp2⟩
        · simp only [Bool.false_eq_true, if_false]
          first | exact rest | exact wpAny_bind (wpAny_pure rest)
    · have hp' : t.probe (fun i => (es[i]?.map (·.1)).getD 0) (hshL P w k) (st.getD (t.probeStart (hshL P w k))) = some (.empty (way t.mask (hshL P w k) K) none) := by
        rw [hst]
        rw [wq, show c + (K - c) = K by omega] at hpr
        exact hpr
      rw [hp']
      refine wpAny_pure (new fun hm => ?_)
      obtain ⟨p0, h0, e0⟩ := List.mem_map.mp hm
      obtain ⟨i0, hi0, rfl⟩ := List.mem_iff_getElem.mp h0
      have h00 : L[i0]? = some L[i0] := List.getElem?_eq_getElem hi0
      obtain ⟨z, z1, z2, z3⟩ := ha.still i0 _ h00 e0
      exact hno (z - c) i0 (by omega) (by rw [wq, show c + (z - c) = z by omega]; exact z3) ((hsh i0 _ h00).trans (by rw [e0]))
/-- the search as adding begins it -/
theorem seek0 (R : SetL P w s.heap a L es ep t) {x : Addr} {k : List Leaf} (hx : TupL P w s.heap k x) (hu : A.units < cLine) {Q : SetFound → Shared → Prop} (old : k ∈ L.map (·.2) → Q (.there none) s)
    (new : ∀ K, k ∉ L.map (·.2) → way t.mask (hshL P w k) K ∉ t.place.toList → (∀ c, c < K → way t.mask (hshL P w k) c ∈ t.place.toList) → Q (.free (way t.mask (hshL P w k) K) false) s) : wpAny (model P w) A (setSearch a (.ref x) (hshL P w k) true) Q E s := by
  have hr := R.room
  obtain ⟨K, K1, K2, K3⟩ := R.tab.first (by rw [List.length_map]; omega) (hshL P w k)
  have hb : 10 * SetTable.turns t.mask < 100000 := by
    unfold SetTable.turns
    rcases R.tab.mok with e | e | e <;> (rw [e]; decide)
  unfold setSearch
  refine seek R hx hu K1 K2 K3 old (fun h => new K h K2 K3) 100000 0 none rfl (by omega) ⟨Nat.zero_le _, fun i p hp e => ?_⟩
  have hi : (L.map fun p => hshL P w p.2)[i]? = some (hshL P w k) := by rw [List.getElem?_map, hp, ← e]; rfl
  have il : i < t.place.toList.length := by
    rw [Array.length_toList, R.psz]
    exact (List.getElem?_eq_some_iff.mp hp).1
  obtain ⟨c, hc, e2⟩ := R.tab.before K2 hi (List.getElem?_eq_getElem il)
  exact ⟨c, Nat.zero_le _, hc, by rw [e2]; exact List.getElem?_eq_getElem il⟩
end
/-! ### laid anew -/
theorem pick_range {α : Type} : ∀ L : List α, (List.range L.length).filterMap (fun i => L[i]?) = L
  | [] => rfl
  | x :: r => by
    rw [List.length_cons, List.range_succ_eq_map, List.filterMap_cons, List.filterMap_map]
    show x :: (List.range r.length).filterMap (fun i => r[i]?) = _
    rw [pick_range r]
theorem pick_perm {α β : Type} (L : List α) (f : α → β) (es : Array β) (hr : es.toList = L.map f) (ord : Array Nat) (hp : ord.toList.Perm (List.range L.length)) :
    (ord.filterMap fun i => es[i]?).toList = (ord.toList.filterMap fun i => L[i]?).map f ∧ (ord.toList.filterMap fun i => L[i]?).Perm L := by
  refine ⟨?_, ?_⟩
  · rw [Array.toList_filterMap, List.map_filterMap]
    congr 1
    funext i
    rw [← Array.getElem?_toList, hr, List.getElem?_map]
  · have := hp.filterMap fun i => L[i]?
    rwa [pick_range] at this
theorem pick_get {α : Type} (L : List α) (g : α → Int) (gs : Array Int) (hg : gs.toList = L.map g) : ∀ l : List Nat, (∀ i ∈ l, i < L.length) → ((l.filterMap fun i => L[i]?).map g) = l.map fun i => gs.getD i 0
  | [], _ => rfl
  | i :: l, h => by
    have hi := h i (by simp)
    have e : L[i]? = some L[i] := List.getElem?_eq_getElem hi
    have e2 : gs[i]? = some (g L[i]) := by rw [← Array.getElem?_toList, hg, List.getElem?_map, e]; rfl
    rw [List.filterMap_cons_some e, List.map_cons, List.map_cons, pick_get L g gs hg l fun j hj => h j (by simp [hj])]
    simp [Array.getD_eq_getD_getElem?, e2]
section
variable {P : Program} {w : World} {A : Around} {E : Value → Shared → Prop} {s : Shared} {a : Addr} {L : List KA} {es : Array (Int × Value)} {ep : Nat} {t : SetTable}
theorem tupL_same {h h' : Heap} {k : List Leaf} {b : Addr} {o : Obj} (hb : TupL P w h k b) (ho : h.get? a = some o) (hd : o.data = .set es ep t) (hs : Heap.SameBut a h h') : TupL P w h' k b := by
  obtain ⟨o', its, n, h1, h2, h3, h4⟩ := hb
  refine ⟨o', its, n, (hs.2 b fun z => ?_).trans h1, h2, h3, h4⟩
  subst z
  rw [ho] at h1
  cases h1
  rw [hd] at h3
  cases h3
/-- the table laid anew -/
theorem relay {o : Obj} (ho : s.heap.get? a = some o) (hex : o.ExactSet) (hd : o.data = .set es ep t) (hrows : es.toList = L.map (rowL P w)) (hsz : t.place.size = es.size) (hdm : t.dummies = #[]) (hfl : es.size ≤ t.mask) (nd : (L.map (·.2)).Nodup) (tup : ∀ p ∈ L, TupL P w s.heap p.2 p.1)
    (led : w.params.followText "set-order" = true ∨ t.led = true) (few : L.length ≤ 76) {want M : Nat} (hw : SetTable.sizeAbove want - 1 = M) (hM : MaskOk M) (hw2 : SetTable.sizeAbove want ≤ 128) (hn : L.length * 5 < M * 3) {Q : Unit → Shared → Prop}
    (q : ∀ h' L' es' ep' t', Heap.SameBut a s.heap h' → SetL P w h' a L' es' ep' t' → L'.Perm L → Q () { s with heap := h' }) : wpAny (model P w) A (setRelay a want) Q E s := by
  have hel : es.size = L.length := by rw [← Array.length_toList, hrows, List.length_map]
  have hfits : t.fits es.size = true := by
    have h4 : t.fill = t.place.size := by
      unfold SetTable.fill
      rw [hdm]; rfl
    unfold SetTable.fits
    rw [h4, hsz]
    simp only [BEq.rfl, Bool.true_and, decide_eq_true_eq]
    exact hfl
  obtain ⟨t', ord, e, hp, T, em, el, -, ed⟩ := relaid_ok t (hs := es.map (·.1)) (wanted := want) hw hM (by rw [Array.size_map, hel]; omega)
  rw [Array.size_map, hel] at hp
  obtain ⟨p1, p2⟩ := pick_perm L (rowL P w) es hrows ord hp
  have p3 := pick_get L (fun p => hshL P w p.2) (es.map (·.1)) (by rw [Array.toList_map, hrows, List.map_map]; rfl) ord.toList fun i hi => List.mem_range.mp (hp.mem_iff.mp hi)
  rw [← p3] at T
  have hs2 : (ord.filterMap fun i => es[i]?).size = es.size := by rw [← Array.length_toList, p1, List.length_map, p2.length_eq, hel]
  rw [setRelay_eq]
  refine wpAny_bind (wpAny_setState_of ho hd hfits ?_)
  dsimp only
  rw [if_neg (by rw [sizeLine_eq]; omega), e]
  dsimp only
  refine wpAny_bind ?_
  rw [if_neg (by rw [hs2]; simp)]
  refine wpAny_pure (wpAny_storeSet_of ho hd ?_ (by rw [hs2, hel, sizeLine_eq]; omega))
  have sb : Heap.SameBut a s.heap (s.heap.update a (Obj.putSet (ord.filterMap fun i => es[i]?) t')) := Heap.SameBut.update ..
  exact q _ _ _ (ep + 1) t' sb ⟨⟨_, store_at ho hd, ⟨hex.1, hex.2.1, hex.2.2⟩, rfl⟩, p1, T, (p2.map (·.2)).nodup_iff.mpr nd, fun p hpm => tupL_same (tup p (p2.mem_iff.mp hpm)) ho hd sb, by rw [el]; exact led, by rw [p2.length_eq, em]; exact hn, by rw [p2.length_eq]; exact few⟩ p2
/-- behind the putting in: laid anew where it is too full -/
theorem grow {o : Obj} (ho : s.heap.get? a = some o) (hex : o.ExactSet) (hd : o.data = .set es ep t) (hrows : es.toList = L.map (rowL P w)) (T : TabOk t (L.map fun p => hshL P w p.2)) (nd : (L.map (·.2)).Nodup) (tup : ∀ p ∈ L, TupL P w s.heap p.2 p.1)
    (led : w.params.followText "set-order" = true ∨ t.led = true) (few : L.length ≤ 76) (hm : (L.length - 1) * 5 < t.mask * 3) (hf : t.fill = L.length) (h1 : 1 ≤ L.length) {Q : Bool → Shared → Prop}
    (q : ∀ h' L' es' ep' t', Heap.SameBut a s.heap h' → SetL P w h' a L' es' ep' t' → L'.Perm L → Q true { s with heap := h' }) {n : Nat} (hn : n = L.length) :
    wpAny (model P w) A (if (!false && t.tooFull) = true then (do setRelay a (SetTable.grown n); pure true) else pure true) Q E s := by
  subst hn
  have hel : es.size = L.length := by rw [← Array.length_toList, hrows, List.length_map]
  have hsz : t.place.size = es.size := by
    have := T.sz
    rw [List.length_map] at this
    rw [this, hel]
  by_cases hfull : t.tooFull = true
  · rw [if_pos (by rw [hfull]; rfl)]
    unfold SetTable.tooFull at hfull
    rw [hf] at hfull
    have hfull := of_decide_eq_true hfull
    have two : (t.mask = 7 ∧ L.length = 5) ∨ (t.mask = 31 ∧ L.length = 19) := by
      rcases T.mok with e | e | e
      · rw [e] at hfull hm; exact .inl ⟨e, by omega⟩
      · rw [e] at hfull hm; exact .inr ⟨e, by omega⟩
      · rw [e] at hfull hm; omega
    refine wpAny_bind ?_
    rcases two with ⟨e1, e2⟩ | ⟨e1, e2⟩
    · rw [e2]
      exact relay ho hex hd hrows hsz T.dm (by omega) nd tup led few (M := 31) (by rw [size_20]) (.inr (.inl rfl)) (by rw [size_20]; decide) (by omega) fun h' L' es' ep' t' x1 x2 x3 => wpAny_pure (q h' L' es' ep' t' x1 x2 x3)
    · rw [e2]
      exact relay ho hex hd hrows hsz T.dm (by omega) nd tup led few (M := 127) (by rw [size_76]) (.inr (.inr rfl)) (by rw [size_76]; decide) (by omega) fun h' L' es' ep' t' x1 x2 x3 => wpAny_pure (q h' L' es' ep' t' x1 x2 x3)
  · rw [if_neg (by simpa using hfull)]
    unfold SetTable.tooFull at hfull
    rw [hf] at hfull
    have hfull : ¬ L.length * 5 ≥ t.mask * 3 := fun z => hfull (decide_eq_true z)
    exact wpAny_pure (q s.heap L es ep t (Heap.SameBut.refl a s.heap) ⟨⟨o, ho, hex, hd⟩, hrows, T, nd, tup, led, by omega, few⟩ (List.Perm.refl _))
/-- one tuple put in -/
theorem add_in (R : SetL P w s.heap a L es ep t) {x : Addr} {k : List Leaf} (hx : TupL P w s.heap k x) (hu : A.units < cLine) (hfew : L.length + 1 ≤ 76) {Q : Bool → Shared → Prop}
    (q : ∀ b h' L' es' ep' t', Heap.SameBut a s.heap h' → SetL P w h' a L' es' ep' t' → (k ∈ L.map (·.2) → L' = L) → (k ∉ L.map (·.2) → L'.Perm ((x, k) :: L)) → Q b { s with heap := h' }) : wpAny (model P w) A (setAddHashed a (.ref x) (hshL P w k)) Q E s := by
  obtain ⟨o, ho, hex, hd⟩ := R.obj
  have hr := R.room
  unfold setAddHashed
  refine wpAny_holding ?_
  rw [show (100000 : Nat) = 99999 + 1 from rfl, setAddHashedIn_succ]
  refine wpAny_bind (wpAny_setState_of ho hd R.fits ?_)
  dsimp only
  rw [if_neg (by simp [byScan, Value.scannable])]
  refine wpAny_bind (seek0 R hx hu (fun hm => ?_) fun K hm K2 K3 => ?_)
  · exact wpAny_pure (q false s.heap L es ep t (Heap.SameBut.refl a s.heap) R (fun _ => rfl) fun z => absurd hm z)
  · dsimp only
    refine wpAny_bind (wpAny_setState_of ho hd R.fits ?_)
    dsimp only
    obtain ⟨q1, q2, q3, q4, q5, -, -, -, q9⟩ := R.tab.put K2 K3
    obtain ⟨p, hp⟩ : ∃ p, SetTable.below t.place (way t.mask (hshL P w k) K) = p := ⟨_, rfl⟩
    obtain ⟨t1, ht1⟩ : ∃ t1, (t.put (way t.mask (hshL P w k) K)).1 = t1 := ⟨_, rfl⟩
    rw [hp] at q1 q2 q3
    rw [ht1] at q3 q4 q5 q9
    have hpt : t.put (way t.mask (hshL P w k) K) = (t1, p) := by rw [← ht1, ← q1]
    rw [hpt]
    dsimp only
    have L1p : (L.take p ++ (x, k) :: L.drop p).Perm ((x, k) :: L) := by
      have := @List.perm_middle _ (x, k) (L.take p) (L.drop p)
      rwa [List.take_append_drop] at this
    have hes : (SetTable.insertAt es p (hshL P w k, Value.ref x)).toList = (L.take p ++ (x, k) :: L.drop p).map (rowL P w) := by
      rw [SetTable.toList_insertAt, R.rows, List.map_append, List.map_cons, List.map_take, List.map_drop]; rfl
    have hhs : (L.map fun p => hshL P w p.2).take p ++ hshL P w k :: (L.map fun p => hshL P w p.2).drop p = (L.take p ++ (x, k) :: L.drop p).map fun p => hshL P w p.2 := by
      rw [List.map_append, List.map_cons, List.map_take, List.map_drop]
    rw [hhs] at q3
    rw [List.length_map] at q9
    have nd1 : ((L.take p ++ (x, k) :: L.drop p).map (·.2)).Nodup := by
      refine (L1p.map (·.2)).nodup_iff.mpr ?_
      rw [List.map_cons]
      exact List.nodup_cons.mpr ⟨hm, R.nd⟩
    generalize SetTable.insertAt es p (hshL P w k, Value.ref x) = es1 at hes ⊢
    generalize L.take p ++ (x, k) :: L.drop p = L1 at L1p hes q3 nd1
    have hl1 : L1.length = L.length + 1 := L1p.length_eq
    -- whatever the table then is said to be
    have fin : ∀ t2 : SetTable, t2.place = t1.place → t2.dummies = t1.dummies → t2.mask = t1.mask → t2.led = t1.led → t2.fill = t1.fill → wpAny (model P w) A (storeSet a es1 t2 >>= fun _ => if (!false && t2.tooFull) = true then (do setRelay a (SetTable.grown (es.size + 1)); pure true) else pure true) Q E s := by
      intro t2 y1 y2 y3 y4 y5
      have T2 : TabOk t2 (L1.map fun p => hshL P w p.2) := ⟨by rw [y1]; exact q3.ris, by rw [y2]; exact q3.dm, by rw [y1]; exact q3.sz, by rw [y3]; exact q3.mok, by rw [y1, y3]; exact q3.bd, by rw [y1, y3]; exact q3.reach⟩
      have hes1 : es1.size = L1.length := by rw [← Array.length_toList, hes, List.length_map]
      refine wpAny_bind (wpAny_storeSet_of ho hd ?_ (by rw [hes1, hl1, sizeLine_eq]; omega))
      have sb : Heap.SameBut a s.heap (s.heap.update a (Obj.putSet es1 t2)) := Heap.SameBut.update ..
      have tup1 : ∀ p ∈ L1, TupL P w (s.heap.update a (Obj.putSet es1 t2)) p.2 p.1 := fun p hp => by
        rcases List.mem_cons.mp (L1p.mem_iff.mp hp) with e | hp
        · rw [e]; exact tupL_same hx ho hd sb
        · exact tupL_same (R.tup p hp) ho hd sb
      refine grow (s := { s with heap := s.heap.update a (Obj.putSet es1 t2) }) (store_at ho hd) ⟨hex.1, hex.2.1, hex.2.2⟩ rfl hes T2 nd1 tup1 (by rw [y4, q5]; exact R.led) (by omega) (by rw [hl1, y3, q4]; omega) (by rw [y5, q9, hl1]) (by omega)
        (fun h' L' es' ep' t' x1 x2 x3 => q true h' L' es' ep' t' (sb.trans x1) x2 (fun z => absurd z hm) fun _ => x3.trans L1p) (by rw [R.size, hl1])
    by_cases hpl : t1.plain = true
    · rw [if_pos hpl]
      refine wpAny_bind (byValue_tup hx fun r => ?_)
      cases r with
      | true => exact fin _ rfl rfl rfl rfl rfl
      | false => exact fin _ rfl rfl rfl rfl rfl
    · rw [if_neg hpl]
      exact wpAny_bind (wpAny_pure (fin _ rfl rfl rfl rfl rfl))
/-! ### a set out of a list -/
/-- what of the first i items is in the set -/
structure Part (ks : List KA) (i : Nat) (L : List KA) : Prop where
  sub : ∀ p ∈ L, p ∈ ks
  all : ∀ j p, j < i → ks[j]? = some p → p.2 ∈ L.map (·.2)
  len : L.length ≤ i
theorem tupL_keep {h h' : Heap} {k : List Leaf} {b : Addr} (x : TupL P w h k b) (hb : b ≠ a) (hk : ∀ c o, c ≠ a → h.get? c = some o → h'.get? c = some o) : TupL P w h' k b := by
  obtain ⟨o, its, n, ho, r⟩ := x
  exact ⟨o, its, n, hk b o hb ho, r⟩
theorem SetL.move {h h' : Heap} (R : SetL P w h a L es ep t) (ha : ∀ o, h.get? a = some o → h'.get? a = some o) (ht : ∀ p ∈ L, TupL P w h' p.2 p.1) : SetL P w h' a L es ep t := by
  obtain ⟨o, ho, r⟩ := R.obj
  exact ⟨⟨o, ha o ho, r⟩, R.rows, R.tab, R.nd, ht, R.led, R.room, R.few⟩
/-- the set's own loop over a list's iterator I: a is the set, h0 what stood before both -/
theorem upd_loop {I : Addr} {fp wr : List Addr} {G : Array GenState → Array GenState → Prop} {n : Nat} {Pv : Nat → Value → Prop} {St : Nat → Shared → Prop} {R : Result → Shared → Prop} (W : WalksS P w A.in1 I fp wr G n Pv St)
    (haf : a ∉ fp) {ks : List KA} (hn : n = ks.length) (hfew : ks.length ≤ 76) (hval : ∀ i v, Pv i v → ∃ p, ks[i]? = some p ∧ v = .ref p.1) {h0 : Heap} (hk : ∀ p ∈ ks, TupL P w h0 p.2 p.1) (hka : ∀ p ∈ ks, p.1 ≠ a) (hw0 : ∀ b ∈ wr, h0.get? b = none) (hu : A.in1.units < cLine)
    (hR : ∀ s' L es ep t, s'.os = s.os → s'.drawn = s.drawn → G s.gens s'.gens → SetL P w s'.heap a L es ep t → Part ks n L → (∀ b o, b ≠ a → h0.get? b = some o → s'.heap.get? b = some o) → R (.ok (.ret .none)) s') :
    ∀ (m i : Nat) (z : Shared), n - i = m → i ≤ n → St i z → z.os = s.os → z.drawn = s.drawn → G s.gens z.gens → (∀ b o, b ≠ a → h0.get? b = some o → z.heap.get? b = some o) → (∃ L es ep t, SetL P w z.heap a L es ep t ∧ Part ks i L) →
      codeAny (model P w) A (.builtin "set.update.loop" ⟨[.ref a, .ref I], []⟩) R z := by
  have haw : a ∉ wr := fun h => haf (W.sub _ h)
  intro m
  induction m with
  | zero =>
    intro i z hm hi hst o1 o2 o3 hkp ⟨L, es, ep, t, hS, g⟩
    obtain rfl : i = n := by omega
    refine codeAny_builtin F.entry_set_update_loop ?_
    rw [Around.under_plainId F.plain_set_update_loop _]
    refine wpAny_bind (W.done z _ _ hst fun z' mv => ?_)
    have hkp' : ∀ b o, b ≠ a → h0.get? b = some o → z'.heap.get? b = some o := fun b o y e => mv.heap b o (fun hb => by rw [hw0 b hb] at e; cases e) (hkp b o y e)
    exact wpAny_pure (hR z' L es ep t (mv.os.trans o1) (mv.drawn.trans o2) (W.gtrans _ _ _ o3 mv.gens) (hS.move (fun o e => mv.heap a o haw e) fun p hp => tupL_keep (hk p (g.sub p hp)) (hka p (g.sub p hp)) hkp') g hkp')
  | succ m ih =>
    intro i z hm hi hst o1 o2 o3 hkp ⟨L, es, ep, t, hS, g⟩
    have hlt : i < n := by omega
    refine codeAny_builtin F.entry_set_update_loop ?_
    rw [Around.under_plainId F.plain_set_update_loop _]
    refine wpAny_bind (W.item i z _ _ hlt hst fun v z' hv hst' mv => ?_)
    obtain ⟨p, hp, rfl⟩ := hval i v hv
    have hkp' : ∀ b o, b ≠ a → h0.get? b = some o → z'.heap.get? b = some o := fun b o y e => mv.heap b o (fun hb => by rw [hw0 b hb] at e; cases e) (hkp b o y e)
    have pm : p ∈ ks := List.mem_of_getElem? hp
    have hS' : SetL P w z'.heap a L es ep t := hS.move (fun o e => mv.heap a o haw e) fun q hq => tupL_keep (hk q (g.sub q hq)) (hka q (g.sub q hq)) hkp'
    have hx : TupL P w z'.heap p.2 p.1 := tupL_keep (hk p pm) (hka p pm) hkp'
    have gl := g.len
    refine wpAny_bind (wpAny_holding ?_)
    unfold setAdd
    refine wpAny_holding (wpAny_bind (wpAny_pyHash_tuple hu hx ?_))
    refine add_in (s := { z' with toks := z'.toks + (p.2.length + 1) }) hS' hx hu (by omega) fun b h' L' es' ep' t' sb hS2 c1 c2 => ?_
    have g' : Part ks (i + 1) L' := by
      by_cases c : p.2 ∈ L.map (·.2)
      · rw [c1 c]
        refine ⟨g.sub, fun j q hj hq => ?_, by omega⟩
        rcases Nat.lt_or_ge j i with y | y
        · exact g.all j q y hq
        · obtain rfl : j = i := by omega
          rw [hp] at hq
          cases hq
          exact c
      · have pr := c2 c
        refine ⟨fun q hq => ?_, fun j q hj hq => ?_, by rw [pr.length_eq]; simp; omega⟩
        · rcases List.mem_cons.mp (pr.mem_iff.mp hq) with e | e
          · rw [e]; exact pm
          · exact g.sub q e
        · rw [(pr.map (·.2)).mem_iff, List.map_cons]
          rcases Nat.lt_or_ge j i with y | y
          · exact List.mem_cons_of_mem _ (g.all j q y hq)
          · obtain rfl : j = i := by omega
            rw [hp] at hq
            cases hq
            exact List.mem_cons_self
    refine wpAny_pure ⟨plainId_quiet F.plain_set_update_loop _, ih (i + 1) _ (by omega) hlt (W.frame _ z' _ _ hst' (Nat.le_add_right _ _) fun b hb o e => ?_) (mv.os.trans o1) (mv.drawn.trans o2) (W.gtrans _ _ _ o3 mv.gens) (fun b o y e => ?_) ⟨L', es', ep', t', hS2, g'⟩⟩
    · rw [sb.2 b fun y => haf (by rw [← y]; exact hb)]; exact e
    · rw [sb.2 b y]; exact hkp' b o y e
end
end SmT
/-! ## Sm18 -/
/-! Sm18: set(list) of tuples; sorted. -/
namespace SmT
open PySem PySem.Spec PyProof.Rows L2
section
variable {P : Program} {w : World} {A : Around} {E : Value → Shared → Prop} {s : Shared} {a : Addr}
abbrev set0 (w : World) : Obj := { cls := .type "set", dict := none, data := .set #[] 0 (.fresh 0 0 (!w.params.followText "set-order")) }
theorem fresh_set {h : Heap} (ho : h.get? a = some (set0 w)) : SetL P w h a [] #[] 0 (.fresh 0 0 (!w.params.followText "set-order")) where
  obj := ⟨_, ho, ⟨rfl, rfl, rfl⟩, rfl⟩
  rows := rfl
  tab := ⟨List.Pairwise.nil, rfl, rfl, .inl rfl, fun x hx => (by cases hx), fun i h j hi => (by simp at hi)⟩
  nd := List.nodup_nil
  tup := fun p hp => (by cases hp)
  led := by
    show _ ∨ (!w.params.followText "set-order") = true
    cases w.params.followText "set-order" <;> simp
  room := by show 0 * 5 < 7 * 3; decide
  few := by show 0 ≤ 76; decide
/-- __init__ of a fresh set, with a list -/
theorem init_list {l : Addr} {ks : List KA} (hh : A.handled = none) (ho : s.heap.get? a = some (set0 w)) (hl : s.heap.IsList l (ks.map fun p => Value.ref p.1).toArray) (hk : ∀ p ∈ ks, TupL P w s.heap p.2 p.1) (hfew : ks.length ≤ 76) (hu : A.units + 3 < cLine)
    {R : Fin → Shared → Prop} (q : ∀ h' tk L es ep t, SetL P w h' a L es ep t → Part ks ks.length L → (∀ b o, b ≠ a → s.heap.get? b = some o → h'.get? b = some o) → R (.done (.ret .none)) { s with heap := h', toks := tk }) :
    wpAny (model P w) A (Builtin.«set.__init__» ⟨[.ref a, .ref l], []⟩) R E s := by
  obtain ⟨ol, hol, hcl, nl, hdl⟩ := id hl
  have hT : s.TypeIs (.ref a) "set" := ⟨_, ho, rfl⟩
  have hLT : s.TypeIs (.ref l) "list" := ⟨ol, hol, hcl⟩
  have hsls := F.sub_list_set
  have hslf := F.sub_list_frozenset
  unfold Builtin.«set.__init__» noKeywords Builtin.Frozenset.updateFrom
  generalize hPI : pyIter = PI
  wp_walk
  subst hPI
  refine wpAny_pyIter_list hl ?_
  refine wpAny_bind (wpAny_runValue ?_)
  have la : l ≠ a := fun z => by
    subst z
    rw [ho] at hol
    cases hol
    exact absurd (Value.type.inj hcl) (by decide)
  have al : a < s.heap.objs.size := Heap.lt_size ho
  have ll : l < s.heap.objs.size := Heap.lt_size hol
  have none_of : ∀ b, s.heap.objs.size ≤ b → s.heap.get? b = none := fun b hb => by
    cases q : s.heap.get? b with
    | none => rfl
    | some o => exact absurd (Nat.lt_of_lt_of_le (Heap.lt_size q) hb) (Nat.lt_irrefl _)
  have hka : ∀ p ∈ ks, p.1 ≠ a := fun p hp z => by
    obtain ⟨o, its, n, h1, h2, -⟩ := hk p hp
    rw [z, ho] at h1
    cases h1
    exact absurd (Value.type.inj h2) (by decide)
  have isz : (ks.map fun p => Value.ref p.1).toArray.size = ks.length := by simp
  refine upd_loop (s := s) ((Walks.list (by simp [hh]) s.heap.objs.size l (Nat.ne_of_lt ll) _).toS) (by simp; exact ⟨Nat.ne_of_lt al, fun z => la z.symm⟩) isz hfew (fun i v hv => ?_) hk hka (fun b hb => none_of b (by rw [List.mem_singleton.mp hb]; exact Nat.le_refl _)) (by first | (show A.units + 1 < cLine; omega) | (show A.units + 2 < cLine; omega) | (show A.units + 3 < cLine; omega) | omega)
    (fun s' L es ep t o1 o2 o3 R1 g k1 => ?_) _ 0 _ rfl (Nat.zero_le _) ⟨⟨_, Heap.get?_push_size _ rfl, rfl, rfl⟩, hl.push _⟩ rfl rfl rfl (fun b o _ e => Heap.get?_push_of_some _ e) ⟨[], #[], 0, _, fresh_set (Heap.get?_push_of_some _ ho), ⟨fun p hp => (by cases hp), fun j p hj => absurd hj (Nat.not_lt_zero j), Nat.le_refl _⟩⟩
  · have h2 : (ks.map fun p => Value.ref p.1)[i]? = some v := by simpa using hv
    rw [List.getElem?_map] at h2
    cases hq : ks[i]? with
    | none => rw [hq] at h2; cases h2
    | some p =>
      rw [hq] at h2
      exact ⟨p, rfl, (Option.some.inj h2).symm⟩
  · obtain ⟨h', g', d', tk', os'⟩ := s'
    have o1 : os' = s.os := o1
    have o2 : d' = s.drawn := o2
    have o3 : g' = s.gens := o3
    subst o1; subst o2; subst o3
    rw [isz] at g
    exact wpAny_pure (wpAny_pure (q h' tk' L es ep t R1 g k1))
/-- set(list) -/
theorem set_of_list {l : Addr} {ks : List KA} (hh : A.handled = none) (hl : s.heap.IsList l (ks.map fun p => Value.ref p.1).toArray) (hk : ∀ p ∈ ks, TupL P w s.heap p.2 p.1) (hfew : ks.length ≤ 76) (hu : A.units + 5 < cLine)
    {Q : Value → Shared → Prop} (q : ∀ h' tk L es ep t, SetL P w h' s.heap.objs.size L es ep t → Part ks ks.length L → (∀ b o, s.heap.get? b = some o → h'.get? b = some o) → Q (.ref s.heap.objs.size) { s with heap := h', toks := tk }) :
    wpAny (model P w) A (call (.type "set") [.ref l]) Q E s := by
  have ho : (s.heap.push (set0 w)).get? s.heap.objs.size = some (set0 w) := Heap.get?_push_size _ rfl
  have hT : Shared.TypeIs { s with heap := s.heap.push (set0 w) } (.ref s.heap.objs.size) "set" := ⟨_, ho, rfl⟩
  obtain ⟨c, tl, hmro⟩ := F.called_set.mro
  have hmade := F.called_set.made
  have hsub := F.called_set.sub
  have h1 := F.called_set.notType
  have h2 := F.called_set.canCreate
  have hct := F.typeCall_set_1 (.ref l)
  refine wpAny_call (codeAny_of_tree (wpAny_pure ⟨Code.quiet_builtin _ (by decide +kernel), codeAny_builtin F.entry_type_call ?_⟩))
  rw [Around.under_plain (weight_type_call_type "set" [.ref l] []) rfl]
  repeat (any_goals (first | assumption | wp_step))
  refine codeAny_mono (code_set_led1 (.ref l) (E := E) (Q₁ := fun obj s₁ => obj = .ref s.heap.objs.size ∧ s₁ = { s with heap := s.heap.push (set0 w) }) ⟨rfl, rfl⟩) fun r s₁ hr => ?_
  match r, hr with
  | .error e, hr => exact hr
  | .ok (.ret obj), hr =>
    obtain ⟨rfl, rfl⟩ := hr
    have hli := F.called_set.init.lookup
    have hbi := F.called_set.init.bind (.ref s.heap.objs.size)
    repeat (any_goals (first | assumption | wp_step))
    refine codeAny_mono (codeAny_call_builtin (R := wants (fun r s₂ => r = .none ∧ Q (.ref s.heap.objs.size) s₂) E) F.called_set.init.plain F.entry_set_init (check_set_init_1 hT ?_)) fun r₂ s₂ hr₂ => ?_
    · refine init_list (s := { s with heap := s.heap.push (set0 w) }) (by simp [hh]) ho (hl.push _) (fun p hp => ?_) hfew (by first | (show A.units + 2 + 3 < cLine; omega) | omega) fun h' tk L es ep t R1 g k1 => ?_
      · obtain ⟨o, its, n, h1, r⟩ := hk p hp
        exact ⟨o, its, n, Heap.get?_push_of_some _ h1, r⟩
      · exact ⟨rfl, q h' tk L es ep t R1 g fun b o e => k1 b o (Nat.ne_of_lt (Heap.lt_size e)) (Heap.get?_push_of_some _ e)⟩
    · match r₂, hr₂ with
      | .error e, hr₂ => exact hr₂
      | .ok (.ret r), hr₂ =>
        obtain ⟨rfl, hq⟩ := hr₂
        repeat (any_goals (first | assumption | wp_step))
      | .ok .next, hr₂ => exact hr₂.elim
      | .ok .brk, hr₂ => exact hr₂.elim
      | .ok .cont, hr₂ => exact hr₂.elim
  | .ok .next, hr => exact hr.elim
  | .ok .brk, hr => exact hr.elim
  | .ok .cont, hr => exact hr.elim
end
end SmT
/-! ## Sm19 -/
/-! Sm19: sorted of a set of tuples. -/
namespace SmT
open PySem PySem.Spec PyProof.Rows PyProof.Rows.G L2 SrtO PySem.W
section
variable {P : Program} {w : World} {A : Around} {E : Value → Shared → Prop} {s : Shared} {a : Addr} {L : List KA} {es : Array (Int × Value)} {ep : Nat} {t : SetTable}
/-- sorted(set): a new list, the set's tuples in order -/
theorem sorted_set (R : SetL P w s.heap a L es ep t) (hh : A.handled = none) {k : Value → List Atm} {n : Value → Nat} (hp : ∀ p ∈ L, IsTA s.heap (.ref p.1) (k (.ref p.1)) (n (.ref p.1)) ∧ ∃ i as, k (.ref p.1) = .inl i :: as)
    (hs : ∀ p ∈ L, ∀ q ∈ L, (k (.ref p.1)).map isTxt = (k (.ref q.1)).map isTxt) (hd : ∀ p ∈ L, ∀ q ∈ L, k (.ref p.1) = k (.ref q.1) → Value.ref p.1 = Value.ref q.1 ∨ (n (.ref p.1) = (k (.ref p.1)).length ∧ n (.ref q.1) = (k (.ref q.1)).length))
    {Q : Value → Shared → Prop} (h : ∀ s' d (out : List Value) c, (∀ b o, s.heap.get? b = some o → s'.heap.get? b = some o) → s'.gens = s.gens → s'.os = s.os → s.heap.objs.size ≤ d → s'.heap.get? d = some (seqObj "list" out.toArray c) → Srtd (fun u v => lexLt itemOrd (k u) (k v)) out → out.Perm (L.map fun p => Value.ref p.1) → Q (.ref d) s') :
    wpAny (model P w) A (call (.builtin "sorted") [.ref a]) Q E s := by
  obtain ⟨o, ho, hex, hdt⟩ := R.obj
  have hsz := R.size
  have hfew := R.few
  refine Calls.call_function_entry kind_sorted plain_sorted entry_sorted (args_sorted1 _) ?_
  unfold Builtin.«sorted»
  refine wpAny_bind (m := checkCount "sorted" 1 1 _) (wpAny_pure ?_)
  refine wpAny_bind (collect_set (A := A.in1) hh ⟨o, ho, hex.1, hdt⟩ R.fits (by unfold scanBound; omega) R.tab.ris R.led fun s1 vs k1 hz g1 o1 pm => ?_)
  have hes : es.toList.map (·.2) = L.map fun p => Value.ref p.1 := by
    rw [R.rows, List.map_map]; rfl
  rw [hes] at pm
  have hvl : vs.length ≤ 76 := by rw [pm.length_eq, List.length_map]; exact hfew
  refine wpAny_bind (wpAny_newList ?_ (by rw [sizeLine_eq]; omega))
  have hoL : (s1.heap.push (seqObj "list" vs.toArray 0)).get? s1.heap.objs.size = some (seqObj "list" vs.toArray 0) := Heap.get?_push_size _ rfl
  have mem : ∀ v ∈ vs, ∃ p ∈ L, v = Value.ref p.1 := fun v hv => by
    obtain ⟨p, hp, e⟩ := List.mem_map.mp (pm.mem_iff.mp hv)
    exact ⟨p, hp, e.symm⟩
  have keep : ∀ b o, s.heap.get? b = some o → b ≠ s1.heap.objs.size ∧ (s1.heap.push (seqObj "list" vs.toArray 0)).get? b = some o := fun b o e =>
    ⟨Nat.ne_of_lt (Heap.lt_size (k1 b o e)), Heap.get?_push_of_some _ (k1 b o e)⟩
  refine wpAny_bind (wpAny_holding (wpAny_call_entry slot_list_sort ⟨_, hoL, rfl⟩ entry_list_sort (list_sort_ord (s := { s1 with heap := s1.heap.push (seqObj "list" vs.toArray 0) }) (swo_ta k) hoL (by rw [sizeLine_eq]; omega) (fun h2 => ?_) fun out hs1 hb => ⟨_, rfl, ?_⟩) (args_list_sort _)))
  · intro h' kp
    have hp' : ∀ v ∈ vs, IsTA h' v (k v) (n v) ∧ ∃ i as, k v = .inl i :: as := fun v hv => by
      obtain ⟨p, hpm, rfl⟩ := mem v hv
      exact ⟨(hp p hpm).1.keeps fun b o e c => kp b o (keep b o e).1 (keep b o e).2, (hp p hpm).2⟩
    obtain ⟨fs, f1, f2, f3⟩ := ta_firsts hp'
    refine ⟨tuples' true, fun Q E hq => ?_, ta_cmp (fun v hm => (hp' v hm).1) (fun u hu v hv => ?_) (fun u hu v hv => ?_)⟩
    · refine kat_kind (T := .type "int") f1 (by omega) (fun f hm => ?_) (by rfl) ?_
      · obtain ⟨x, t, rfl⟩ := f3 f hm
        exact Looks.now
      · rw [show (Value.type "int" != Value.type "tuple") = true by decide]
        exact hq
    · obtain ⟨p, hpm, rfl⟩ := mem u hu
      obtain ⟨q, hqm, rfl⟩ := mem v hv
      exact hs p hpm q hqm
    · obtain ⟨p, hpm, rfl⟩ := mem u hu
      obtain ⟨q, hqm, rfl⟩ := mem v hv
      exact hd p hpm q hqm
  · obtain ⟨c, hc⟩ := sortedHeap_at (vs := vs) (out := out.toArray) hoL
    refine wpAny_pure ⟨_, rfl, h _ s1.heap.objs.size out c (fun b u e => ?_) g1 o1 hz hc hs1 (hb.perm.trans pm)⟩
    have q := k1 b u e
    have hlt := Heap.lt_size q
    show (sortedHeap (s1.heap.push (seqObj "list" vs.toArray 0)) s1.heap.objs.size vs out.toArray).get? b = some u
    rw [sortedHeap_old (Nat.ne_of_lt hlt) (by rw [size_push']; exact Nat.lt_succ_of_lt hlt)]
    exact Heap.get?_push_of_some _ q
end
end SmT
/-! ## Sm20 -/
/-! Sm20: sorted(set(xs)) of tuples: the rule. -/
namespace SmT
open PySem PySem.Spec PyProof.Rows PyProof.Rows.G L2 SrtO PySem.W
/-! ### alike in order, alike -/
theorem lex_tri {a b : List Atm} (h1 : lexLt itemOrd a b = false) (h2 : lexLt itemOrd b a = false) : a = b := (listOrd itemOrd).total a b h1 h2
theorem swo_key {α : Type} (k : α → List Atm) : Swo fun u v => lexLt itemOrd (k u) (k v) := by
  refine ⟨fun x y h => ?_, fun x y z h1 h2 => ?_⟩
  · cases h2 : lexLt itemOrd (k y) (k x) with
    | false => rfl
    | true =>
      have h3 := (listOrd itemOrd).trans (k x) (k y) (k x) h h2
      rw [(listOrd itemOrd).irrefl (k x)] at h3
      cases h3
  · cases h3 : lexLt itemOrd (k z) (k x) with
    | false => rfl
    | true =>
      rcases (listOrd itemOrd).negTrans (k z) (k y) (k x) h3 with h | h
      · rw [show (listOrd itemOrd).blt (k z) (k y) = lexLt itemOrd (k z) (k y) from rfl, h2] at h; cases h
      · rw [show (listOrd itemOrd).blt (k y) (k x) = lexLt itemOrd (k y) (k x) from rfl, h1] at h; cases h
/-- keys in order, none twice: told by what they hold -/
theorem keys_uniq : ∀ {l m : List (List Atm)}, Srtd (lexLt itemOrd) l → Srtd (lexLt itemOrd) m → l.Nodup → m.Nodup → (∀ k, k ∈ l ↔ k ∈ m) → l = m
  | [], [], _, _, _, _, _ => rfl
  | [], b :: m, _, _, _, _, h => absurd ((h b).mpr List.mem_cons_self) (by simp)
  | a :: l, [], _, _, _, _, h => absurd ((h a).mp List.mem_cons_self) (by simp)
  | a :: l, b :: m, s1, s2, n1, n2, h => by
    obtain ⟨p1, p2⟩ := List.pairwise_cons.mp s1
    obtain ⟨q1, q2⟩ := List.pairwise_cons.mp s2
    obtain ⟨u1, u2⟩ := List.nodup_cons.mp n1
    obtain ⟨v1, v2⟩ := List.nodup_cons.mp n2
    have e : a = b := by
      rcases List.mem_cons.mp ((h a).mp List.mem_cons_self) with e | e
      · exact e
      rcases List.mem_cons.mp ((h b).mpr List.mem_cons_self) with f | f
      · exact f.symm
      exact lex_tri (q1 a e) (p1 b f)
    subst e
    rw [keys_uniq p2 q2 u2 v2 fun k => ⟨fun hk => ?_, fun hk => ?_⟩]
    · rcases List.mem_cons.mp ((h k).mp (List.mem_cons_of_mem _ hk)) with e | e
      · subst e; exact absurd hk u1
      · exact e
    · rcases List.mem_cons.mp ((h k).mpr (List.mem_cons_of_mem _ hk)) with e | e
      · subst e; exact absurd hk v1
      · exact e
end SmT
namespace Sm
open PySem PySem.Spec PyProof.Rows L2 RZ SmT SrtO PyProof.Rows.G
def hasK (k : List Atm) (l : List D) : Bool := l.any fun d => decide (keyT d = k)
theorem hasK_iff {k : List Atm} {l : List D} : hasK k l = true ↔ k ∈ l.map keyT := by
  unfold hasK
  rw [List.any_eq_true, List.mem_map]
  exact ⟨fun ⟨d, h1, h2⟩ => ⟨d, h1, of_decide_eq_true h2⟩, fun ⟨d, h1, h2⟩ => ⟨d, h1, decide_eq_true h2⟩⟩
/-- each kind once -/
def dedK : List D → List D
  | [] => []
  | d :: r => if hasK (keyT d) r = true then dedK r else d :: dedK r
theorem dedK_mem : ∀ {ds : List D} {k : List Atm}, k ∈ (dedK ds).map keyT ↔ k ∈ ds.map keyT
  | [], k => Iff.rfl
  | d :: r, k => by
    unfold dedK
    split
    · rename_i h
      rw [dedK_mem, List.map_cons, List.mem_cons]
      constructor
      · exact .inr
      · rintro (rfl | e)
        · exact hasK_iff.mp h
        · exact e
    · rw [List.map_cons, List.mem_cons, List.map_cons, List.mem_cons, dedK_mem]
theorem dedK_nd : ∀ ds : List D, ((dedK ds).map keyT).Nodup
  | [] => List.nodup_nil
  | d :: r => by
    unfold dedK
    split
    · exact dedK_nd r
    · rename_i h
      rw [List.map_cons, List.nodup_cons]
      exact ⟨fun z => h (hasK_iff.mpr (dedK_mem.mp z)), dedK_nd r⟩
theorem dedK_sub : ∀ {ds : List D} {d : D}, d ∈ dedK ds → d ∈ ds
  | [], _, h => h
  | e :: r, d, h => by
    unfold dedK at h
    split at h
    · exact List.mem_cons_of_mem _ (dedK_sub h)
    · rcases List.mem_cons.mp h with h | h
      · rw [h]; exact List.mem_cons_self
      · exact List.mem_cons_of_mem _ (dedK_sub h)
def okU (ds : List D) : Bool := ds.all isTp && ds.all (fun d => ds.all fun e => decide ((keyT d).map isTxt = (keyT e).map isTxt)) && ds.all (fun d => decide (lenT d = (keyT d).length)) && decide (ds.length ≤ 76)
def lfA : Atm → Leaf
  | .inl i => .num i
  | .inr s => .text (tx s)
theorem lfA_inj : ∀ {a b : Atm}, lfA a = lfA b → a = b
  | .inl i, .inl j, h => by injection h with e; rw [e]
  | .inl _, .inr _, h => by cases h
  | .inr _, .inl _, h => by cases h
  | .inr s, .inr t, h => by
    injection h with e
    have e2 : s.toArray = t.toArray := Str.mk.inj e
    have e3 : s = t := by simpa using e2
    rw [e3]
theorem lfs_inj : ∀ {a b : List Atm}, a.map lfA = b.map lfA → a = b
  | [], [], _ => rfl
  | [], _ :: _, h => by cases h
  | _ :: _, [], h => by cases h
  | x :: a, y :: b, h => by
    rw [List.map_cons, List.map_cons] at h
    injection h with e1 e2
    rw [lfA_inj e1, lfs_inj e2]
theorem items_of {P : Program} {w : World} {K : PySem.W.Frag} {m : List Addr} {L : Addr → Prop} {H : Hp} : ∀ {ds : List D} {vs : List V} {us : List Value}, Rs K m L H ds vs → Vals vs us → ds.length = (atmsD ds).length → PySem.ItemsAre (leafKind P w) ((atmsD ds).map lfA) us
  | _, _, _, .nil, r, _ => by cases r; exact .nil
  | _, _, _, .cons (d := d) rd rs, r, hl => by
    cases r with
    | cons rv r =>
      cases rd with
      | int i =>
        obtain ⟨t, rfl⟩ := rv
        exact .cons (by show Leaf.isOf (.num i) (.int i t) = true; simp [Leaf.isOf]) (items_of rs r (by simpa [atmsD] using hl))
      | str s =>
        obtain ⟨t, rfl⟩ := rv
        exact .cons (by show Leaf.isOf (.text (tx s)) (.str (tx s) t) = true; simp [Leaf.isOf, Value.isStrOf]) (items_of rs r (by simpa [atmsD] using hl))
      | _ => simp [atmsD] at hl
/-- a tuple as a key lies so -/
theorem tupL_at {X : Cx} {P : Program} {w : World} {pins : List (Addr × Obj)} {σ : L2.St} {H : Hp} {s : Shared} {m : List Addr} {L : Addr → Prop} {d : D} {v : V} {u : Value} (I : Inv X pins σ H s) (r : R X.K m L H d v) (rv : RelV v u) (hd : isTp d = true) (hf : lenT d = (keyT d).length) :
    ∃ t, u = .ref t ∧ TupL P w s.heap ((keyT d).map lfA) t := by
  cases r with
  | tup h1 h2 =>
    rename_i a xs vs
    obtain rfl : u = .ref a := rv
    obtain ⟨its, r2, ⟨o, ho, hc, n, hdt⟩, _⟩ := I.tuple h1
    exact ⟨a, rfl, o, its.toArray, n, ho, hc, hdt, items_of (P := P) (w := w) h2 r2 hf⟩
  | _ => cases hd
theorem flat_key : ∀ {xs ys : List D}, xs.length = (atmsD xs).length → ys.length = (atmsD ys).length → atmsD xs = atmsD ys → xs = ys
  | [], [], _, _, _ => rfl
  | [], y :: ys, _, h, e => by
    rw [← e] at h; cases h
  | x :: xs, [], h, _, e => by
    rw [e] at h; cases h
  | x :: xs, y :: ys, h1, h2, e => by
    cases x <;> simp only [atmsD, List.length_cons, List.length_nil] at h1 <;> try omega
    all_goals
      cases y <;> simp only [atmsD, List.length_cons, List.length_nil] at h2 <;> try omega
    all_goals simp only [atmsD] at e
    all_goals injection e with e1 e2
    all_goals try cases e1
    all_goals rw [flat_key (by omega) (by omega) e2]
theorem keyT_inj {d e : D} (hd : isTp d = true) (he : isTp e = true) (fd : lenT d = (keyT d).length) (fe : lenT e = (keyT e).length) (h : keyT d = keyT e) : d = e := by
  cases d with
  | tup xs =>
    cases e with
    | tup ys => rw [flat_key fd fe h]
    | _ => cases he
  | _ => cases hd
theorem nodup_of_map {α β : Type} (f : α → β) : ∀ {l : List α}, (l.map f).Nodup → l.Nodup
  | [], _ => List.nodup_nil
  | a :: l, h => by
    rw [List.map_cons, List.nodup_cons] at h
    exact List.nodup_cons.mpr ⟨fun z => h.1 (List.mem_map_of_mem z), nodup_of_map f h.2⟩
section
variable {X : Cx} {T : Tab} {W : WX}
/-- sorted(set(xs)) of tuples of ints and texts -/
@[simp] def fSortSetD (f : EM) : LM := fun ρ S => (f ρ S).bind fun d S1 => giveL ((lstOf S1 d).bind fun ds => if okU ds = true then some (sortA ltT (dedK ds)) else none) S1
theorem mem_zip {α β : Type} {l : List α} {m : List β} (h : l.length = m.length) {y : β} (hy : y ∈ m) : ∃ x, (x, y) ∈ l.zip m := by
  obtain ⟨i, hi, e⟩ := List.getElem_of_mem hy
  refine ⟨l[i]'(by omega), ?_⟩
  rw [List.mem_iff_getElem]
  exact ⟨i, by rw [List.length_zip]; omega, by rw [List.getElem_zip, e]⟩
theorem mem_zip' {α β : Type} {l : List α} {m : List β} (h : l.length = m.length) {x : α} (hx : x ∈ l) : ∃ y, (x, y) ∈ l.zip m := by
  obtain ⟨i, hi, e⟩ := List.getElem_of_mem hx
  refine ⟨m[i]'(by omega), ?_⟩
  rw [List.mem_iff_getElem]
  exact ⟨i, by rw [List.length_zip]; omega, by rw [List.getElem_zip, e]⟩
theorem f_sortSetD {e : Expr} {f : EM} {p p2 q pos : Pos} (hc : X.calm = true) (hg : Gl X "sorted") (hm : X.mg "sorted" = none) (hg2 : Gl X "set") (hm2 : X.mg "set" = none) (he : SE X T W e f) (hu : X.A.units + 65 < cLine)
    (na : starEach [e] X.env = (false, eval e X.env) :: starEach [] X.env := by rfl)
    (nb : starEach [.Call (.Name "set" p2) [e] [] q] X.env = (false, eval (.Call (.Name "set" p2) [e] [] q) X.env) :: starEach [] X.env := by rfl) :
    SF X T W (.Call (.Name "sorted" p) [.Call (.Name "set" p2) [e] [] q] [] pos) (fSortSetD f) := by
  refine ⟨fun pins s σ H Q I h => ?_⟩
  obtain ⟨P, m, S, ρ, rs, re, h⟩ := h
  have h' : tE X.K T W f σ H fun x H1 => ∃ a m1 L1 xs ds, x = .ref a ∧ SqL X.K H1 a xs ∧ Rs X.K m1 L1 H1 ds xs ∧ okU ds = true ∧ ∀ p ys, H1 p = none → Rs X.K m1 L1 H1 (sortA ltT (dedK ds)) ys → Q (.ref p) (L2.upd H1 p (.lst ys)) := by
    refine tE.use rs re h fun m1 S1 H1 d v x1 rs1 re1 r1 h1 => ?_
    obtain ⟨ds, ed, q⟩ := giveL_meets x1 rs1 h1
    cases hl : lstOf S1 d with
    | none => rw [hl] at ed; cases ed
    | some zs =>
      rw [hl, Option.bind_some] at ed
      split at ed
      · rename_i ok
        cases ed
        obtain ⟨a, ws, rfl, hq, hr⟩ := lst_at rs1 r1 hl
        exact ⟨a, m1, _, ws, zs, rfl, hq, hr, ok, fun p ys hp hy => q p ys hp hy⟩
      · cases ed
  refine Call_ (ld_blt I hg hm PyProof.Rows.boot_sorted ?_)
  refine PyProof.Rows.callWith_builtin1 (PyProof.Rows.args_cons ?_ nb) nb rfl
  refine Call_ (ld_blt I hg2 hm2 PyProof.Rows.boot_set ?_)
  refine PyProof.Rows.callWith_type1 (PyProof.Rows.args_cons (thn (he.run pins s σ H _ I h') fun v s1 ⟨x, H1, I1, r1, q1⟩ => PyProof.Rows.args_nil ?_) na) na rfl
  obtain ⟨a, m1, L1, xs, ds, rfl, hq, rsx, ok, q1⟩ := q1
  cases r1
  obtain ⟨its, rv, hl, hz⟩ := I1.list hq
  unfold okU at ok
  rw [Bool.and_eq_true, Bool.and_eq_true, Bool.and_eq_true] at ok
  obtain ⟨⟨⟨ok1, ok2⟩, ok3⟩, ok4⟩ := ok
  have ok4 : ds.length ≤ 76 := of_decide_eq_true ok4
  have hlen : ds.length = its.length := by rw [rsx.length, rv.length]
  have zp := zip_mem rsx rv
  have mem1 : ∀ p ∈ ds.zip its, p.1 ∈ ds := fun p hp => (List.of_mem_zip (show (p.1, p.2) ∈ ds.zip its from hp)).1
  have tp1 : ∀ d ∈ ds, isTp d = true := fun d hd => List.all_eq_true.mp ok1 d hd
  have fl1 : ∀ d ∈ ds, lenT d = (keyT d).length := fun d hd => of_decide_eq_true (List.all_eq_true.mp ok3 d hd)
  have sh1 : ∀ d ∈ ds, ∀ e ∈ ds, (keyT d).map isTxt = (keyT e).map isTxt := fun d hd e he => of_decide_eq_true (List.all_eq_true.mp (List.all_eq_true.mp ok2 _ hd) _ he)
  -- what stands at each item
  have info : ∀ p ∈ ds.zip its, ∃ t, p.2 = .ref t ∧ R X.K m1 L1 H1 p.1 (backV p.2) ∧ IsTA s1.heap p.2 (keyT p.1) (lenT p.1) ∧ kH s1.heap p.2 = keyT p.1 ∧ nH s1.heap p.2 = lenT p.1 ∧ TupL X.prog X.w s1.heap ((keyT p.1).map lfA) t := fun p hp => by
    obtain ⟨v, r1, r2⟩ := zp p hp
    obtain ⟨⟨t, rfl⟩, h2, h3, h4⟩ := ta_at I1 r1 r2 (tp1 _ (mem1 p hp))
    obtain ⟨t', e', h5⟩ := tupL_at (P := X.prog) (w := X.w) I1 r1 r2 (tp1 _ (mem1 p hp)) (fl1 _ (mem1 p hp))
    have e : p.2 = Value.ref t := r2
    rw [e] at e'
    cases e'
    exact ⟨t, e, by rw [e]; exact r1, h2, h3, h4, h5⟩
  let adr : Value → Addr := fun v => match v with
    | .ref t => t
    | _ => 0
  let ks : List KA := (ds.zip its).map fun p => (adr p.2, (keyT p.1).map lfA)
  have hks : (ks.map fun p => Value.ref p.1) = its := by
    show ((ds.zip its).map fun p => (adr p.2, (keyT p.1).map lfA)).map (fun p => Value.ref p.1) = its
    rw [List.map_map]
    conv => rhs; rw [← List.map_snd_zip (l₁ := ds) (l₂ := its) (by omega)]
    refine List.map_congr_left fun p hp => ?_
    obtain ⟨t, e, _⟩ := info p hp
    show Value.ref (adr p.2) = p.2
    rw [e]
  have hkl : ks.length = ds.length := by
    show ((ds.zip its).map _).length = _
    rw [List.length_map, List.length_zip]; omega
  have hkt : ∀ p ∈ ks, TupL X.prog X.w s1.heap p.2 p.1 := fun p hp => by
    obtain ⟨z, hz, rfl⟩ := List.mem_map.mp hp
    obtain ⟨t, e, _, _, _, _, h5⟩ := info z hz
    show TupL X.prog X.w s1.heap ((keyT z.1).map lfA) (adr z.2)
    rw [e]; exact h5
  have hls : s1.heap.IsList a (ks.map fun p => Value.ref p.1).toArray := by rw [hks]; exact hl.isList
  refine set_of_list (ks := ks) (by first | exact I1.ok.hd hc | simp [I1.ok.hd hc]) hls hkt (by omega) (by first | omega | (show X.A.units + 1 + 5 < cLine; omega) | (show X.A.units + 2 + 5 < cLine; omega) | (show X.A.units + 3 + 5 < cLine; omega)) fun h' tk L es ep t hS part k1 => ?_
  refine PyProof.Rows.args_nil ?_
  have I2 : Inv X pins σ H1 { s1 with heap := h', toks := tk } := I1.kept k1
  have back : ∀ p ∈ L, ∃ z ∈ ds.zip its, Value.ref p.1 = z.2 ∧ p.2 = (keyT z.1).map lfA := fun p hp => by
    obtain ⟨z, hz, e⟩ := List.mem_map.mp (part.sub p hp)
    obtain ⟨t, e2, _⟩ := info z hz
    refine ⟨z, hz, ?_, by rw [← e]⟩
    rw [← e, e2]
  have kh' : ∀ z ∈ ds.zip its, IsTA h' z.2 (keyT z.1) (lenT z.1) ∧ kH h' z.2 = keyT z.1 ∧ nH h' z.2 = lenT z.1 := fun z hz => by
    obtain ⟨v, r1, r2⟩ := zp z hz
    obtain ⟨_, h2, h3, h4⟩ := ta_at I2 r1 r2 (tp1 _ (mem1 z hz))
    exact ⟨h2, h3, h4⟩
  refine sorted_set hS (I2.ok.hd hc) (k := kH h') (n := nH h') (fun p hp => ?_) (fun p hp q hq => ?_) (fun p hp q hq e => ?_) fun s' p out c k g o hp hget hso hpm => ?_
  · obtain ⟨z, hz, e, _⟩ := back p hp
    obtain ⟨i1, i2, i3⟩ := kh' z hz
    rw [e, i2, i3]
    refine ⟨i1, ?_⟩
    have := tp1 _ (mem1 z hz)
    unfold isTp at this
    split at this
    · rename_i hh
      rw [hh]
      exact ⟨_, _, rfl⟩
    · cases this
  · obtain ⟨z, hz, e, _⟩ := back p hp
    obtain ⟨z', hz', e', _⟩ := back q hq
    rw [e, e', (kh' z hz).2.1, (kh' z' hz').2.1]
    exact sh1 _ (mem1 z hz) _ (mem1 z' hz')
  · right
    obtain ⟨z, hz, e1, _⟩ := back p hp
    obtain ⟨z', hz', e2, _⟩ := back q hq
    rw [e1, e2, (kh' z hz).2.1, (kh' z hz).2.2, (kh' z' hz').2.1, (kh' z' hz').2.2]
    exact ⟨fl1 _ (mem1 z hz), fl1 _ (mem1 z' hz')⟩
  have hn : H1 p = none := I2.hok.fresh hp
  have memL : ∀ u ∈ out, ∃ z ∈ ds.zip its, u = z.2 := fun u hu => by
    obtain ⟨p, hp, e⟩ := List.mem_map.mp (hpm.mem_iff.mp hu)
    obtain ⟨z, hz, e1, _⟩ := back p hp
    exact ⟨z, hz, by rw [← e, e1]⟩
  have keyL : L.map (fun p => (kH h' (.ref p.1)).map lfA) = L.map (·.2) := List.map_congr_left fun p hp => by
    obtain ⟨z, hz, e1, e2⟩ := back p hp
    rw [e1, (kh' z hz).2.1, e2]
  have e1 : out.map (kH h') = (sortA ltT (dedK ds)).map keyT := by
    refine keys_uniq ?_ ?_ ?_ ?_ fun kk => ?_
    · exact List.pairwise_map.mpr hso
    · exact List.pairwise_map.mpr (sortA_srtd (swo_key keyT) (dedK ds))
    · have n1 : (L.map fun p => (kH h' (.ref p.1)).map lfA).Nodup := by rw [keyL]; exact hS.nd
      have n2 : ((L.map fun p => Value.ref p.1).map (kH h')).Nodup := by
        rw [List.map_map]
        refine nodup_of_map (List.map lfA) ?_
        rw [List.map_map]
        exact n1
      exact ((hpm.map (kH h')).nodup_iff).mpr n2
    · exact (((sortA_perm ltT (dedK ds)).map keyT).nodup_iff).mpr (dedK_nd ds)
    · rw [(hpm.map (kH h')).mem_iff, ((sortA_perm ltT (dedK ds)).map keyT).mem_iff, dedK_mem]
      constructor
      · intro hk
        obtain ⟨u, hu, e⟩ := List.mem_map.mp hk
        obtain ⟨p, hp, e2⟩ := List.mem_map.mp hu
        obtain ⟨z, hz, e3, _⟩ := back p hp
        rw [← e, ← e2, e3, (kh' z hz).2.1]
        exact List.mem_map_of_mem (mem1 z hz)
      · intro hk
        obtain ⟨d, hd, e⟩ := List.mem_map.mp hk
        obtain ⟨y, hz⟩ := mem_zip' (m := its) hlen hd
        have hkm : ((adr y, (keyT d).map lfA) : KA) ∈ ks := List.mem_map.mpr ⟨(d, y), hz, rfl⟩
        obtain ⟨j, hj, ej⟩ := List.getElem_of_mem hkm
        have hm := part.all j (adr y, (keyT d).map lfA) hj (by rw [← ej]; exact List.getElem?_eq_getElem hj)
        have hm : (keyT d).map lfA ∈ L.map (·.2) := hm
        rw [← keyL] at hm
        obtain ⟨p, hp, e2⟩ := List.mem_map.mp hm
        rw [List.map_map]
        refine List.mem_map.mpr ⟨p, hp, ?_⟩
        rw [← e]
        exact lfs_inj e2
  have rr : Rs X.K m1 L1 H1 (sortA ltT (dedK ds)) (out.map backV) := by
    have all1 : ∀ d ∈ sortA ltT (dedK ds), d ∈ ds := fun d hd => dedK_sub ((sortA_perm ltT (dedK ds)).mem_iff.mp hd)
    have go : ∀ (out : List Value) (ss : List D), out.map (kH h') = ss.map keyT → (∀ u ∈ out, ∃ z ∈ ds.zip its, u = z.2) → (∀ d ∈ ss, d ∈ ds) → Rs X.K m1 L1 H1 ss (out.map backV) := by
      intro out
      induction out with
      | nil =>
        intro ss e _ _
        cases ss with
        | nil => exact .nil
        | cons _ _ => cases e
      | cons u out ih =>
        intro ss e hm hs
        cases ss with
        | nil => cases e
        | cons d ss =>
          rw [List.map_cons, List.map_cons] at e
          injection e with e1 e2
          obtain ⟨z, hz, rfl⟩ := hm u List.mem_cons_self
          rw [(kh' z hz).2.1] at e1
          have dz := hs d List.mem_cons_self
          have : z.1 = d := keyT_inj (tp1 _ (mem1 z hz)) (tp1 _ dz) (fl1 _ (mem1 z hz)) (fl1 _ dz) e1
          subst this
          obtain ⟨t, _, h2, _⟩ := info z hz
          exact .cons h2 (ih ss e2 (fun u hu => hm u (List.mem_cons_of_mem _ hu)) fun d hd => hs d (List.mem_cons_of_mem _ hd))
    exact go out _ e1 memL all1
  have h3 : ∀ u ∈ out, ∃ a, u = Value.ref a := fun u hu => by
    obtain ⟨z, hz, rfl⟩ := memL u hu
    obtain ⟨t, e, _⟩ := info z hz
    exact ⟨t, e⟩
  have hol : out.length ≤ 76 := by
    rw [hpm.length_eq, List.length_map]
    exact hS.few
  have hlen2 : (out.map backV).length ≤ sizeLine := by rw [List.length_map, sizeLine_eq]; omega
  have J : HOk X.prog X.w (L2.upd H1 p (.lst (out.map backV))) s'.heap := I2.hok.laid k hp ⟨hlen2, out, c, vals_back h3, hget⟩
  refine ⟨.ref p, _, I2.call' (ch := []) o (Un.laid k hp hn) J (by rw [g]; exact I2.bare) (fun _ z => nomatch z), rfl, ?_⟩
  exact q1 p _ hn rr
end
end Sm
/-! ## Pc -/
noncomputable section
namespace Lw
open PySem PySem.Spec PyProof.Rows L2 RZ Sm
/-! ### texts -/
abbrev q_x27_5e_7e : List Nat := [39, 94, 126]
abbrev q_sign : List Nat := [115, 105, 103, 110]
abbrev q_lift : List Nat := [108, 105, 102, 116]
abbrev q_x61_62_63_64_65_66_67_68_69_6a_6b_6c_6d_6e_42 : List Nat := [97, 98, 99, 100, 101, 102, 103, 104, 105, 106, 107, 108, 109, 110, 111, 112, 113, 114, 115, 116, 117, 118, 119, 120, 121, 122, 48, 49, 50, 51, 52, 53, 54, 55, 56, 57, 46, 44, 45, 39, 94, 126]
abbrev q_blank : List Nat := [98, 108, 97, 110, 107]
abbrev q_half : List Nat := [104, 97, 108, 102]
abbrev q_back : List Nat := [98, 97, 99, 107]
abbrev q_tab : List Nat := [116, 97, 98]
abbrev q_return : List Nat := [114, 101, 116, 117, 114, 110]
abbrev q_up : List Nat := [117, 112]
abbrev q_down : List Nat := [100, 111, 119, 110]
abbrev q_left : List Nat := [108, 101, 102, 116]
abbrev q_right : List Nat := [114, 105, 103, 104, 116]
abbrev q_set : List Nat := [115, 101, 116]
abbrev q_clear : List Nat := [99, 108, 101, 97, 114]
abbrev q_all : List Nat := [97, 108, 108]
abbrev q_free : List Nat := [102, 114, 101, 101]
abbrev q_ribbon : List Nat := [114, 105, 98, 98, 111, 110]
abbrev q_caps : List Nat := [99, 97, 112, 115]
abbrev q_x61_62_63_64_65_66_67_68_69_6a_6b_6c_6d_6e_26 : List Nat := [97, 98, 99, 100, 101, 102, 103, 104, 105, 106, 107, 108, 109, 110, 111, 112, 113, 114, 115, 116, 117, 118, 119, 120, 121, 122]
abbrev q_x41_42_43_44_45_46_47_48_49_4a_4b_4c_4d_4e_26 : List Nat := [65, 66, 67, 68, 69, 70, 71, 72, 73, 74, 75, 76, 77, 78, 79, 80, 81, 82, 83, 84, 85, 86, 87, 88, 89, 90]
abbrev q_black : List Nat := [98, 108, 97, 99, 107]
abbrev q_locked : List Nat := [108, 111, 99, 107, 101, 100]
abbrev q_struck : List Nat := [115, 116, 114, 117, 99, 107]
abbrev q_nothing : List Nat := [110, 111, 116, 104, 105, 110, 103]
abbrev q_lifted : List Nat := [108, 105, 102, 116, 101, 100]
abbrev q_moved : List Nat := [109, 111, 118, 101, 100]
abbrev q_red : List Nat := [114, 101, 100]
abbrev q_done : List Nat := [100, 111, 110, 101]
abbrev q_x27 : List Nat := [39]
abbrev q_x5e : List Nat := [94]
abbrev q_x7e : List Nat := [126]
abbrev q_x61_62_63_7a_7a_30_31_39_2e_2c_2d_27_5e_7e_16 : List Nat := [97, 98, 99, 122, 122, 48, 49, 57, 46, 44, 45, 39, 94, 126, 97, 98]
abbrev q_machine : List Nat := [109, 97, 99, 104, 105, 110, 101]
abbrev q_end : List Nat := [101, 110, 100]
abbrev q_row : List Nat := [114, 111, 119]
abbrev q_place : List Nat := [112, 108, 97, 99, 101]
abbrev q_low : List Nat := [108, 111, 119]
abbrev q_high : List Nat := [104, 105, 103, 104]
abbrev q_tabs : List Nat := [116, 97, 98, 115]
abbrev q_marks : List Nat := [109, 97, 114, 107, 115]
abbrev q_rings : List Nat := [114, 105, 110, 103, 115]
abbrev q_many : List Nat := [109, 97, 110, 121]
abbrev q_x61_62_27_5e : List Nat := [97, 98, 39, 94]
abbrev q_x30 : List Nat := [48]
abbrev q_refused : List Nat := [114, 101, 102, 117, 115, 101, 100]
abbrev q_x : List Nat := []
abbrev q_x20 : List Nat := [32]
abbrev q_x61_62_27 : List Nat := [97, 98, 39]
abbrev q_x61_62_41_42_30_2e_27_5e_7e : List Nat := [97, 98, 65, 66, 48, 46, 39, 94, 126]
abbrev q_a : List Nat := [97]
abbrev q_blue : List Nat := [98, 108, 117, 101]
abbrev q_ab : List Nat := [97, 98]
abbrev q_b : List Nat := [98]
abbrev q_z : List Nat := [122]
abbrev q_A : List Nat := [65]
abbrev q_Z : List Nat := [90]
abbrev q_a_b : List Nat := [97, 95, 98]
abbrev q_x61_a : List Nat := [97, 10]
abbrev q_x61_62_7a_41_5a_20_30_2e_2c_2d : List Nat := [97, 98, 122, 65, 90, 32, 48, 46, 44, 45]
abbrev q_x2e : List Nat := [46]
abbrev q_x31 : List Nat := [49]
abbrev q_x2e_35 : List Nat := [46, 53]
abbrev q_x31_2e_32_2e_33 : List Nat := [49, 46, 50, 46, 51]
abbrev q_x61_2e_31 : List Nat := [97, 46, 49]
abbrev q_x2d_31_2e_30 : List Nat := [45, 49, 46, 48]
abbrev q_x31_2e : List Nat := [49, 46]
abbrev q_x31_2e_35 : List Nat := [49, 46, 53]
abbrev q_x30_31_32_33_34_35_36_37_38_39 : List Nat := [48, 49, 50, 51, 52, 53, 54, 55, 56, 57]
abbrev q_dead : List Nat := [100, 101, 97, 100]
abbrev q_x61_62_7a_30_35_2e : List Nat := [97, 98, 122, 48, 53, 46]
abbrev q_x37 : List Nat := [55]
abbrev q_x61_41_62_42_30_31_2e_27_5e : List Nat := [97, 65, 98, 66, 48, 49, 46, 39, 94]
abbrev q_c : List Nat := [99]
abbrev q_d : List Nat := [100]
abbrev q_C : List Nat := [67]
abbrev q_B : List Nat := [66]
abbrev q_D : List Nat := [68]
abbrev q_x33_34_35_36_37_38_39_30_31_32 : List Nat := [51, 52, 53, 54, 55, 56, 57, 48, 49, 50]
abbrev q_x_1 : List Nat := [120]
abbrev q_a_ : List Nat := [97, 95]
abbrev q_aaa : List Nat := [97, 97, 97]
abbrev q_aa : List Nat := [97, 97]
abbrev q_x31_2e_30 : List Nat := [49, 46, 48]
abbrev q_abcdef : List Nat := [97, 98, 99, 100, 101, 102]
abbrev q_x61_62_7a_30_27_5e : List Nat := [97, 98, 122, 48, 39, 94]
abbrev q_keys : List Nat := [107, 101, 121, 115]
abbrev q_x61_62_41_42_30_27_5e : List Nat := [97, 98, 65, 66, 48, 39, 94]
abbrev q_x61_62_7a_41_30_2e : List Nat := [97, 98, 122, 65, 48, 46]
abbrev q_x61_20_62 : List Nat := [97, 32, 98]
abbrev q__ : List Nat := [95]
abbrev q_x61_62_7a_30_2e : List Nat := [97, 98, 122, 48, 46]
/-! ### M-code -/
def g_is_whole : SM :=
  (sRet (eAnd (eIsi .int (eVar 0)) (eAnd (eNot (eIsi .bool (eVar 0))) (eChain leD leD (eVar 1) (eVar 0) (eVar 2)))))
def m_is_whole : FM := callD 3 0 g_is_whole
def g_is_one_of : SM :=
  (sRet (eAnd (eIsi .str (eVar 0)) (eAnd (eOp eqD (eB lenD (aCons (eVar 0) aNil)) (eC (.int 1))) (eOp inD (eVar 0) (eVar 1)))))
def m_is_one_of : FM := callD 2 0 g_is_one_of
def g_is_rising : SM :=
  (sRet (eB allD (aCons (eFrz (fComp (wZip (eVar 0) (eSl (eVar 0) (oSome (eC (.int 1))) oNone)) (.tup [(.nm 1), (.nm 2)]) bYes (eOp ltD (eVar 1) (eVar 2)) [1, 2])) aNil)))
def m_is_rising : FM := callD 1 2 g_is_rising
def g_is_machine : SM :=
  (sSeq (sIf (bOr (bNot (bE (eIsi .tuple (eVar 0)))) (bOr (bE (eOp neD (eB lenD (aCons (eVar 0) aNil)) (eC (.int 3)))) (bNot (bE (eCall m_is_whole (aCons (eOp ixD (eVar 0) (eC (.int 0))) (aCons (eC (.int 8)) (aCons (eC (.int 40)) aNil)))))))) (sRet (eC (.bl false))) sNil)
    (sSeq (sIf (bOr (bNot (bE (eIsi .tuple (eOp ixD (eVar 0) (eC (.int 1)))))) (bNot (bE (eB allD (aCons (eFrz (fComp (wSeq (eOp ixD (eVar 0) (eC (.int 1)))) (.nm 1) bYes (eCall m_is_one_of (aCons (eVar 1) (aCons (eC (.str q_x27_5e_7e)) aNil))) [1])) aNil))))) (sRet (eC (.bl false))) sNil)
    (sRet (eAnd (eCall m_is_rising (aCons (eOp ixD (eVar 0) (eC (.int 1))) aNil)) (eCall m_is_whole (aCons (eOp ixD (eVar 0) (eC (.int 2))) (aCons (eC (.int 2)) (aCons (eC (.int 4)) aNil))))))))
def m_is_machine : FM := callD 1 1 g_is_machine
def g_need_machine : SM :=
  (sIf (bNot (bE (eCall m_is_machine (aCons (eVar 0) aNil)))) (sRaise 1) sNil)
def m_need_machine : FM := callD 1 0 g_need_machine
def g_end_of : SM :=
  (sRet (eOp mulD (eC (.int 2)) (eOp ixD (eVar 0) (eC (.int 0)))))
def m_end_of : FM := callD 1 0 g_end_of
def g_is_key : SM :=
  (sSeq (sIf (bOr (bNot (bE (eIsi .tuple (eVar 0)))) (bOr (bE (eOp eqD (eVar 0) (eTup aNil))) (bNot (bE (eIsi .str (eOp ixD (eVar 0) (eC (.int 0)))))))) (sRet (eC (.bl false))) sNil)
    (sSeq (sIf (bE (eOp inD (eOp ixD (eVar 0) (eC (.int 0))) (eTup (aCons (eC (.str q_sign)) (aCons (eC (.str q_lift)) aNil))))) (sRet (eAnd (eOp eqD (eB lenD (aCons (eVar 0) aNil)) (eC (.int 2))) (eCall m_is_one_of (aCons (eOp ixD (eVar 0) (eC (.int 1))) (aCons (eC (.str q_x61_62_63_64_65_66_67_68_69_6a_6b_6c_6d_6e_42)) aNil))))) sNil)
    (sRet (eAnd (eOp eqD (eB lenD (aCons (eVar 0) aNil)) (eC (.int 1))) (eOp inD (eOp ixD (eVar 0) (eC (.int 0))) (eOp addD (eC (.tup (([q_blank, q_half, q_back, q_tab, q_return, q_up, q_down] : List (List Nat)).map D.str))) (eC (.tup (([q_left, q_right, q_set, q_clear, q_all, q_free, q_ribbon, q_caps] : List (List Nat)).map D.str)))))))))
def m_is_key : FM := callD 1 0 g_is_key
def g_need_keys : SM :=
  (sIf (bOr (bNot (bE (eIsi .tuple (eVar 0)))) (bOr (bE (eOp gtD (eB lenD (aCons (eVar 0) aNil)) (eC (.int 4000)))) (bNot (bE (eB allD (aCons (eFrz (fComp (wSeq (eVar 0)) (.nm 1) bYes (eCall m_is_key (aCons (eVar 1) aNil)) [1])) aNil)))))) (sRaise 2) sNil)
def m_need_keys : FM := callD 1 1 g_need_keys
def g_struck_as : SM :=
  (sRet (eIf (bAnd (bE (eVar 1)) (bE (eOp inD (eVar 0) (eC (.str q_x61_62_63_64_65_66_67_68_69_6a_6b_6c_6d_6e_26))))) (eOp ixD (eC (.str q_x41_42_43_44_45_46_47_48_49_4a_4b_4c_4d_4e_26)) (eMs indexS (eC (.str q_x61_62_63_64_65_66_67_68_69_6a_6b_6c_6d_6e_26)) (aCons (eVar 0) aNil))) (eVar 0)))
def m_struck_as : FM := callD 2 0 g_struck_as
def g_Machine___init__ : SM :=
  (sSeq (sFld 0 0 (eVar 0) (eOp ixD (eVar 1) (eC (.int 1))))
    (sSeq (sFld 0 1 (eVar 0) (eOp ixD (eVar 1) (eC (.int 2))))
    (sSeq (sFld 0 2 (eVar 0) (eCall m_end_of (aCons (eVar 1) aNil)))
    (sSeq (sFld 0 3 (eVar 0) (eC (.int 0)))
    (sSeq (sFld 0 4 (eVar 0) (eC (.int 0)))
    (sSeq (sFld 0 5 (eVar 0) (eC (.int 0)))
    (sSeq (sFld 0 6 (eVar 0) (eFld 0 2 (eVar 0)))
    (sSeq (sFld 0 7 (eVar 0) (eNew (fB listD (aCons (eVar 2) aNil))))
    (sSeq (sFld 0 8 (eVar 0) (eC (.str q_black)))
    (sSeq (sFld 0 9 (eVar 0) (eC (.bl false)))
    (sSeq (sFld 0 10 (eVar 0) (eC (.bl false)))
    (sSeq (sFld 0 11 (eVar 0) (eNew (fLst aNil)))
    (sSeq (sFld 0 12 (eVar 0) (eNew (fLst aNil)))
    (sFld 0 13 (eVar 0) (eC (.int 0))))))))))))))))
def m_Machine___init__ : FM := callD 3 0 g_Machine___init__
def g_Machine_is_locked : SM :=
  (sRet (eOr (eOp gtD (eVar 1) (eFld 0 2 (eVar 0))) (eAnd (eNot (eFld 0 10 (eVar 0))) (eOp gtD (eVar 1) (eFld 0 6 (eVar 0))))))
def m_Machine_is_locked : FM := callD 2 0 g_Machine_is_locked
def g_Machine_go_on : SM :=
  (sSeq (sIf (bE (eChain ltD leD (eFld 0 4 (eVar 0)) (eOp subD (eFld 0 6 (eVar 0)) (eC (.int 10))) (eVar 1))) (sExpr (eMm appendM (eFld 0 12 (eVar 0)) (aCons (eFld 0 13 (eVar 0)) aNil))) sNil)
    (sFld 0 4 (eVar 0) (eVar 1)))
def m_Machine_go_on : FM := callD 2 0 g_Machine_go_on
def g_Machine_strike : SM :=
  (sSeq (sIf (bE (eMeth 0 m_Machine_is_locked (eVar 0) (aCons (eOp addD (eFld 0 4 (eVar 0)) (eC (.int 2))) aNil))) (sRet (eTup (aCons (eC (.str q_locked)) aNil))) sNil)
    (sSeq (sSet 2 (eTup (aCons (eFld 0 3 (eVar 0)) (aCons (eFld 0 4 (eVar 0)) (aCons (eCall m_struck_as (aCons (eVar 1) (aCons (eFld 0 9 (eVar 0)) aNil))) (aCons (eFld 0 8 (eVar 0)) aNil))))))
    (sSeq (sExpr (eMm appendM (eFld 0 11 (eVar 0)) (aCons (eOp addD (eTup (aCons (eFld 0 13 (eVar 0)) aNil)) (eVar 2)) aNil)))
    (sSeq (sIf (bE (eOp notInD (eVar 1) (eFld 0 0 (eVar 0)))) (sExpr (eMeth 0 m_Machine_go_on (eVar 0) (aCons (eOp addD (eFld 0 4 (eVar 0)) (eC (.int 2))) aNil))) sNil)
    (sRet (eOp addD (eTup (aCons (eC (.str q_struck)) aNil)) (eVar 2)))))))
def m_Machine_strike : FM := callD 2 1 g_Machine_strike
def g_Machine_lift : SM :=
  (sSeq (sIf (bE (eMeth 0 m_Machine_is_locked (eVar 0) (aCons (eOp addD (eFld 0 4 (eVar 0)) (eC (.int 2))) aNil))) (sRet (eTup (aCons (eC (.str q_locked)) aNil))) sNil)
    (sSeq (sSet 2 (eTup (aCons (eFld 0 3 (eVar 0)) (aCons (eFld 0 4 (eVar 0)) (aCons (eCall m_struck_as (aCons (eVar 1) (aCons (eFld 0 9 (eVar 0)) aNil))) aNil)))))
    (sSeq (sSet 3 (eFrz (fComp (wEnum (eFld 0 11 (eVar 0))) (.tup [(.nm 5), (.nm 6)]) (bE (eOp eqD (eSl (eVar 6) (oSome (eC (.int 1))) (oSome (eC (.int 4)))) (eVar 2))) (eVar 5) [5, 6])))
    (sSeq (sSet 4 (eOp addD (eTup (aCons (eC (.str q_nothing)) aNil)) (eSl (eVar 2) oNone (oSome (eC (.int 2))))))
    (sSeq (sIf (bE (eOp neD (eVar 3) (eFrz (fLst aNil)))) (sSet 4 (eOp addD (eTup (aCons (eC (.str q_lifted)) aNil)) (eSl (eMm popM (eFld 0 11 (eVar 0)) (aCons (eOp ixD (eVar 3) (eNeg (eC (.int 1)))) aNil)) (oSome (eC (.int 1))) oNone))) sNil)
    (sSeq (sIf (bE (eOp notInD (eVar 1) (eFld 0 0 (eVar 0)))) (sExpr (eMeth 0 m_Machine_go_on (eVar 0) (aCons (eOp addD (eFld 0 4 (eVar 0)) (eC (.int 2))) aNil))) sNil)
    (sRet (eVar 4))))))))
def m_Machine_lift : FM := callD 2 5 g_Machine_lift
def g_Machine_move : SM :=
  (sSeq (sIf (bE (eOp eqD (eVar 1) (eC (.str q_back)))) (sSeq (sSet 2 (eOp subD (eFld 0 4 (eVar 0)) (eC (.int 2))))
    (sSeq (sIf (bOr (bE (eOp ltD (eVar 2) (eC (.int 0)))) (bAnd (bNot (bE (eFld 0 10 (eVar 0)))) (bE (eChain ltD leD (eVar 2) (eFld 0 5 (eVar 0)) (eFld 0 4 (eVar 0)))))) (sRet (eTup (aCons (eC (.str q_locked)) aNil))) sNil)
    (sSeq (sFld 0 4 (eVar 0) (eVar 2))
    (sRet (eTup (aCons (eC (.str q_moved)) (aCons (eFld 0 3 (eVar 0)) (aCons (eVar 2) aNil)))))))) sNil)
    (sSeq (sSet 2 (eOp addD (eFld 0 4 (eVar 0)) (eDGet2 (eFrzQ (dDisp [((eC (.str q_blank)), (eC (.int 2))), ((eC (.str q_half)), (eC (.int 1)))])) (eVar 1) (eC (.int 0)))))
    (sSeq (sIf (bE (eOp eqD (eVar 1) (eC (.str q_tab)))) (sSet 2 (eOp ixD (eOp addD (eFrz (fComp (wSeq (eFld 0 7 (eVar 0))) (.nm 3) (bE (eOp gtD (eVar 3) (eFld 0 4 (eVar 0)))) (eVar 3) [3])) (eFrz (fLst (aCons (eOp addD (eFld 0 2 (eVar 0)) (eC (.int 1))) aNil)))) (eC (.int 0)))) sNil)
    (sSeq (sIf (bE (eMeth 0 m_Machine_is_locked (eVar 0) (aCons (eVar 2) aNil))) (sRet (eTup (aCons (eC (.str q_locked)) aNil))) sNil)
    (sSeq (sExpr (eMeth 0 m_Machine_go_on (eVar 0) (aCons (eVar 2) aNil)))
    (sRet (eTup (aCons (eC (.str q_moved)) (aCons (eFld 0 3 (eVar 0)) (aCons (eVar 2) aNil))))))))))
def m_Machine_move : FM := callD 2 2 g_Machine_move
def g_Machine_roll : SM :=
  (sSeq (sSet 2 (eOp addD (eFld 0 3 (eVar 0)) (eDGet2 (eFrzQ (dDisp [((eC (.str q_return)), (eFld 0 1 (eVar 0))), ((eC (.str q_up)), (eNeg (eC (.int 1))))])) (eVar 1) (eC (.int 1)))))
    (sSeq (sIf (bNot (bE (eChain leD leD (eC (.int 0)) (eVar 2) (eC (.int 60))))) (sRet (eTup (aCons (eC (.str q_locked)) aNil))) sNil)
    (sSeq (sFld 0 3 (eVar 0) (eVar 2))
    (sSeq (sIf (bE (eOp eqD (eVar 1) (eC (.str q_return)))) (sSeq (sFld 0 4 (eVar 0) (eFld 0 5 (eVar 0)))
    (sFld 0 10 (eVar 0) (eC (.bl false)))) sNil)
    (sRet (eTup (aCons (eC (.str q_moved)) (aCons (eVar 2) (aCons (eFld 0 4 (eVar 0)) aNil)))))))))
def m_Machine_roll : FM := callD 2 1 g_Machine_roll
def g_Machine_set_up : SM :=
  (sSeq (sIf (bAnd (bE (eOp eqD (eVar 1) (eC (.str q_left)))) (bE (eOp ltD (eFld 0 4 (eVar 0)) (eFld 0 6 (eVar 0))))) (sFld 0 5 (eVar 0) (eFld 0 4 (eVar 0))) (sIf (bAnd (bE (eOp eqD (eVar 1) (eC (.str q_right)))) (bE (eOp gtD (eFld 0 4 (eVar 0)) (eFld 0 5 (eVar 0))))) (sFld 0 6 (eVar 0) (eFld 0 4 (eVar 0))) (sIf (bE (eOp eqD (eVar 1) (eC (.str q_set)))) (sFld 0 7 (eVar 0) (eNew (fSortSet (eOp addD (eFld 0 7 (eVar 0)) (eFrz (fLst (aCons (eFld 0 4 (eVar 0)) aNil))))))) (sIf (bAnd (bE (eOp eqD (eVar 1) (eC (.str q_clear)))) (bE (eOp inD (eFld 0 4 (eVar 0)) (eFld 0 7 (eVar 0))))) (sExpr (eMm removeM (eFld 0 7 (eVar 0)) (aCons (eFld 0 4 (eVar 0)) aNil))) (sIf (bE (eOp eqD (eVar 1) (eC (.str q_all)))) (sFld 0 7 (eVar 0) (eNew (fLst aNil))) (sIf (bE (eOp eqD (eVar 1) (eC (.str q_free)))) (sFld 0 10 (eVar 0) (eC (.bl true))) (sIf (bE (eOp eqD (eVar 1) (eC (.str q_ribbon)))) (sFld 0 8 (eVar 0) (eIf (bE (eOp eqD (eFld 0 8 (eVar 0)) (eC (.str q_black)))) (eC (.str q_red)) (eC (.str q_black)))) (sIf (bE (eOp eqD (eVar 1) (eC (.str q_caps)))) (sFld 0 9 (eVar 0) (eNot (eFld 0 9 (eVar 0)))) (sRet (eTup (aCons (eC (.str q_locked)) aNil)))))))))))
    (sRet (eTup (aCons (eC (.str q_done)) aNil))))
def m_Machine_set_up : FM := callD 2 0 g_Machine_set_up
def g_Machine_press : SM :=
  (sSeq (sIf (bE (eOp eqD (eOp ixD (eVar 1) (eC (.int 0))) (eC (.str q_sign)))) (sSet 2 (eMeth 0 m_Machine_strike (eVar 0) (aCons (eOp ixD (eVar 1) (eC (.int 1))) aNil))) (sIf (bE (eOp eqD (eOp ixD (eVar 1) (eC (.int 0))) (eC (.str q_lift)))) (sSet 2 (eMeth 0 m_Machine_lift (eVar 0) (aCons (eOp ixD (eVar 1) (eC (.int 1))) aNil))) (sIf (bE (eOp inD (eOp ixD (eVar 1) (eC (.int 0))) (eTup (aCons (eC (.str q_blank)) (aCons (eC (.str q_half)) (aCons (eC (.str q_back)) (aCons (eC (.str q_tab)) aNil))))))) (sSet 2 (eMeth 0 m_Machine_move (eVar 0) (aCons (eOp ixD (eVar 1) (eC (.int 0))) aNil))) (sIf (bE (eOp inD (eOp ixD (eVar 1) (eC (.int 0))) (eTup (aCons (eC (.str q_return)) (aCons (eC (.str q_up)) (aCons (eC (.str q_down)) aNil)))))) (sSet 2 (eMeth 0 m_Machine_roll (eVar 0) (aCons (eOp ixD (eVar 1) (eC (.int 0))) aNil))) (sSet 2 (eMeth 0 m_Machine_set_up (eVar 0) (aCons (eOp ixD (eVar 1) (eC (.int 0))) aNil)))))))
    (sSeq (sFld 0 13 (eVar 0) (eOp addD (eFld 0 13 (eVar 0)) (eC (.int 1))))
    (sRet (eVar 2))))
def m_Machine_press : FM := callD 2 1 g_Machine_press
def g_Machine_stand : SM :=
  (sSeq (sSet 1 (eTup (aCons (eFld 0 3 (eVar 0)) (aCons (eFld 0 4 (eVar 0)) (aCons (eFld 0 5 (eVar 0)) (aCons (eFld 0 6 (eVar 0)) aNil))))))
    (sRet (eOp addD (eVar 1) (eTup (aCons (eB tupD (aCons (eFld 0 7 (eVar 0)) aNil)) (aCons (eFld 0 8 (eVar 0)) (aCons (eFld 0 9 (eVar 0)) (aCons (eFld 0 10 (eVar 0)) aNil))))))))
def m_Machine_stand : FM := callD 1 1 g_Machine_stand
def g_worked : SM :=
  (sSeq (sSet 3 (eMake 0 m_Machine___init__ (aCons (eVar 0) (aCons (eVar 1) aNil))))
    (sSeq (sSet 4 (eFrz (fComp (wSeq (eVar 2)) (.nm 5) bYes (eMeth 0 m_Machine_press (eVar 3) (aCons (eVar 5) aNil)) [5])))
    (sRet (eTup (aCons (eVar 3) (aCons (eVar 4) aNil))))))
def m_worked : FM := callD 3 3 g_worked
def g_need_both : SM :=
  (sSeq (sExpr (eCall m_need_machine (aCons (eVar 0) aNil)))
    (sExpr (eCall m_need_keys (aCons (eVar 1) aNil))))
def m_need_both : FM := callD 2 0 g_need_both
def g_pressed : SM :=
  (sSeq (sExpr (eCall m_need_both (aCons (eVar 0) (aCons (eVar 1) aNil))))
    (sRet (eOp ixD (eCall m_worked (aCons (eVar 0) (aCons (eTup aNil) (aCons (eVar 1) aNil)))) (eC (.int 1)))))
def m_pressed : FM := callD 2 0 g_pressed
def g_state : SM :=
  (sSeq (sExpr (eCall m_need_both (aCons (eVar 0) (aCons (eVar 1) aNil))))
    (sRet (eMeth 0 m_Machine_stand (eOp ixD (eCall m_worked (aCons (eVar 0) (aCons (eTup aNil) (aCons (eVar 1) aNil)))) (eC (.int 0))) aNil)))
def m_state : FM := callD 2 0 g_state
def g_rung : SM :=
  (sSeq (sExpr (eCall m_need_both (aCons (eVar 0) (aCons (eVar 1) aNil))))
    (sRet (eFld 0 12 (eOp ixD (eCall m_worked (aCons (eVar 0) (aCons (eTup aNil) (aCons (eVar 1) aNil)))) (eC (.int 0))))))
def m_rung : FM := callD 2 0 g_rung
def g__law_cell_at : SM :=
  (sSeq (sIf (bE (eOp ltD (eVar 1) (eB lenD (aCons (eVar 0) aNil)))) (sRet (eOp ixD (eVar 0) (eVar 1))) sNil)
    (sSeq (sIf (bE (eOp eqD (eVar 0) (eFrz (fLst aNil)))) (sRet (eC (.int 0))) sNil)
    (sRet (eOp addD (eOp mulD (eOp ixD (eVar 0) (eOp modD (eVar 1) (eB lenD (aCons (eVar 0) aNil)))) (eC (.int 31))) (eVar 1)))))
def m__law_cell_at : FM := callD 2 0 g__law_cell_at
def g__law_mixed : SM :=
  (sSeq (sSet 3 (eOp modD (eOp addD (eOp addD (eOp mulD (eCall m__law_cell_at (aCons (eVar 0) (aCons (eVar 1) aNil))) (eC (.int 1103515245))) (eOp mulD (eC (.int 7919)) (eVar 1))) (eC (.int 12345))) (eC (.int 2147483647))))
    (sRet (eOp modD (eOp modD (eOp modD (eOp powD (eVar 3) (eC (.int 5))) (eC (.int 2147483647))) (eC (.int 999983))) (eVar 2))))
def m__law_mixed : FM := callD 3 1 g__law_mixed
def g__law_draw : SM :=
  (sSeq (sExpr (eMm appendM (eVar 1) (aCons (eC (.int 0)) aNil)))
    (sRet (eCall m__law_mixed (aCons (eVar 0) (aCons (eB lenD (aCons (eVar 1) aNil)) (aCons (eVar 2) aNil))))))
def m__law_draw : FM := callD 3 0 g__law_draw
def g__law_pick : SM :=
  (sRet (eOp ixD (eVar 2) (eCall m__law_draw (aCons (eVar 0) (aCons (eVar 1) (aCons (eB lenD (aCons (eVar 2) aNil)) aNil))))))
def m__law_pick : FM := callD 3 0 g__law_pick
def g__law_machine : SM :=
  (sSeq (sSet 2 (eCall m__law_pick (aCons (eVar 0) (aCons (eVar 1) (aCons (eFrz (fLst (aCons (eC (.int 8)) (aCons (eC (.int 9)) (aCons (eC (.int 10)) (aCons (eC (.int 12)) (aCons (eC (.int 20)) (aCons (eC (.int 40)) aNil)))))))) aNil)))))
    (sSeq (sSet 3 (eB tupD (aCons (eFrz (fComp (wSeq (eTup (aCons (eC (.str q_x27)) (aCons (eC (.str q_x5e)) (aCons (eC (.str q_x7e)) aNil))))) (.nm 4) (bE (eOp eqD (eCall m__law_draw (aCons (eVar 0) (aCons (eVar 1) (aCons (eC (.int 2)) aNil)))) (eC (.int 0)))) (eVar 4) [4])) aNil)))
    (sRet (eTup (aCons (eVar 2) (aCons (eVar 3) (aCons (eOp addD (eC (.int 2)) (eCall m__law_draw (aCons (eVar 0) (aCons (eVar 1) (aCons (eC (.int 3)) aNil))))) aNil)))))))
def m__law_machine : FM := callD 2 3 g__law_machine
def g__law_key : SM :=
  (sSeq (sSet 2 (eCall m__law_draw (aCons (eVar 0) (aCons (eVar 1) (aCons (eC (.int 26)) aNil)))))
    (sSeq (sSet 3 (eCall m__law_pick (aCons (eVar 0) (aCons (eVar 1) (aCons (eC (.str q_x61_62_63_7a_7a_30_31_39_2e_2c_2d_27_5e_7e_16)) aNil)))))
    (sSeq (sSet 4 (eNew (fLst (aCons (eC (.str q_blank)) (aCons (eC (.str q_blank)) (aCons (eC (.str q_half)) (aCons (eC (.str q_back)) (aCons (eC (.str q_back)) (aCons (eC (.str q_tab)) (aCons (eC (.str q_tab)) (aCons (eC (.str q_return)) (aCons (eC (.str q_up)) (aCons (eC (.str q_down)) (aCons (eC (.str q_left)) (aCons (eC (.str q_right)) aNil)))))))))))))))
    (sSeq (sExpr (eMm extendM (eVar 4) (aCons (eFrz (fLst (aCons (eC (.str q_set)) (aCons (eC (.str q_set)) (aCons (eC (.str q_clear)) (aCons (eC (.str q_all)) (aCons (eC (.str q_free)) (aCons (eC (.str q_ribbon)) (aCons (eC (.str q_caps)) aNil))))))))) aNil)))
    (sSeq (sIf (bE (eOp ltD (eVar 2) (eC (.int 5)))) (sRet (eTup (aCons (eC (.str q_sign)) (aCons (eVar 3) aNil)))) sNil)
    (sRet (eIf (bE (eOp ltD (eVar 2) (eC (.int 7)))) (eTup (aCons (eC (.str q_lift)) (aCons (eVar 3) aNil))) (eTup (aCons (eOp ixD (eVar 4) (eOp subD (eVar 2) (eC (.int 7)))) aNil)))))))))
def m__law_key : FM := callD 2 3 g__law_key
def g__law_keys : SM :=
  (sSeq (sSet 3 (eNew (fLst aNil)))
    (sSeq (sFor (wR1 (eCall m__law_draw (aCons (eVar 0) (aCons (eVar 1) (aCons (eOp addD (eVar 2) (eC (.int 1))) aNil))))) (.nm 4) (sSeq (sSet 5 (eCall m__law_key (aCons (eVar 0) (aCons (eVar 1) aNil))))
    (sExpr (eMm extendM (eVar 3) (aCons (eOp mulD (eFrz (fLst (aCons (eVar 5) aNil))) (eOp addD (eC (.int 1)) (eCall m__law_draw (aCons (eVar 0) (aCons (eVar 1) (aCons (eCall m__law_pick (aCons (eVar 0) (aCons (eVar 1) (aCons (eFrz (fLst (aCons (eC (.int 1)) (aCons (eC (.int 1)) (aCons (eC (.int 1)) (aCons (eC (.int 4)) aNil)))))) aNil)))) aNil)))))) aNil)))))
    (sRet (eB tupD (aCons (eSl (eVar 3) oNone (oSome (eVar 2))) aNil)))))
def m__law_keys : FM := callD 3 3 g__law_keys
def g__law_new : SM :=
  (sSeq (sSet 2 (eOp mulD (eC (.int 2)) (eOp ixD (eVar 0) (eC (.int 0)))))
    (sSeq (sSet 3 (eNewQ (dDisp [((eC (.str q_machine)), (eVar 0)), ((eC (.str q_end)), (eVar 2)), ((eC (.str q_row)), (eC (.int 0))), ((eC (.str q_place)), (eC (.int 0))), ((eC (.str q_low)), (eC (.int 0))), ((eC (.str q_high)), (eVar 2)), ((eC (.str q_tabs)), (eFrz (fB listD (aCons (eVar 1) aNil))))])))
    (sSeq (sExpr (eMd updM (eVar 3) (aCons (eFrzQ (dDisp [((eC (.str q_red)), (eC (.bl false))), ((eC (.str q_caps)), (eC (.bl false))), ((eC (.str q_free)), (eC (.bl false))), ((eC (.str q_marks)), (eNew (fLst aNil))), ((eC (.str q_rings)), (eNew (fLst aNil))), ((eC (.str q_many)), (eC (.int 0)))])) aNil)))
    (sRet (eVar 3)))))
def m__law_new : FM := callD 2 2 g__law_new
def g__law_shut : SM :=
  (sRet (eOr (eOp gtD (eVar 1) (eOp dgetD (eVar 0) (eC (.str q_end)))) (eAnd (eNot (eOp dgetD (eVar 0) (eC (.str q_free)))) (eOp gtD (eVar 1) (eOp dgetD (eVar 0) (eC (.str q_high)))))))
def m__law_shut : FM := callD 2 0 g__law_shut
def g__law_go : SM :=
  (sSeq (sSet 2 (eOp subD (eOp dgetD (eVar 0) (eC (.str q_high))) (eC (.int 10))))
    (sSeq (sIf (bAnd (bE (eOp ltD (eOp dgetD (eVar 0) (eC (.str q_place))) (eVar 2))) (bE (eOp geD (eVar 1) (eVar 2)))) (sExpr (eMm appendM (eOp dgetD (eVar 0) (eC (.str q_rings))) (aCons (eOp dgetD (eVar 0) (eC (.str q_many))) aNil))) sNil)
    (sSeq (sDPut (eVar 0) (eC (.str q_place)) (eVar 1))
    (sRet (eTup (aCons (eC (.str q_moved)) (aCons (eOp dgetD (eVar 0) (eC (.str q_row))) (aCons (eVar 1) aNil))))))))
def m__law_go : FM := callD 2 1 g__law_go
def g__law_as : SM :=
  (sRet (eIf (bE (eOp dgetD (eVar 0) (eC (.str q_caps)))) (eMs upperS (eVar 1) aNil) (eVar 1)))
def m__law_as : FM := callD 2 0 g__law_as
def g__law_ink : SM :=
  (sSeq (sIf (bE (eCall m__law_shut (aCons (eVar 0) (aCons (eOp addD (eOp dgetD (eVar 0) (eC (.str q_place))) (eC (.int 2))) aNil)))) (sRet (eTup (aCons (eC (.str q_locked)) aNil))) sNil)
    (sSeq (sSet 3 (eTup (aCons (eOp dgetD (eVar 0) (eC (.str q_row))) (aCons (eOp dgetD (eVar 0) (eC (.str q_place))) aNil))))
    (sSeq (sSet 4 (eOp addD (eVar 3) (eTup (aCons (eCall m__law_as (aCons (eVar 0) (aCons (eVar 2) aNil))) (aCons (eIf (bE (eOp dgetD (eVar 0) (eC (.str q_red)))) (eC (.str q_red)) (eC (.str q_black))) aNil)))))
    (sSeq (sSet 5 (eFrz (fComp (wSeq (eOp dgetD (eVar 0) (eC (.str q_marks)))) (.nm 7) (bE (eOp eqD (eSl (eVar 7) (oSome (eC (.int 1))) (oSome (eC (.int 4)))) (eSl (eVar 4) oNone (oSome (eC (.int 3)))))) (eVar 7) [7])))
    (sSeq (sSet 6 (eOp addD (eTup (aCons (eC (.str q_struck)) aNil)) (eVar 4)))
    (sSeq (sIf (bE (eOp eqD (eVar 1) (eC (.str q_sign)))) (sExpr (eMm appendM (eOp dgetD (eVar 0) (eC (.str q_marks))) (aCons (eOp addD (eTup (aCons (eOp dgetD (eVar 0) (eC (.str q_many))) aNil)) (eVar 4)) aNil))) (sIf (bE (eOp eqD (eVar 5) (eFrz (fLst aNil)))) (sSet 6 (eOp addD (eTup (aCons (eC (.str q_nothing)) aNil)) (eVar 3))) (sSeq (sExpr (eMm removeM (eOp dgetD (eVar 0) (eC (.str q_marks))) (aCons (eOp ixD (eVar 5) (eNeg (eC (.int 1)))) aNil)))
    (sSet 6 (eOp addD (eTup (aCons (eC (.str q_lifted)) aNil)) (eSl (eOp ixD (eVar 5) (eNeg (eC (.int 1)))) (oSome (eC (.int 1))) oNone))))))
    (sSeq (sIf (bE (eOp notInD (eVar 2) (eOp ixD (eOp dgetD (eVar 0) (eC (.str q_machine))) (eC (.int 1))))) (sExpr (eCall m__law_go (aCons (eVar 0) (aCons (eOp addD (eOp dgetD (eVar 0) (eC (.str q_place))) (eC (.int 2))) aNil)))) sNil)
    (sRet (eVar 6)))))))))
def m__law_ink : FM := callD 3 5 g__law_ink
def g__law_turn : SM :=
  (sSeq (sSet 2 (eOp dgetD (eVar 0) (eC (.str q_place))))
    (sSeq (sIf (bAnd (bE (eOp eqD (eVar 1) (eC (.str q_left)))) (bE (eOp ltD (eVar 2) (eOp dgetD (eVar 0) (eC (.str q_high)))))) (sDPut (eVar 0) (eC (.str q_low)) (eVar 2)) (sIf (bAnd (bE (eOp eqD (eVar 1) (eC (.str q_right)))) (bE (eOp gtD (eVar 2) (eOp dgetD (eVar 0) (eC (.str q_low)))))) (sDPut (eVar 0) (eC (.str q_high)) (eVar 2)) (sIf (bE (eOp eqD (eVar 1) (eC (.str q_set)))) (sDPut (eVar 0) (eC (.str q_tabs)) (eOp addD (eFrz (fComp (wSeq (eOp dgetD (eVar 0) (eC (.str q_tabs)))) (.nm 3) (bE (eOp neD (eVar 3) (eVar 2))) (eVar 3) [3])) (eFrz (fLst (aCons (eVar 2) aNil))))) (sIf (bAnd (bE (eOp eqD (eVar 1) (eC (.str q_clear)))) (bE (eOp inD (eVar 2) (eOp dgetD (eVar 0) (eC (.str q_tabs)))))) (sDPut (eVar 0) (eC (.str q_tabs)) (eFrz (fComp (wSeq (eOp dgetD (eVar 0) (eC (.str q_tabs)))) (.nm 3) (bE (eOp neD (eVar 3) (eVar 2))) (eVar 3) [3]))) (sIf (bE (eOp inD (eVar 1) (eTup (aCons (eC (.str q_left)) (aCons (eC (.str q_right)) (aCons (eC (.str q_clear)) aNil)))))) (sRet (eTup (aCons (eC (.str q_locked)) aNil))) (sIf (bE (eOp eqD (eVar 1) (eC (.str q_all)))) (sDPut (eVar 0) (eC (.str q_tabs)) (eFrz (fLst aNil))) (sSeq (sSet 4 (eOp dgetD (eFrzQ (dDisp [((eC (.str q_free)), (eC (.str q_free))), ((eC (.str q_ribbon)), (eC (.str q_red))), ((eC (.str q_caps)), (eC (.str q_caps)))])) (eVar 1)))
    (sDPut (eVar 0) (eVar 4) (eOr (eOp eqD (eVar 1) (eC (.str q_free))) (eNot (eOp dgetD (eVar 0) (eVar 4))))))))))))
    (sRet (eTup (aCons (eC (.str q_done)) aNil)))))
def m__law_turn : FM := callD 2 3 g__law_turn
def g__law_step : SM :=
  (sSeq (sSet 2 (eOp dgetD (eVar 0) (eC (.str q_place))))
    (sSeq (sIf (bE (eOp eqD (eVar 1) (eC (.str q_back)))) (sSeq (sIf (bOr (bE (eOp ltD (eVar 2) (eC (.int 2)))) (bAnd (bNot (bE (eOp dgetD (eVar 0) (eC (.str q_free))))) (bE (eChain geD gtD (eVar 2) (eOp dgetD (eVar 0) (eC (.str q_low))) (eOp subD (eVar 2) (eC (.int 2))))))) (sRet (eTup (aCons (eC (.str q_locked)) aNil))) sNil)
    (sSeq (sDPut (eVar 0) (eC (.str q_place)) (eOp subD (eVar 2) (eC (.int 2))))
    (sRet (eTup (aCons (eC (.str q_moved)) (aCons (eOp dgetD (eVar 0) (eC (.str q_row))) (aCons (eOp subD (eVar 2) (eC (.int 2))) aNil))))))) sNil)
    (sSeq (sIf (bE (eOp inD (eVar 1) (eTup (aCons (eC (.str q_return)) (aCons (eC (.str q_up)) (aCons (eC (.str q_down)) aNil)))))) (sSeq (sSet 4 (eOp addD (eOp dgetD (eVar 0) (eC (.str q_row))) (eOp dgetD (eFrzQ (dDisp [((eC (.str q_return)), (eOp ixD (eOp dgetD (eVar 0) (eC (.str q_machine))) (eC (.int 2)))), ((eC (.str q_up)), (eNeg (eC (.int 1)))), ((eC (.str q_down)), (eC (.int 1)))])) (eVar 1))))
    (sSeq (sIf (bOr (bE (eOp ltD (eVar 4) (eC (.int 0)))) (bE (eOp gtD (eVar 4) (eC (.int 60))))) (sRet (eTup (aCons (eC (.str q_locked)) aNil))) sNil)
    (sSeq (sDPut (eVar 0) (eC (.str q_row)) (eVar 4))
    (sSeq (sIf (bE (eOp eqD (eVar 1) (eC (.str q_return)))) (sSeq (sDPut (eVar 0) (eC (.str q_place)) (eOp dgetD (eVar 0) (eC (.str q_low))))
    (sDPut (eVar 0) (eC (.str q_free)) (eC (.bl false)))) sNil)
    (sRet (eTup (aCons (eC (.str q_moved)) (aCons (eVar 4) (aCons (eOp dgetD (eVar 0) (eC (.str q_place))) aNil))))))))) sNil)
    (sSeq (sSet 3 (eOp addD (eVar 2) (eIf (bE (eOp eqD (eVar 1) (eC (.str q_blank)))) (eC (.int 2)) (eC (.int 1)))))
    (sSeq (sIf (bE (eOp eqD (eVar 1) (eC (.str q_tab)))) (sSet 3 (eB minD (aCons (eOp addD (eFrz (fComp (wSeq (eOp dgetD (eVar 0) (eC (.str q_tabs)))) (.nm 5) (bE (eOp gtD (eVar 5) (eVar 2))) (eVar 5) [5])) (eFrz (fLst (aCons (eC (.int 999)) aNil)))) aNil))) sNil)
    (sRet (eIf (bE (eCall m__law_shut (aCons (eVar 0) (aCons (eVar 3) aNil)))) (eTup (aCons (eC (.str q_locked)) aNil)) (eCall m__law_go (aCons (eVar 0) (aCons (eVar 3) aNil))))))))))
def m__law_step : FM := callD 2 4 g__law_step
def g__law_press : SM :=
  (sSeq (sIf (bE (eOp inD (eOp ixD (eVar 1) (eC (.int 0))) (eTup (aCons (eC (.str q_sign)) (aCons (eC (.str q_lift)) aNil))))) (sSet 2 (eCall m__law_ink (aCons (eVar 0) (aCons (eOp ixD (eVar 1) (eC (.int 0))) (aCons (eOp ixD (eVar 1) (eC (.int 1))) aNil))))) (sIf (bE (eOp inD (eOp ixD (eVar 1) (eC (.int 0))) (eTup (aCons (eC (.str q_left)) (aCons (eC (.str q_right)) (aCons (eC (.str q_set)) (aCons (eC (.str q_clear)) (aCons (eC (.str q_all)) (aCons (eC (.str q_free)) (aCons (eC (.str q_ribbon)) (aCons (eC (.str q_caps)) aNil))))))))))) (sSet 2 (eCall m__law_turn (aCons (eVar 0) (aCons (eOp ixD (eVar 1) (eC (.int 0))) aNil)))) (sSet 2 (eCall m__law_step (aCons (eVar 0) (aCons (eOp ixD (eVar 1) (eC (.int 0))) aNil))))))
    (sSeq (sDPut (eVar 0) (eC (.str q_many)) (eOp addD (eOp dgetD (eVar 0) (eC (.str q_many))) (eC (.int 1))))
    (sRet (eVar 2))))
def m__law_press : FM := callD 2 1 g__law_press
def g__law_worked : SM :=
  (sSeq (sSet 3 (eCall m__law_new (aCons (eVar 0) (aCons (eVar 1) aNil))))
    (sSeq (sSet 4 (eFrz (fComp (wSeq (eVar 2)) (.nm 5) bYes (eCall m__law_press (aCons (eVar 3) (aCons (eVar 5) aNil))) [5])))
    (sRet (eTup (aCons (eVar 3) (aCons (eVar 4) aNil))))))
def m__law_worked : FM := callD 3 3 g__law_worked
def g__law_stand : SM :=
  (sSeq (sSet 1 (eIf (bE (eOp dgetD (eVar 0) (eC (.str q_red)))) (eC (.str q_red)) (eC (.str q_black))))
    (sSeq (sSet 2 (eTup (aCons (eOp dgetD (eVar 0) (eC (.str q_row))) (aCons (eOp dgetD (eVar 0) (eC (.str q_place))) (aCons (eOp dgetD (eVar 0) (eC (.str q_low))) (aCons (eOp dgetD (eVar 0) (eC (.str q_high))) (aCons (eB tupD (aCons (eFrz (fB sortedD (aCons (eOp dgetD (eVar 0) (eC (.str q_tabs))) aNil))) aNil)) aNil)))))))
    (sRet (eOp addD (eVar 2) (eTup (aCons (eVar 1) (aCons (eOp dgetD (eVar 0) (eC (.str q_caps))) (aCons (eOp dgetD (eVar 0) (eC (.str q_free))) aNil))))))))
def m__law_stand : FM := callD 1 2 g__law_stand
def g__law_to : SM :=
  (sRet (eOp addD (eOp mulD (eFrz (fLst (aCons (eTup (aCons (eC (.str q_blank)) aNil)) aNil))) (eOp divD (eVar 1) (eC (.int 2)))) (eOp mulD (eFrz (fLst (aCons (eTup (aCons (eC (.str q_half)) aNil)) aNil))) (eOp modD (eVar 1) (eC (.int 2))))))
def m__law_to : FM := callD 2 0 g__law_to
def g_need_margins : SM :=
  (sIf (bOr (bNot (bE (eCall m_is_whole (aCons (eVar 1) (aCons (eC (.int 0)) (aCons (eCall m_end_of (aCons (eVar 0) aNil)) aNil)))))) (bOr (bNot (bE (eCall m_is_whole (aCons (eVar 2) (aCons (eC (.int 0)) (aCons (eCall m_end_of (aCons (eVar 0) aNil)) aNil)))))) (bE (eOp geD (eVar 1) (eVar 2))))) (sRaise 4) sNil)
def m_need_margins : FM := callD 3 0 g_need_margins
def g_key_for : SM :=
  (sRet (eTup (aCons (eC (.str q_sign)) (aCons (eIf (bE (eOp inD (eVar 0) (eC (.str q_x41_42_43_44_45_46_47_48_49_4a_4b_4c_4d_4e_26)))) (eOp ixD (eC (.str q_x61_62_63_64_65_66_67_68_69_6a_6b_6c_6d_6e_26)) (eMs indexS (eC (.str q_x41_42_43_44_45_46_47_48_49_4a_4b_4c_4d_4e_26)) (aCons (eVar 0) aNil))) (eVar 0)) aNil))))
def m_key_for : FM := callD 1 0 g_key_for
def g_keys_of : SM :=
  (sSeq (sSet 1 (eNew (fLst aNil)))
    (sSeq (sFor (wSeq (eVar 0)) (.nm 2) (sIf (bE (eOp eqD (eVar 2) (eC (.str q_x20)))) (sExpr (eMm appendM (eVar 1) (aCons (eTup (aCons (eC (.str q_blank)) aNil)) aNil))) (sIf (bE (eOp inD (eVar 2) (eC (.str q_x41_42_43_44_45_46_47_48_49_4a_4b_4c_4d_4e_26)))) (sExpr (eMm extendM (eVar 1) (aCons (eFrz (fLst (aCons (eTup (aCons (eC (.str q_caps)) aNil)) (aCons (eCall m_key_for (aCons (eVar 2) aNil)) (aCons (eTup (aCons (eC (.str q_caps)) aNil)) aNil))))) aNil))) (sExpr (eMm appendM (eVar 1) (aCons (eTup (aCons (eC (.str q_sign)) (aCons (eVar 2) aNil))) aNil))))))
    (sRet (eVar 1))))
def m_keys_of : FM := callD 1 2 g_keys_of
def g_on : SM :=
  (sRet (eOp addD (eOp mulD (eFrz (fLst (aCons (eTup (aCons (eC (.str q_blank)) aNil)) aNil))) (eOp divD (eVar 0) (eC (.int 2)))) (eOp mulD (eFrz (fLst (aCons (eTup (aCons (eC (.str q_half)) aNil)) aNil))) (eOp modD (eVar 0) (eC (.int 2))))))
def m_on : FM := callD 1 0 g_on
def g_is_line : SM :=
  (sSeq (sIf (bOr (bNot (bE (eIsi .str (eVar 1)))) (bNot (bE (eChain leD leD (eC (.int 1)) (eB lenD (aCons (eVar 1) aNil)) (eC (.int 40)))))) (sRet (eC (.bl false))) sNil)
    (sRet (eB allD (aCons (eFrz (fComp (wSeq (eVar 1)) (.nm 3) bYes (eAnd (eOp inD (eVar 3) (eOp addD (eOp addD (eC (.str q_x61_62_63_64_65_66_67_68_69_6a_6b_6c_6d_6e_42)) (eC (.str q_x41_42_43_44_45_46_47_48_49_4a_4b_4c_4d_4e_26))) (eVar 2))) (eOp notInD (eVar 3) (eOp ixD (eVar 0) (eC (.int 1))))) [3])) aNil))))
def m_is_line : FM := callD 3 1 g_is_line
def g_centred : SM :=
  (sSeq (sExpr (eCall m_need_machine (aCons (eVar 0) aNil)))
    (sSeq (sExpr (eCall m_need_margins (aCons (eVar 0) (aCons (eVar 1) (aCons (eVar 2) aNil)))))
    (sSeq (sIf (bNot (bE (eCall m_is_line (aCons (eVar 0) (aCons (eVar 3) (aCons (eC (.str q_x20)) aNil)))))) (sRaise 7) sNil)
    (sSeq (sSet 4 (eOp subD (eOp subD (eVar 2) (eVar 1)) (eOp mulD (eC (.int 2)) (eB lenD (aCons (eVar 3) aNil)))))
    (sSeq (sIf (bE (eOp ltD (eVar 4) (eC (.int 0)))) (sRaise 9) sNil)
    (sRet (eB tupD (aCons (eOp addD (eCall m_on (aCons (eOp divD (eVar 4) (eC (.int 2))) aNil)) (eCall m_keys_of (aCons (eVar 3) aNil))) aNil))))))))
def m_centred : FM := callD 4 1 g_centred
def g_marks_of : SM :=
  (sSeq (sAsg (.tup [(.nm 3), (.nm 4)]) (eCall m_worked (aCons (eVar 0) (aCons (eTup aNil) (aCons (eVar 1) aNil)))))
    (sSeq (sSet 2 (eFrz (fB sortedT (aCons (eFrz (fComp (wSeq (eFld 0 11 (eVar 3))) (.nm 5) bYes (eTup (aCons (eOp ixD (eVar 5) (eC (.int 1))) (aCons (eOp ixD (eVar 5) (eC (.int 2))) (aCons (eOp ixD (eVar 5) (eC (.int 0))) (aCons (eSl (eVar 5) (oSome (eC (.int 1))) oNone) aNil))))) [5])) aNil))))
    (sRet (eFrz (fComp (wSeq (eVar 2)) (.tup [(.nm 6), (.nm 7), (.nm 8), (.nm 5)]) bYes (eOp addD (eTup (aCons (eVar 8) aNil)) (eVar 5)) [6, 7, 8, 5])))))
def m_marks_of : FM := callD 2 7 g_marks_of
def g_strikes : SM :=
  (sSeq (sExpr (eCall m_need_both (aCons (eVar 0) (aCons (eVar 1) aNil))))
    (sRet (eFrz (fComp (wSeq (eCall m_marks_of (aCons (eVar 0) (aCons (eVar 1) aNil)))) (.nm 2) bYes (eSl (eVar 2) (oSome (eC (.int 1))) oNone) [2]))))
def m_strikes : FM := callD 2 1 g_strikes
def g__law_marks : SM :=
  (sSeq (sSet 1 (eFrz (fB sortedT (aCons (eFrz (fComp (wSeq (eOp dgetD (eVar 0) (eC (.str q_marks)))) (.nm 2) bYes (eTup (aCons (eOp ixD (eVar 2) (eC (.int 1))) (aCons (eOp ixD (eVar 2) (eC (.int 2))) (aCons (eOp ixD (eVar 2) (eC (.int 0))) (aCons (eVar 2) aNil))))) [2])) aNil))))
    (sRet (eFrz (fComp (wSeq (eVar 1)) (.tup [(.nm 3), (.nm 4), (.nm 5), (.nm 2)]) bYes (eVar 2) [3, 4, 5, 2]))))
def m__law_marks : FM := callD 1 5 g__law_marks
def g__law_ask : SM :=
  (sTry 4 (sRet (eCall m_centred (aCons (eVar 0) (aCons (eVar 1) (aCons (eVar 2) (aCons (eVar 3) aNil)))))))
def m__law_ask : FM := callD 4 1 g__law_ask
def g__law_keys_of : SM :=
  (sSeq (sSet 1 (eNew (fLst aNil)))
    (sSeq (sFor (wSeq (eVar 0)) (.nm 2) (sSeq (sSet 3 (eTup (aCons (eC (.str q_sign)) (aCons (eMs lowerS (eVar 2) aNil) aNil))))
    (sExpr (eMm extendM (eVar 1) (aCons (eIf (bE (eOp eqD (eVar 2) (eC (.str q_x20)))) (eFrz (fLst (aCons (eTup (aCons (eC (.str q_blank)) aNil)) aNil))) (eIf (bE (eChain leD leD (eC (.str q_A)) (eVar 2) (eC (.str q_Z)))) (eFrz (fLst (aCons (eTup (aCons (eC (.str q_caps)) aNil)) (aCons (eVar 3) (aCons (eTup (aCons (eC (.str q_caps)) aNil)) aNil))))) (eFrz (fLst (aCons (eVar 3) aNil))))) aNil)))))
    (sRet (eVar 1))))
def m__law_keys_of : FM := callD 1 3 g__law_keys_of
def g__law_margins : SM :=
  (sSeq (sSet 2 (eNew (fOp catL (eOp addD (eOp mulD (eFrz (fLst (aCons (eTup (aCons (eC (.str q_blank)) aNil)) aNil))) (eOp divD (eVar 1) (eC (.int 2)))) (eOp mulD (eFrz (fLst (aCons (eTup (aCons (eC (.str q_half)) aNil)) aNil))) (eOp modD (eVar 1) (eC (.int 2))))) (eFrz (fLst (aCons (eTup (aCons (eC (.str q_right)) aNil)) (aCons (eTup (aCons (eC (.str q_return)) aNil)) aNil)))))))
    (sSeq (sExpr (eMm extendM (eVar 2) (aCons (eOp addD (eOp addD (eOp mulD (eFrz (fLst (aCons (eTup (aCons (eC (.str q_blank)) aNil)) aNil))) (eOp divD (eVar 0) (eC (.int 2)))) (eOp mulD (eFrz (fLst (aCons (eTup (aCons (eC (.str q_half)) aNil)) aNil))) (eOp modD (eVar 0) (eC (.int 2))))) (eFrz (fLst (aCons (eTup (aCons (eC (.str q_left)) aNil)) aNil)))) aNil)))
    (sRet (eB tupD (aCons (eVar 2) aNil)))))
def m__law_margins : FM := callD 2 1 g__law_margins
def g__law_refused : SM :=
  (sSeq (sSet 5 (eOp mulD (eC (.int 2)) (eOp ixD (eVar 2) (eC (.int 0)))))
    (sSeq (sSet 6 (eCall m__law_pick (aCons (eVar 0) (aCons (eVar 1) (aCons (eOp addD (eFrz (fLst (aCons (eC .non) (aCons (eC (.str q_x)) (aCons (eC (.int 1)) (aCons (eFrz (fLst (aCons (eC (.str q_a)) aNil))) (aCons (eOp mulS (eC (.str q_a)) (eC (.int 41))) (aCons (eC (.str q_a_b)) (aCons (eC (.str q_x61_a)) aNil))))))))) (eFrz (fComp (wSeq (eOp ixD (eVar 2) (eC (.int 1)))) (.nm 10) bYes (eOp addD (eC (.str q_b)) (eVar 10)) [10]))) aNil)))))
    (sSeq (sIf (bE (eOp neD (eCall m__law_ask (aCons (eVar 2) (aCons (eVar 3) (aCons (eVar 4) (aCons (eVar 6) aNil))))) (eTup (aCons (eC (.str q_refused)) (aCons (eC (.int 6)) aNil))))) (sRet (eC (.bl false))) sNil)
    (sSeq (sSet 7 (eFrz (fLst (aCons (eTup (aCons (eNeg (eC (.int 1))) (aCons (eVar 4) aNil))) (aCons (eTup (aCons (eVar 3) (aCons (eOp addD (eVar 5) (eC (.int 1))) aNil))) (aCons (eTup (aCons (eVar 4) (aCons (eVar 3) aNil))) (aCons (eTup (aCons (eC .non) (aCons (eVar 4) aNil))) (aCons (eTup (aCons (eVar 3) (aCons (eC .non) aNil))) (aCons (eTup (aCons (eC (.bl true)) (aCons (eVar 4) aNil))) (aCons (eTup (aCons (eC (.str q_x30)) (aCons (eVar 4) aNil))) aNil))))))))))
    (sSeq (sAsg (.tup [(.nm 8), (.nm 9)]) (eCall m__law_pick (aCons (eVar 0) (aCons (eVar 1) (aCons (eVar 7) aNil)))))
    (sRet (eOp eqD (eCall m__law_ask (aCons (eVar 2) (aCons (eVar 8) (aCons (eVar 9) (aCons (eVar 6) aNil))))) (eTup (aCons (eC (.str q_refused)) (aCons (eC (.int 3)) aNil))))))))))
def m__law_refused : FM := callD 5 6 g__law_refused
def g_flush : SM :=
  (sSeq (sExpr (eCall m_need_machine (aCons (eVar 0) aNil)))
    (sSeq (sExpr (eCall m_need_margins (aCons (eVar 0) (aCons (eVar 1) (aCons (eVar 2) aNil)))))
    (sSeq (sIf (bNot (bE (eCall m_is_line (aCons (eVar 0) (aCons (eVar 3) (aCons (eC (.str q_x20)) aNil)))))) (sRaise 7) sNil)
    (sSeq (sSet 4 (eOp subD (eOp subD (eVar 2) (eVar 1)) (eOp mulD (eC (.int 2)) (eB lenD (aCons (eVar 3) aNil)))))
    (sSeq (sIf (bE (eOp ltD (eVar 4) (eC (.int 0)))) (sRaise 9) sNil)
    (sRet (eB tupD (aCons (eOp addD (eCall m_on (aCons (eVar 4) aNil)) (eCall m_keys_of (aCons (eVar 3) aNil))) aNil))))))))
def m_flush : FM := callD 4 1 g_flush
def g__law_ask_v1 : SM :=
  (sTry 5 (sRet (eCallIx [m_flush, m_centred] (eVar 0) (aCons (eVar 1) (aCons (eVar 2) (aCons (eVar 3) (aCons (eVar 4) aNil)))))))
def m__law_ask_v1 : FM := callD 5 1 g__law_ask_v1
def g_need_words : SM :=
  (sSeq (sIf (bOr (bNot (bE (eIsi .tuple (eVar 1)))) (bNot (bE (eChain leD leD (eVar 2) (eB lenD (aCons (eVar 1) aNil)) (eVar 3))))) (sRaise 7) sNil)
    (sIf (bNot (bE (eB allD (aCons (eFrz (fComp (wSeq (eVar 1)) (.nm 4) bYes (eCall m_is_line (aCons (eVar 0) (aCons (eVar 4) (aCons (eC (.str q_x)) aNil)))) [4])) aNil)))) (sRaise 7) sNil))
def m_need_words : FM := callD 4 1 g_need_words
def g_spread_keys : SM :=
  (sSeq (sSet 2 (eOp subD (eVar 0) (eOp mulD (eC (.int 2)) (eB sumD (aCons (eFrz (fComp (wSeq (eVar 1)) (.nm 6) bYes (eB lenD (aCons (eVar 6) aNil)) [6])) aNil)))))
    (sSeq (sSet 3 (eB maxD (aCons (eC (.int 1)) (aCons (eOp subD (eB lenD (aCons (eVar 1) aNil)) (eC (.int 1))) aNil))))
    (sSeq (sSet 4 (eCall m_keys_of (aCons (eOp ixD (eVar 1) (eC (.int 0))) aNil)))
    (sSeq (sFor (wEnumN (eSl (eVar 1) (oSome (eC (.int 1))) oNone)) (.tup [(.nm 5), (.nm 6)]) (sExpr (eMm extendM (eVar 4) (aCons (eOp addD (eCall m_on (aCons (eOp addD (eOp divD (eVar 2) (eVar 3)) (eB intD (aCons (eOp ltD (eVar 5) (eOp modD (eVar 2) (eVar 3))) aNil))) aNil)) (eCall m_keys_of (aCons (eVar 6) aNil))) aNil))))
    (sRet (eVar 4))))))
def m_spread_keys : FM := callD 2 5 g_spread_keys
def g_spread : SM :=
  (sSeq (sExpr (eCall m_need_machine (aCons (eVar 0) aNil)))
    (sSeq (sExpr (eCall m_need_margins (aCons (eVar 0) (aCons (eVar 1) (aCons (eVar 2) aNil)))))
    (sSeq (sExpr (eCall m_need_words (aCons (eVar 0) (aCons (eVar 3) (aCons (eC (.int 2)) (aCons (eC (.int 12)) aNil))))))
    (sSeq (sIf (bE (eOp ltD (eOp subD (eVar 2) (eVar 1)) (eOp subD (eOp mulD (eC (.int 2)) (eB sumD (aCons (eFrz (fComp (wSeq (eVar 3)) (.nm 4) bYes (eOp addD (eB lenD (aCons (eVar 4) aNil)) (eC (.int 1))) [4])) aNil))) (eC (.int 2))))) (sRaise 9) sNil)
    (sRet (eB tupD (aCons (eCall m_spread_keys (aCons (eOp subD (eVar 2) (eVar 1)) (aCons (eVar 3) aNil))) aNil)))))))
def m_spread : FM := callD 4 1 g_spread
def g__law_ask_v2 : SM :=
  (sTry 4 (sRet (eCall m_spread (aCons (eVar 0) (aCons (eVar 1) (aCons (eVar 2) (aCons (eVar 3) aNil)))))))
def m__law_ask_v2 : FM := callD 4 1 g__law_ask_v2
def g__law_keys_of_v1 : SM :=
  (sSeq (sSet 1 (eNew (fLst aNil)))
    (sSeq (sFor (wSeq (eVar 0)) (.nm 2) (sSeq (sSet 3 (eTup (aCons (eC (.str q_sign)) (aCons (eMs lowerS (eVar 2) aNil) aNil))))
    (sExpr (eMm extendM (eVar 1) (aCons (eIf (bE (eChain leD leD (eC (.str q_A)) (eVar 2) (eC (.str q_Z)))) (eFrz (fLst (aCons (eTup (aCons (eC (.str q_caps)) aNil)) (aCons (eVar 3) (aCons (eTup (aCons (eC (.str q_caps)) aNil)) aNil))))) (eFrz (fLst (aCons (eVar 3) aNil)))) aNil)))))
    (sRet (eVar 1))))
def m__law_keys_of_v1 : FM := callD 1 3 g__law_keys_of_v1
def g_is_number : SM :=
  (sSeq (sIf (bOr (bNot (bE (eIsi .str (eVar 0)))) (bOr (bE (eOp neD (eMs countS (eVar 0) (aCons (eC (.str q_x2e)) aNil)) (eC (.int 1)))) (bE (eMs startsS (eVar 0) (aCons (eC (.str q_x2e)) aNil))))) (sRet (eC (.bl false))) sNil)
    (sRet (eB allD (aCons (eFrz (fComp (wSeq (eVar 0)) (.nm 1) bYes (eOp inD (eVar 1) (eOp addD (eC (.str q_x30_31_32_33_34_35_36_37_38_39)) (eC (.str q_x2e)))) [1])) aNil))))
def m_is_number : FM := callD 1 1 g_is_number
def g_lined : SM :=
  (sSeq (sExpr (eCall m_need_machine (aCons (eVar 0) aNil)))
    (sSeq (sIf (bNot (bE (eCall m_is_whole (aCons (eVar 1) (aCons (eC (.int 1)) (aCons (eCall m_end_of (aCons (eVar 0) aNil)) aNil)))))) (sRaise 4) sNil)
    (sSeq (sIf (bOr (bNot (bE (eIsi .tuple (eVar 2)))) (bNot (bE (eChain leD leD (eC (.int 1)) (eB lenD (aCons (eVar 2) aNil)) (eC (.int 10)))))) (sRaise 8) sNil)
    (sSeq (sIf (bNot (bE (eB allD (aCons (eFrz (fComp (wSeq (eVar 2)) (.nm 6) bYes (eCall m_is_number (aCons (eVar 6) aNil)) [6])) aNil)))) (sRaise 8) sNil)
    (sSeq (sSet 3 (eNew (fLst aNil)))
    (sSeq (sFor (wSeq (eVar 2)) (.nm 4) (sSeq (sSet 5 (eMs indexS (eVar 4) (aCons (eC (.str q_x2e)) aNil)))
    (sSeq (sIf (bOr (bE (eOp ltD (eVar 1) (eOp mulD (eC (.int 2)) (eVar 5)))) (bE (eOp gtD (eOp addD (eVar 1) (eOp mulD (eC (.int 2)) (eOp subD (eB lenD (aCons (eVar 4) aNil)) (eVar 5)))) (eCall m_end_of (aCons (eVar 0) aNil))))) (sRaise 9) sNil)
    (sExpr (eMm extendM (eVar 3) (aCons (eOp addD (eOp addD (eOp addD (eFrz (fLst (aCons (eTup (aCons (eC (.str q_tab)) aNil)) aNil))) (eOp mulD (eFrz (fLst (aCons (eTup (aCons (eC (.str q_back)) aNil)) aNil))) (eVar 5))) (eCall m_keys_of (aCons (eVar 4) aNil))) (eFrz (fLst (aCons (eTup (aCons (eC (.str q_return)) aNil)) aNil)))) aNil))))))
    (sRet (eB tupD (aCons (eVar 3) aNil)))))))))
def m_lined : FM := callD 3 4 g_lined
def g__law_ask_v3 : SM :=
  (sTry 3 (sRet (eCall m_lined (aCons (eVar 0) (aCons (eVar 1) (aCons (eVar 2) aNil))))))
def m__law_ask_v3 : FM := callD 3 1 g__law_ask_v3
def g__law_refused_v1 : SM :=
  (sSeq (sSet 5 (eOp mulD (eC (.int 2)) (eOp ixD (eVar 2) (eC (.int 0)))))
    (sSeq (sSet 6 (eNew (fLst (aCons (eC .non) (aCons (eFrz (fB listD (aCons (eVar 4) aNil))) (aCons (eTup aNil) (aCons (eOp addD (eVar 4) (eTup (aCons (eC (.str q_x31)) aNil))) (aCons (eOp addD (eVar 4) (eTup (aCons (eC (.str q_x2e_35)) aNil))) (aCons (eOp addD (eVar 4) (eTup (aCons (eC (.str q_x31_2e_32_2e_33)) aNil))) (aCons (eOp addD (eVar 4) (eTup (aCons (eC (.str q_x61_2e_31)) aNil))) aNil))))))))))
    (sSeq (sExpr (eMm extendM (eVar 6) (aCons (eFrz (fLst (aCons (eOp addD (eVar 4) (eTup (aCons (eC (.str q_x2d_31_2e_30)) aNil))) (aCons (eOp addD (eVar 4) (eTup (aCons (eC (.int 1)) aNil))) (aCons (eOp mulT (eTup (aCons (eC (.str q_x31_2e)) aNil)) (eC (.int 11))) (aCons (eOp addD (eVar 4) (eTup (aCons (eC (.str q_x)) aNil))) (aCons (eC (.str q_x31_2e_35)) aNil))))))) aNil)))
    (sSeq (sIf (bE (eOp neD (eCall m__law_ask_v3 (aCons (eVar 2) (aCons (eVar 3) (aCons (eCall m__law_pick (aCons (eVar 0) (aCons (eVar 1) (aCons (eVar 6) aNil)))) aNil)))) (eTup (aCons (eC (.str q_refused)) (aCons (eC (.int 7)) aNil))))) (sRet (eC (.bl false))) sNil)
    (sRet (eOp eqD (eCall m__law_ask_v3 (aCons (eVar 2) (aCons (eCall m__law_pick (aCons (eVar 0) (aCons (eVar 1) (aCons (eFrz (fLst (aCons (eC (.int 0)) (aCons (eOp addD (eVar 5) (eC (.int 1))) (aCons (eNeg (eC (.int 1))) (aCons (eC .non) (aCons (eC (.bl true)) (aCons (eC (.str q_x31)) aNil)))))))) aNil)))) (aCons (eC .non) aNil)))) (eTup (aCons (eC (.str q_refused)) (aCons (eC (.int 3)) aNil)))))))))
def m__law_refused_v1 : FM := callD 5 2 g__law_refused_v1
def g_is_strike : SM :=
  (sSeq (sIf (bOr (bNot (bE (eIsi .tuple (eVar 1)))) (bOr (bE (eOp neD (eB lenD (aCons (eVar 1) aNil)) (eC (.int 4)))) (bNot (bE (eCall m_is_whole (aCons (eOp ixD (eVar 1) (eC (.int 0))) (aCons (eC (.int 0)) (aCons (eC (.int 60)) aNil)))))))) (sRet (eC (.bl false))) sNil)
    (sSeq (sIf (bOr (bNot (bE (eCall m_is_whole (aCons (eOp ixD (eVar 1) (eC (.int 1))) (aCons (eC (.int 0)) (aCons (eOp subD (eCall m_end_of (aCons (eVar 0) aNil)) (eC (.int 2))) aNil)))))) (bNot (bE (eCall m_is_one_of (aCons (eOp ixD (eVar 1) (eC (.int 2))) (aCons (eOp addD (eC (.str q_x61_62_63_64_65_66_67_68_69_6a_6b_6c_6d_6e_42)) (eC (.str q_x41_42_43_44_45_46_47_48_49_4a_4b_4c_4d_4e_26))) aNil)))))) (sRet (eC (.bl false))) sNil)
    (sRet (eAnd (eIsi .str (eOp ixD (eVar 1) (eC (.int 3)))) (eOp inD (eOp ixD (eVar 1) (eC (.int 3))) (eC (.tup (([q_black, q_red] : List (List Nat)).map D.str))))))))
def m_is_strike : FM := callD 2 0 g_is_strike
def g_led : SM :=
  (sSeq (sSet 2 (eNew (fOp repL (eFrz (fLst (aCons (eTup (aCons (eC (.str q_back)) aNil)) aNil))) (eB maxD (aCons (eC (.int 0)) (aCons (eOp divD (eOp addD (eOp subD (eVar 0) (eVar 1)) (eC (.int 1))) (eC (.int 2))) aNil))))))
    (sSeq (sSet 0 (eOp subD (eVar 0) (eOp mulD (eC (.int 2)) (eB lenD (aCons (eVar 2) aNil)))))
    (sSeq (sExpr (eMm extendM (eVar 2) (aCons (eOp addD (eOp mulD (eFrz (fLst (aCons (eTup (aCons (eC (.str q_blank)) aNil)) aNil))) (eOp divD (eOp subD (eVar 1) (eVar 0)) (eC (.int 2)))) (eOp mulD (eFrz (fLst (aCons (eTup (aCons (eC (.str q_half)) aNil)) aNil))) (eOp modD (eOp subD (eVar 1) (eVar 0)) (eC (.int 2))))) aNil)))
    (sRet (eVar 2)))))
def m_led : FM := callD 2 1 g_led
def g_home_row : SM :=
  (sRet (eIf (bE (eOp leD (eOp addD (eVar 1) (eOp ixD (eVar 0) (eC (.int 2)))) (eC (.int 60)))) (eOp addD (eVar 1) (eOp ixD (eVar 0) (eC (.int 2)))) (eVar 1)))
def m_home_row : FM := callD 2 0 g_home_row
def g_home : SM :=
  (sSeq (sIf (bE (eOp gtD (eOp addD (eVar 1) (eOp ixD (eVar 0) (eC (.int 2)))) (eC (.int 60)))) (sRet (eOp addD (eOp mulD (eFrz (fLst (aCons (eTup (aCons (eC (.str q_up)) aNil)) aNil))) (eOp ixD (eVar 0) (eC (.int 2)))) (eFrz (fLst (aCons (eTup (aCons (eC (.str q_return)) aNil)) aNil))))) sNil)
    (sRet (eFrz (fLst (aCons (eTup (aCons (eC (.str q_return)) aNil)) aNil)))))
def m_home : FM := callD 2 0 g_home
def g_keys_for : SM :=
  (sSeq (sExpr (eCall m_need_machine (aCons (eVar 0) aNil)))
    (sSeq (sIf (bOr (bNot (bE (eIsi .list (eVar 1)))) (bOr (bE (eOp gtD (eB lenD (aCons (eVar 1) aNil)) (eC (.int 60)))) (bNot (bE (eB allD (aCons (eFrz (fComp (wSeq (eVar 1)) (.nm 11) bYes (eCall m_is_strike (aCons (eVar 0) (aCons (eVar 11) aNil))) [11])) aNil)))))) (sRaise 6) sNil)
    (sSeq (sSet 2 (eNew (fLst aNil)))
    (sSeq (sAsg (.tup [(.nm 3), (.nm 4), (.nm 5)]) (eTup (aCons (eC (.int 0)) (aCons (eC (.int 0)) (aCons (eC (.str q_black)) aNil)))))
    (sSeq (sFor (wSeq (eFrz (fB sortedT (aCons (eFrz (fComp (wEnum (eVar 1)) (.tup [(.nm 8), (.nm 11)]) bYes (eTup (aCons (eOp ixD (eVar 11) (eC (.int 0))) (aCons (eOp ixD (eVar 11) (eC (.int 1))) (aCons (eVar 8) aNil)))) [8, 11])) aNil)))) (.tup [(.nm 6), (.nm 7), (.nm 8)]) (sSeq (sAsg (.tup [(.nm 9), (.nm 10)]) (eSl (eOp ixD (eVar 1) (eVar 8)) (oSome (eC (.int 2))) oNone))
    (sSeq (sIf (bAnd (bE (eOp gtD (eVar 6) (eVar 3))) (bE (eOp gtD (eVar 4) (eC (.int 0))))) (sSeq (sExpr (eMm extendM (eVar 2) (aCons (eCall m_home (aCons (eVar 0) (aCons (eVar 3) aNil))) aNil)))
    (sPar 3 4 (aCons (eCall m_home_row (aCons (eVar 0) (aCons (eVar 3) aNil))) (aCons (eC (.int 0)) aNil)))) sNil)
    (sSeq (sExpr (eMm extendM (eVar 2) (aCons (eOp addD (eOp addD (eOp mulD (eFrz (fLst (aCons (eTup (aCons (eC (.str q_down)) aNil)) aNil))) (eOp subD (eVar 6) (eVar 3))) (eOp mulD (eFrz (fLst (aCons (eTup (aCons (eC (.str q_up)) aNil)) aNil))) (eOp subD (eVar 3) (eVar 6)))) (eCall m_led (aCons (eVar 4) (aCons (eVar 7) aNil)))) aNil)))
    (sSeq (sIf (bE (eOp neD (eVar 10) (eVar 5))) (sExpr (eMm appendM (eVar 2) (aCons (eTup (aCons (eC (.str q_ribbon)) aNil)) aNil))) sNil)
    (sSeq (sExpr (eMm extendM (eVar 2) (aCons (eCall m_keys_of (aCons (eVar 9) aNil)) aNil)))
    (sAsg (.tup [(.nm 3), (.nm 4), (.nm 5)]) (eTup (aCons (eVar 6) (aCons (eIf (bE (eOp inD (eVar 9) (eOp ixD (eVar 0) (eC (.int 1))))) (eVar 7) (eOp addD (eVar 7) (eC (.int 2)))) (aCons (eVar 10) aNil)))))))))))
    (sRet (eB tupD (aCons (eVar 2) aNil))))))))
def m_keys_for : FM := callD 2 10 g_keys_for
def g__law_ask_v4 : SM :=
  (sTry 2 (sRet (eCall m_keys_for (aCons (eVar 0) (aCons (eVar 1) aNil)))))
def m__law_ask_v4 : FM := callD 2 1 g__law_ask_v4
def g_look_of : SM :=
  (sSeq (sSet 2 (eFrz (fComp (wSeq (eCall m_marks_of (aCons (eVar 0) (aCons (eVar 1) aNil)))) (.nm 3) bYes (eSl (eVar 3) (oSome (eC (.int 1))) oNone) [3])))
    (sRet (eFrz (fComp (wSeq (eFrz (fSortSetD (eVar 2)))) (.nm 4) bYes (eOp addD (eVar 4) (eTup (aCons (eMm countM (eVar 2) (aCons (eVar 4) aNil)) aNil))) [4]))))
def m_look_of : FM := callD 2 3 g_look_of
def g_look : SM :=
  (sSeq (sExpr (eCall m_need_both (aCons (eVar 0) (aCons (eVar 1) aNil))))
    (sRet (eCall m_look_of (aCons (eVar 0) (aCons (eVar 1) aNil)))))
def m_look : FM := callD 2 0 g_look
def g_strikers : SM :=
  (sSeq (sExpr (eCall m_need_both (aCons (eVar 0) (aCons (eVar 1) aNil))))
    (sSeq (sIf (bOr (bNot (bE (eCall m_is_whole (aCons (eVar 2) (aCons (eC (.int 0)) (aCons (eC (.int 60)) aNil)))))) (bNot (bE (eCall m_is_whole (aCons (eVar 3) (aCons (eC (.int 0)) (aCons (eCall m_end_of (aCons (eVar 0) aNil)) aNil))))))) (sRaise 4) sNil)
    (sRet (eFrz (fComp (wSeq (eCall m_marks_of (aCons (eVar 0) (aCons (eVar 1) aNil)))) (.nm 4) (bE (eOp eqD (eSl (eVar 4) (oSome (eC (.int 1))) (oSome (eC (.int 3)))) (eTup (aCons (eVar 2) (aCons (eVar 3) aNil))))) (eOp ixD (eVar 4) (eC (.int 0))) [4])))))
def m_strikers : FM := callD 4 1 g_strikers
def g__law_looks : SM :=
  (sSeq (sSet 1 (eFrz (fComp (wSeq (eOp dgetD (eVar 0) (eC (.str q_marks)))) (.nm 2) bYes (eSl (eVar 2) (oSome (eC (.int 1))) oNone) [2])))
    (sRet (eFrz (fComp (wSeq (eFrz (fSortSetD (eVar 1)))) (.nm 3) bYes (eOp addD (eVar 3) (eTup (aCons (eMm countM (eVar 1) (aCons (eVar 3) aNil)) aNil))) [3]))))
def m__law_looks : FM := callD 1 3 g__law_looks
def g__law_ask_v5 : SM :=
  (sTry 4 (sRet (eCall m_strikers (aCons (eVar 0) (aCons (eVar 1) (aCons (eVar 2) (aCons (eVar 3) aNil)))))))
def m__law_ask_v5 : FM := callD 4 1 g__law_ask_v5
def g_same_look : SM :=
  (sSeq (sExpr (eCall m_need_both (aCons (eVar 0) (aCons (eVar 1) aNil))))
    (sSeq (sExpr (eCall m_need_keys (aCons (eVar 2) aNil)))
    (sRet (eOp eqD (eCall m_look_of (aCons (eVar 0) (aCons (eVar 1) aNil))) (eCall m_look_of (aCons (eVar 0) (aCons (eVar 2) aNil)))))))
def m_same_look : FM := callD 3 0 g_same_look
def g_crowded : SM :=
  (sSeq (sExpr (eCall m_need_both (aCons (eVar 0) (aCons (eVar 1) aNil))))
    (sSeq (sSet 2 (eCall m_marks_of (aCons (eVar 0) (aCons (eVar 1) aNil))))
    (sSeq (sSet 3 (eNew (fLst aNil)))
    (sSeq (sFor (wSeq (eVar 2)) (.nm 4) (sSeq (sSet 5 (eFrz (fComp (wSeq (eVar 2)) (.nm 6) (bAnd (bE (eOp eqD (eOp ixD (eVar 6) (eC (.int 1))) (eOp ixD (eVar 4) (eC (.int 1))))) (bE (eOp eqD (eOp ixD (eVar 6) (eC (.int 2))) (eOp addD (eOp ixD (eVar 4) (eC (.int 2))) (eC (.int 1)))))) (eOp ixD (eVar 6) (eC (.int 0))) [6])))
    (sExpr (eMm extendM (eVar 3) (aCons (eFrz (fComp (wSeq (eVar 5)) (.nm 7) bYes (eTup (aCons (eB minD (aCons (eOp ixD (eVar 4) (eC (.int 0))) (aCons (eVar 7) aNil))) (aCons (eB maxD (aCons (eOp ixD (eVar 4) (eC (.int 0))) (aCons (eVar 7) aNil))) aNil))) [7])) aNil)))))
    (sRet (eFrz (fB sortedT (aCons (eVar 3) aNil))))))))
def m_crowded : FM := callD 2 6 g_crowded
def g__law_some : SM :=
  (sSeq (sSet 3 (eNew (fLst aNil)))
    (sSeq (sFor (wR1 (eVar 2)) (.nm 4) (sSeq (sSet 5 (eCall m__law_draw (aCons (eVar 0) (aCons (eVar 1) (aCons (eC (.int 6)) aNil)))))
    (sSeq (sSet 6 (eCall m__law_pick (aCons (eVar 0) (aCons (eVar 1) (aCons (eC (.str q_x61_62_27)) aNil)))))
    (sSeq (sSet 7 (eCall m__law_pick (aCons (eVar 0) (aCons (eVar 1) (aCons (eFrz (fLst (aCons (eC (.str q_half)) (aCons (eC (.str q_half)) (aCons (eC (.str q_back)) (aCons (eC (.str q_return)) (aCons (eC (.str q_up)) (aCons (eC (.str q_ribbon)) aNil)))))))) aNil)))))
    (sExpr (eMm appendM (eVar 3) (aCons (eIf (bE (eOp ltD (eVar 5) (eC (.int 3)))) (eTup (aCons (eC (.str q_sign)) (aCons (eVar 6) aNil))) (eTup (aCons (eVar 7) aNil))) aNil)))))))
    (sRet (eB tupD (aCons (eVar 3) aNil)))))
def m__law_some : FM := callD 3 5 g__law_some
def g_left_by : SM :=
  (sRet (eTup (aCons (eCall m_look_of (aCons (eVar 0) (aCons (eVar 1) aNil))) (aCons (eMeth 0 m_Machine_stand (eOp ixD (eCall m_worked (aCons (eVar 0) (aCons (eTup aNil) (aCons (eVar 1) aNil)))) (eC (.int 0))) aNil) aNil))))
def m_left_by : FM := callD 2 0 g_left_by
def g_need_few : SM :=
  (sSeq (sExpr (eCall m_need_both (aCons (eVar 0) (aCons (eVar 1) aNil))))
    (sIf (bE (eOp gtD (eB lenD (aCons (eVar 1) aNil)) (eC (.int 60)))) (sRaise 2) sNil))
def m_need_few : FM := callD 2 0 g_need_few
def g_needless : SM :=
  (sSeq (sExpr (eCall m_need_few (aCons (eVar 0) (aCons (eVar 1) aNil))))
    (sSeq (sSet 2 (eCall m_left_by (aCons (eVar 0) (aCons (eVar 1) aNil))))
    (sRet (eFrz (fComp (wR1 (eB lenD (aCons (eVar 1) aNil))) (.nm 3) (bE (eOp eqD (eCall m_left_by (aCons (eVar 0) (aCons (eOp addD (eSl (eVar 1) oNone (oSome (eVar 3))) (eSl (eVar 1) (oSome (eOp addD (eVar 3) (eC (.int 1)))) oNone)) aNil))) (eVar 2))) (eVar 3) [3])))))
def m_needless : FM := callD 2 2 g_needless
def g_lean : SM :=
  (sSeq (sExpr (eCall m_need_few (aCons (eVar 0) (aCons (eVar 1) aNil))))
    (sSeq (sSet 2 (eCall m_left_by (aCons (eVar 0) (aCons (eVar 1) aNil))))
    (sSeq (sSet 3 (eC (.int 0)))
    (sSeq (sWhile (bE (eOp ltD (eVar 3) (eB lenD (aCons (eVar 1) aNil)))) (sSeq (sSet 4 (eOp addD (eSl (eVar 1) oNone (oSome (eVar 3))) (eSl (eVar 1) (oSome (eOp addD (eVar 3) (eC (.int 1)))) oNone)))
    (sIf (bE (eOp eqD (eCall m_left_by (aCons (eVar 0) (aCons (eVar 4) aNil))) (eVar 2))) (sSet 1 (eVar 4)) (sSet 3 (eOp addD (eVar 3) (eC (.int 1)))))))
    (sRet (eVar 1))))))
def m_lean : FM := callD 2 3 g_lean
def g_parted : SM :=
  (sSeq (sExpr (eCall m_need_machine (aCons (eVar 0) aNil)))
    (sSeq (sExpr (eCall m_need_machine (aCons (eVar 1) aNil)))
    (sSeq (sExpr (eCall m_need_keys (aCons (eVar 2) aNil)))
    (sSeq (sPar 4 5 (aCons (eOp ixD (eCall m_worked (aCons (eVar 0) (aCons (eTup aNil) (aCons (eVar 2) aNil)))) (eC (.int 1))) (aCons (eOp ixD (eCall m_worked (aCons (eVar 1) (aCons (eTup aNil) (aCons (eVar 2) aNil)))) (eC (.int 1))) aNil)))
    (sSeq (sSet 3 (eFrz (fComp (wR1 (eB lenD (aCons (eVar 2) aNil))) (.nm 6) (bE (eOp neD (eOp ixD (eVar 4) (eVar 6)) (eOp ixD (eVar 5) (eVar 6)))) (eVar 6) [6])))
    (sRet (eOp ixD (eOp addD (eVar 3) (eFrz (fLst (aCons (eC .non) aNil)))) (eC (.int 0)))))))))
def m_parted : FM := callD 3 4 g_parted
def g__law_ask_v6 : SM :=
  (sTry 3 (sRet (eIf (bE (eOp eqD (eVar 0) (eC (.int 0)))) (eCall m_needless (aCons (eVar 1) (aCons (eVar 2) aNil))) (eCall m_lean (aCons (eVar 1) (aCons (eVar 2) aNil))))))
def m__law_ask_v6 : FM := callD 3 1 g__law_ask_v6
def g__law_both : SM :=
  (sSeq (sSet 2 (eOp ixD (eCall m__law_worked (aCons (eVar 0) (aCons (eTup aNil) (aCons (eVar 1) aNil)))) (eC (.int 0))))
    (sRet (eTup (aCons (eCall m__law_looks (aCons (eVar 2) aNil)) (aCons (eCall m__law_stand (aCons (eVar 2) aNil)) aNil)))))
def m__law_both : FM := callD 2 1 g__law_both
def g_paragraph : SM :=
  (sSeq (sExpr (eCall m_need_machine (aCons (eVar 0) aNil)))
    (sSeq (sExpr (eCall m_need_margins (aCons (eVar 0) (aCons (eVar 1) (aCons (eVar 2) aNil)))))
    (sSeq (sExpr (eCall m_need_words (aCons (eVar 0) (aCons (eVar 3) (aCons (eC (.int 1)) (aCons (eC (.int 30)) aNil))))))
    (sSeq (sIf (bE (eB anyD (aCons (eFrz (fComp (wSeq (eVar 3)) (.nm 5) bYes (eOp gtD (eOp mulD (eC (.int 2)) (eB lenD (aCons (eVar 5) aNil))) (eOp subD (eVar 2) (eVar 1))) [5])) aNil))) (sRaise 9) sNil)
    (sSeq (sSet 4 (eNew (fLst (aCons (eFrz (fLst aNil)) aNil))))
    (sSeq (sFor (wSeq (eVar 3)) (.nm 5) (sSeq (sIf (bE (eOp gtD (eOp addD (eOp mulD (eC (.int 2)) (eB sumD (aCons (eFrz (fComp (wSeq (eOp addD (eOp ixD (eVar 4) (eNeg (eC (.int 1)))) (eFrz (fLst (aCons (eVar 5) aNil))))) (.nm 8) bYes (eB lenD (aCons (eVar 8) aNil)) [8])) aNil))) (eOp mulD (eC (.int 2)) (eB lenD (aCons (eOp ixD (eVar 4) (eNeg (eC (.int 1)))) aNil)))) (eOp subD (eVar 2) (eVar 1)))) (sExpr (eMm appendM (eVar 4) (aCons (eFrz (fLst aNil)) aNil))) sNil)
    (sExpr (eMm appendM (eOp ixD (eVar 4) (eNeg (eC (.int 1)))) (aCons (eVar 5) aNil)))))
    (sSeq (sSet 6 (eNew (fLst aNil)))
    (sSeq (sFor (wSeq (eSl (eVar 4) oNone (oSome (eNeg (eC (.int 1)))))) (.nm 7) (sExpr (eMm extendM (eVar 6) (aCons (eOp addD (eCall m_spread_keys (aCons (eOp subD (eVar 2) (eVar 1)) (aCons (eVar 7) aNil))) (eFrz (fLst (aCons (eTup (aCons (eC (.str q_return)) aNil)) aNil)))) aNil))))
    (sRet (eB tupD (aCons (eOp addD (eVar 6) (eCall m_keys_of (aCons (eMx joinX (eC (.str q_x20)) (aCons (eOp ixD (eVar 4) (eNeg (eC (.int 1)))) aNil)) aNil))) aNil)))))))))))
def m_paragraph : FM := callD 4 5 g_paragraph
def g__law_ask_v7 : SM :=
  (sTry 4 (sRet (eCall m_paragraph (aCons (eVar 0) (aCons (eVar 1) (aCons (eVar 2) (aCons (eVar 3) aNil)))))))
def m__law_ask_v7 : FM := callD 4 1 g__law_ask_v7
def g__law_line : SM :=
  (sSeq (sSet 3 (eOp subD (eVar 0) (eOp mulD (eC (.int 2)) (eB sumD (aCons (eFrz (fComp (wSeq (eVar 1)) (.nm 7) bYes (eB lenD (aCons (eVar 7) aNil)) [7])) aNil)))))
    (sSeq (sSet 4 (eOp subD (eB lenD (aCons (eVar 1) aNil)) (eC (.int 1))))
    (sSeq (sSet 5 (eFrz (fComp (wSeq (eOp ixD (eVar 1) (eC (.int 0)))) (.nm 9) bYes (eTup (aCons (eC (.str q_sign)) (aCons (eVar 9) aNil))) [9])))
    (sSeq (sFor (wEnumN (eSl (eVar 1) (oSome (eC (.int 1))) oNone)) (.tup [(.nm 6), (.nm 7)]) (sSeq (sSet 8 (eIf (bE (eVar 2)) (eC (.int 2)) (eOp addD (eOp divD (eVar 3) (eVar 4)) (eB intD (aCons (eOp ltD (eVar 6) (eOp modD (eVar 3) (eVar 4))) aNil)))))
    (sSet 5 (eOp addD (eOp addD (eOp addD (eVar 5) (eOp mulD (eFrz (fLst (aCons (eTup (aCons (eC (.str q_blank)) aNil)) aNil))) (eOp divD (eVar 8) (eC (.int 2))))) (eOp mulD (eFrz (fLst (aCons (eTup (aCons (eC (.str q_half)) aNil)) aNil))) (eOp modD (eVar 8) (eC (.int 2))))) (eFrz (fComp (wSeq (eVar 7)) (.nm 9) bYes (eTup (aCons (eC (.str q_sign)) (aCons (eVar 9) aNil))) [9]))))))
    (sRet (eVar 5))))))
def m__law_line : FM := callD 3 7 g__law_line
def g__law_lines : SM :=
  (sSeq (sSet 2 (eNew (fLst (aCons (eTup aNil) aNil))))
    (sSeq (sFor (wSeq (eVar 1)) (.nm 3) (sSeq (sIf (bAnd (bE (eOp neD (eOp ixD (eVar 2) (eNeg (eC (.int 1)))) (eTup aNil))) (bE (eOp gtD (eOp mulD (eC (.int 2)) (eB lenD (aCons (eMx joinX (eC (.str q_x20)) (aCons (eOp addD (eOp ixD (eVar 2) (eNeg (eC (.int 1)))) (eTup (aCons (eVar 3) aNil))) aNil)) aNil))) (eVar 0)))) (sExpr (eMm appendM (eVar 2) (aCons (eTup aNil) aNil))) sNil)
    (sDPut (eVar 2) (eNeg (eC (.int 1))) (eOp addD (eOp ixD (eVar 2) (eNeg (eC (.int 1)))) (eTup (aCons (eVar 3) aNil))))))
    (sRet (eVar 2))))
def m__law_lines : FM := callD 2 2 g__law_lines
def g__law_great : SM :=
  (sSeq (sSet 4 (eOp addD (eVar 1) (eTup (aCons (eTup (aCons (eC (.str q_caps)) aNil)) (aCons (eTup (aCons (eC (.str q_sign)) (aCons (eVar 3) aNil))) (aCons (eTup (aCons (eC (.str q_back)) aNil)) (aCons (eTup (aCons (eC (.str q_caps)) aNil)) (aCons (eTup (aCons (eC (.str q_lift)) (aCons (eVar 3) aNil))) aNil))))))))
    (sSeq (sSet 5 (eFrz (fComp (wSeq (eCall m_strikes (aCons (eVar 0) (aCons (eVar 4) aNil)))) (.nm 7) (bE (eOp eqD (eSl (eVar 7) oNone (oSome (eC (.int 2)))) (eSl (eVar 2) oNone (oSome (eC (.int 2)))))) (eVar 7) [7])))
    (sSeq (sSet 6 (eIf (bE (eOp ixD (eVar 2) (eC (.int 6)))) (eVar 3) (eMs upperS (eVar 3) aNil)))
    (sRet (eOp neD (eFrz (fComp (wSeq (eVar 5)) (.nm 7) (bE (eOp eqD (eOp ixD (eVar 7) (eC (.int 2))) (eVar 6))) (eVar 7) [7])) (eFrz (fLst aNil)))))))
def m__law_great : FM := callD 4 4 g__law_great
def g_need_key : SM :=
  (sIf (bNot (bE (eCall m_is_key (aCons (eVar 0) aNil)))) (sRaise 3) sNil)
def m_need_key : FM := callD 1 0 g_need_key
def g_Typist___init__ : SM :=
  (sSeq (sExpr (eCall m_need_machine (aCons (eVar 1) aNil)))
    (sSeq (sFld 2 0 (eVar 0) (eVar 1))
    (sFld 2 1 (eVar 0) (eTup aNil))))
def m_Typist___init__ : FM := callD 2 0 g_Typist___init__
def g_Typist_press : SM :=
  (sSeq (sExpr (eCall m_need_key (aCons (eVar 1) aNil)))
    (sSeq (sFld 2 1 (eVar 0) (eOp addD (eFld 2 1 (eVar 0)) (eTup (aCons (eVar 1) aNil))))
    (sRet (eOp ixD (eOp ixD (eCall m_worked (aCons (eFld 2 0 (eVar 0)) (aCons (eTup aNil) (aCons (eFld 2 1 (eVar 0)) aNil)))) (eC (.int 1))) (eNeg (eC (.int 1)))))))
def m_Typist_press : FM := callD 2 0 g_Typist_press
def g_Typist_undo : SM :=
  (sSeq (sIf (bE (eOp eqD (eFld 2 1 (eVar 0)) (eTup aNil))) (sRaise 10) sNil)
    (sSeq (sSet 1 (eOp ixD (eFld 2 1 (eVar 0)) (eNeg (eC (.int 1)))))
    (sSeq (sFld 2 1 (eVar 0) (eSl (eFld 2 1 (eVar 0)) oNone (oSome (eNeg (eC (.int 1))))))
    (sRet (eVar 1)))))
def m_Typist_undo : FM := callD 1 1 g_Typist_undo
def g_Typist_all_keys : SM :=
  (sRet (eFld 2 1 (eVar 0)))
def m_Typist_all_keys : FM := callD 1 0 g_Typist_all_keys
def g_Typist_strikes : SM :=
  (sRet (eFrz (fComp (wSeq (eCall m_marks_of (aCons (eFld 2 0 (eVar 0)) (aCons (eFld 2 1 (eVar 0)) aNil)))) (.nm 1) bYes (eSl (eVar 1) (oSome (eC (.int 1))) oNone) [1])))
def m_Typist_strikes : FM := callD 1 1 g_Typist_strikes
def g_Typist_state : SM :=
  (sRet (eMeth 0 m_Machine_stand (eOp ixD (eCall m_worked (aCons (eFld 2 0 (eVar 0)) (aCons (eTup aNil) (aCons (eFld 2 1 (eVar 0)) aNil)))) (eC (.int 0))) aNil))
def m_Typist_state : FM := callD 1 0 g_Typist_state
def g_Typist_bells : SM :=
  (sRet (eB lenD (aCons (eFld 0 12 (eOp ixD (eCall m_worked (aCons (eFld 2 0 (eVar 0)) (aCons (eTup aNil) (aCons (eFld 2 1 (eVar 0)) aNil)))) (eC (.int 0)))) aNil)))
def m_Typist_bells : FM := callD 1 0 g_Typist_bells
def g__law_same : SM :=
  (sSeq (sSet 3 (eOp ixD (eCall m__law_worked (aCons (eVar 1) (aCons (eTup aNil) (aCons (eVar 2) aNil)))) (eC (.int 0))))
    (sSeq (sIf (bOr (bE (eOp neD (eMeth 2 m_Typist_all_keys (eVar 0) aNil) (eVar 2))) (bOr (bE (eOp neD (eMeth 2 m_Typist_state (eVar 0) aNil) (eCall m__law_stand (aCons (eVar 3) aNil)))) (bE (eOp neD (eMeth 2 m_Typist_bells (eVar 0) aNil) (eB lenD (aCons (eOp dgetD (eVar 3) (eC (.str q_rings))) aNil)))))) (sRet (eC (.bl false))) sNil)
    (sRet (eOp eqD (eMeth 2 m_Typist_strikes (eVar 0) aNil) (eFrz (fComp (wSeq (eCall m__law_marks (aCons (eVar 3) aNil))) (.nm 4) bYes (eSl (eVar 4) (oSome (eC (.int 1))) oNone) [4]))))))
def m__law_same : FM := callD 3 2 g__law_same
def g__law_all : SM :=
  (sRet (eTup (aCons (eCall m_state (aCons (eVar 0) (aCons (eVar 1) aNil))) (aCons (eCall m_look (aCons (eVar 0) (aCons (eVar 1) aNil))) aNil))))
def m__law_all : FM := callD 2 0 g__law_all
def g_need_tabs : SM :=
  (sSeq (sIf (bOr (bNot (bE (eIsi .tuple (eVar 1)))) (bE (eOp gtD (eB lenD (aCons (eVar 1) aNil)) (eC (.int 6))))) (sRaise 4) sNil)
    (sIf (bOr (bNot (bE (eB allD (aCons (eFrz (fComp (wSeq (eVar 1)) (.nm 2) bYes (eCall m_is_whole (aCons (eVar 2) (aCons (eC (.int 0)) (aCons (eCall m_end_of (aCons (eVar 0) aNil)) aNil)))) [2])) aNil)))) (bNot (bE (eCall m_is_rising (aCons (eVar 1) aNil))))) (sRaise 4) sNil))
def m_need_tabs : FM := callD 2 1 g_need_tabs
def g_is_part : SM :=
  (sSeq (sIf (bOr (bNot (bE (eIsi .tuple (eVar 1)))) (bOr (bE (eOp neD (eB lenD (aCons (eVar 1) aNil)) (eC (.int 3)))) (bNot (bE (eCall m_is_whole (aCons (eOp ixD (eVar 1) (eC (.int 0))) (aCons (eC (.int 0)) (aCons (eCall m_end_of (aCons (eVar 0) aNil)) aNil)))))))) (sRet (eC (.bl false))) sNil)
    (sRet (eAnd (eCall m_is_one_of (aCons (eOp ixD (eVar 1) (eC (.int 1))) (aCons (eOp addD (eC (.str q_x61_62_63_64_65_66_67_68_69_6a_6b_6c_6d_6e_42)) (eC (.str q_x41_42_43_44_45_46_47_48_49_4a_4b_4c_4d_4e_26))) aNil))) (eAnd (eIsi .str (eOp ixD (eVar 1) (eC (.int 2)))) (eOp inD (eOp ixD (eVar 1) (eC (.int 2))) (eC (.tup (([q_black, q_red] : List (List Nat)).map D.str))))))))
def m_is_part : FM := callD 2 0 g_is_part
def g_need_goal : SM :=
  (sSeq (sIf (bOr (bNot (bE (eIsi .tuple (eVar 1)))) (bOr (bE (eOp gtD (eB lenD (aCons (eVar 1) aNil)) (eC (.int 5)))) (bNot (bE (eB allD (aCons (eFrz (fComp (wSeq (eVar 1)) (.nm 2) bYes (eCall m_is_part (aCons (eVar 0) (aCons (eVar 2) aNil))) [2])) aNil)))))) (sRaise 5) sNil)
    (sIf (bNot (bE (eCall m_is_rising (aCons (eVar 1) aNil)))) (sRaise 5) sNil))
def m_need_goal : FM := callD 2 1 g_need_goal
def g_can_strike : SM :=
  (sRet (eIf (bE (eOp inD (eVar 0) (eC (.str q_x41_42_43_44_45_46_47_48_49_4a_4b_4c_4d_4e_26)))) (eVar 1) (eOr (eNot (eVar 1)) (eOp notInD (eVar 0) (eC (.str q_x61_62_63_64_65_66_67_68_69_6a_6b_6c_6d_6e_26))))))
def m_can_strike : FM := callD 2 0 g_can_strike
def g_steps_on : SM :=
  (sSeq (sAsg (.tup [(.nm 7), (.nm 8), (.nm 9), (.nm 10)]) (eVar 2))
    (sSeq (sSet 4 (eCall m_end_of (aCons (eVar 0) aNil)))
    (sSeq (sSet 5 (eNew (fLst aNil)))
    (sSeq (sFor (wEnumN (eVar 3)) (.tup [(.nm 11), (.tup [(.nm 12), (.nm 13), (.nm 14)])]) (sIf (bAnd (bE (eOp inD (eVar 11) (eVar 10))) (bAnd (bE (eOp eqD (eVar 12) (eVar 7))) (bAnd (bE (eOp eqD (eVar 14) (eOp ixD (eC (.tup (([q_black, q_red] : List (List Nat)).map D.str))) (eVar 8)))) (bAnd (bE (eCall m_can_strike (aCons (eVar 13) (aCons (eVar 9) aNil)))) (bE (eOp leD (eOp addD (eVar 7) (eC (.int 2))) (eVar 4))))))) (sSeq (sSet 15 (eIf (bE (eOp inD (eVar 13) (eOp ixD (eVar 0) (eC (.int 1))))) (eVar 7) (eOp addD (eVar 7) (eC (.int 2)))))
    (sSeq (sSet 16 (eB tupD (aCons (eFrz (fComp (wSeq (eVar 10)) (.nm 19) (bE (eOp neD (eVar 19) (eVar 11))) (eVar 19) [19])) aNil)))
    (sExpr (eMm appendM (eVar 5) (aCons (eTup (aCons (eCall m_key_for (aCons (eVar 13) aNil)) (aCons (eTup (aCons (eVar 15) (aCons (eVar 8) (aCons (eVar 9) (aCons (eVar 16) aNil))))) aNil))) aNil))))) sNil))
    (sSeq (sSet 6 (eNew (fLst (aCons (eTup (aCons (eC (.str q_blank)) (aCons (eOp addD (eVar 7) (eC (.int 2))) aNil))) (aCons (eTup (aCons (eC (.str q_half)) (aCons (eOp addD (eVar 7) (eC (.int 1))) aNil))) (aCons (eTup (aCons (eC (.str q_back)) (aCons (eOp subD (eVar 7) (eC (.int 2))) aNil))) aNil))))))
    (sSeq (sExpr (eMm extendM (eVar 6) (aCons (eFrz (fComp (wSeq (eSl (eFrz (fComp (wSeq (eVar 1)) (.nm 17) (bE (eOp gtD (eVar 17) (eVar 7))) (eVar 17) [17])) oNone (oSome (eC (.int 1))))) (.nm 17) bYes (eTup (aCons (eC (.str q_tab)) (aCons (eVar 17) aNil))) [17])) aNil)))
    (sSeq (sExpr (eMm extendM (eVar 5) (aCons (eFrz (fComp (wSeq (eVar 6)) (.tup [(.nm 18), (.nm 15)]) (bE (eChain leD leD (eC (.int 0)) (eVar 15) (eVar 4))) (eTup (aCons (eTup (aCons (eVar 18) aNil)) (aCons (eTup (aCons (eVar 15) (aCons (eVar 8) (aCons (eVar 9) (aCons (eVar 10) aNil))))) aNil))) [18, 15])) aNil)))
    (sSeq (sExpr (eMm appendM (eVar 5) (aCons (eTup (aCons (eTup (aCons (eC (.str q_ribbon)) aNil)) (aCons (eTup (aCons (eVar 7) (aCons (eOp subD (eC (.int 1)) (eVar 8)) (aCons (eVar 9) (aCons (eVar 10) aNil))))) aNil))) aNil)))
    (sSeq (sExpr (eMm appendM (eVar 5) (aCons (eTup (aCons (eTup (aCons (eC (.str q_caps)) aNil)) (aCons (eTup (aCons (eVar 7) (aCons (eVar 8) (aCons (eNot (eVar 9)) (aCons (eVar 10) aNil))))) aNil))) aNil)))
    (sRet (eVar 5)))))))))))
def m_steps_on : FM := callD 4 16 g_steps_on
def g_way_back : SM :=
  (sSeq (sSet 2 (eNew (fLst aNil)))
    (sSeq (sWhile (bE (eOp notNonD (eOp dgetD (eVar 0) (eVar 1)) (eC .non))) (sSeq (sAsg (.tup [(.nm 3), (.nm 4)]) (eOp dgetD (eVar 0) (eVar 1)))
    (sSeq (sExpr (eMm appendM (eVar 2) (aCons (eVar 3) aNil)))
    (sSet 1 (eVar 4)))))
    (sRet (eB tupD (aCons (eRev (eVar 2)) aNil)))))
def m_way_back : FM := callD 2 3 g_way_back
def g__law_goal : SM :=
  (sSeq (sSet 4 (eNew (fLst aNil)))
    (sSeq (sFor (wR1 (eCall m__law_draw (aCons (eVar 0) (aCons (eVar 1) (aCons (eOp addD (eVar 3) (eC (.int 1))) aNil))))) (.nm 5) (sSeq (sSet 6 (eCall m__law_draw (aCons (eVar 0) (aCons (eVar 1) (aCons (eCall m__law_pick (aCons (eVar 0) (aCons (eVar 1) (aCons (eFrz (fLst (aCons (eC (.int 4)) (aCons (eC (.int 9)) (aCons (eOp subD (eOp mulD (eC (.int 2)) (eOp ixD (eVar 2) (eC (.int 0)))) (eC (.int 1))) aNil))))) aNil)))) aNil)))))
    (sExpr (eMm appendM (eVar 4) (aCons (eTup (aCons (eVar 6) (aCons (eCall m__law_pick (aCons (eVar 0) (aCons (eVar 1) (aCons (eC (.str q_x61_41_62_42_30_31_2e_27_5e)) aNil)))) (aCons (eCall m__law_pick (aCons (eVar 0) (aCons (eVar 1) (aCons (eFrz (fLst (aCons (eC (.str q_black)) (aCons (eC (.str q_black)) (aCons (eC (.str q_red)) aNil))))) aNil)))) aNil)))) aNil)))))
    (sRet (eB tupD (aCons (eFrz (fSortSetD (eVar 4))) aNil)))))
def m__law_goal : FM := callD 4 3 g__law_goal
def g__law_tabs : SM :=
  (sSeq (sSet 4 (eCall m__law_draw (aCons (eVar 0) (aCons (eVar 1) (aCons (eOp addD (eVar 3) (eC (.int 1))) aNil)))))
    (sRet (eB tupD (aCons (eFrz (fSortSet (eFrz (fComp (wR1 (eVar 4)) (.nm 5) bYes (eCall m__law_draw (aCons (eVar 0) (aCons (eVar 1) (aCons (eOp addD (eOp mulD (eC (.int 2)) (eOp ixD (eVar 2) (eC (.int 0)))) (eC (.int 1))) aNil)))) [5])))) aNil))))
def m__law_tabs : FM := callD 4 2 g__law_tabs
def g__law_named : SM :=
  (sRet (eMx joinX (eC (.str q_x)) (aCons (eFrz (fComp (wSeq (eVar 0)) (.nm 2) bYes (eDGet2 (eVar 1) (eVar 2) (eVar 2)) [2])) aNil)))
def m__law_named : FM := callD 2 1 g__law_named
def g__wall : SM :=
  (sWhile (bE (eC (.bl true))) sNil)
def m__wall : FM := callD 1 0 g__wall
def g_Typist_undo_v1 : SM :=
  (sExpr (eCall m__wall (aCons (eC (.int 0)) aNil)))
def m_Typist_undo_v1 : FM := callD 1 0 g_Typist_undo_v1
def g_Hand_press : SM :=
  (sExpr (eMm extendM (eFld 1 6 (eVar 0)) (aCons (eOp mulD (eFrz (fLst (aCons (eTup (aCons (eVar 1) aNil)) aNil))) (eVar 2)) aNil)))
def m_Hand_press : FM := callD 3 0 g_Hand_press
def g_stand_behind : SM :=
  (sSeq (sExpr (eCall m_need_machine (aCons (eVar 0) aNil)))
    (sSeq (sExpr (eCall m_need_keys (aCons (eVar 1) aNil)))
    (sSeq (sIf (bE (eOp gtD (eB lenD (aCons (eVar 1) aNil)) (eC (.int 200)))) (sRaise 2) sNil)
    (sSeq (sSet 2 (eOp ixD (eCall m_worked (aCons (eVar 0) (aCons (eTup aNil) (aCons (eVar 1) aNil)))) (eC (.int 0))))
    (sRet (eTup (aCons (eFrz (fB sortedT (aCons (eFrz (fComp (wSeq (eFld 0 11 (eVar 2))) (.nm 3) bYes (eSl (eVar 3) (oSome (eC (.int 1))) oNone) [3])) aNil))) (aCons (eMeth 0 m_Machine_stand (eVar 2) aNil) aNil))))))))
def m_stand_behind : FM := callD 2 2 g_stand_behind
def g__law_touched : SM :=
  (sSeq (sSet 3 (eFrz (fComp (wSeq (eVar 2)) (.nm 6) (bE (eOp inD (eOp ixD (eVar 6) (eC (.int 0))) (eTup (aCons (eC (.str q_struck)) (aCons (eC (.str q_lifted)) (aCons (eC (.str q_nothing)) aNil)))))) (eSl (eVar 6) (oSome (eC (.int 1))) (oSome (eC (.int 3)))) [6])))
    (sSeq (sFor (wSeq (eFrz (fSortSetD (eFrz (fComp (wSeq (eVar 0)) (.nm 6) bYes (eSl (eVar 6) oNone (oSome (eC (.int 2)))) [6]))))) (.nm 4) (sSeq (sSet 5 (eFrz (fB sortedT (aCons (eFrz (fComp (wSeq (eVar 0)) (.nm 6) (bE (eOp eqD (eSl (eVar 6) oNone (oSome (eC (.int 2)))) (eVar 4))) (eVar 6) [6])) aNil))))
    (sIf (bAnd (bE (eOp eqD (eVar 5) (eFrz (fB sortedT (aCons (eFrz (fComp (wSeq (eVar 1)) (.nm 6) (bE (eOp eqD (eSl (eVar 6) oNone (oSome (eC (.int 2)))) (eVar 4))) (eVar 6) [6])) aNil))))) (bE (eOp inD (eVar 4) (eVar 3)))) (sRet (eC (.bl true))) sNil)))
    (sRet (eC (.bl false)))))
def m__law_touched : FM := callD 3 4 g__law_touched
end Lw
end
/-! ## Lc06 -/
noncomputable section
namespace Lw
open PySem PySem.Spec PyProof.Rows L2 RZ Sm
/-! ### texts -/
/-! ### M-code -/
def g_law_k06 : SM :=
  (sSeq (sSet 1 (eNew (fLst aNil)))
    (sSeq (sSet 2 (eCall m__law_pick (aCons (eVar 0) (aCons (eVar 1) (aCons (eFrz (fLst (aCons (eC (.int 4)) (aCons (eC (.int 12)) (aCons (eC (.int 30)) aNil))))) aNil)))))
    (sSeq (sPar 12 13 (aCons (eCall m__law_machine (aCons (eVar 0) (aCons (eVar 1) aNil))) (aCons (eCall m__law_machine (aCons (eVar 0) (aCons (eVar 1) aNil))) aNil)))
    (sSeq (sSet 3 (eCall m__law_keys (aCons (eVar 0) (aCons (eVar 1) (aCons (eVar 2) aNil)))))
    (sSeq (sSet 4 (eCall m__law_both (aCons (eVar 12) (aCons (eVar 3) aNil))))
    (sSeq (sSet 5 (eFrz (fComp (wR1 (eB lenD (aCons (eVar 3) aNil))) (.nm 7) (bE (eOp eqD (eCall m__law_both (aCons (eVar 12) (aCons (eOp addD (eSl (eVar 3) oNone (oSome (eVar 7))) (eSl (eVar 3) (oSome (eOp addD (eVar 7) (eC (.int 1)))) oNone)) aNil))) (eVar 4))) (eVar 7) [7])))
    (sSeq (sIf (bE (eOp neD (eCall m__law_ask_v6 (aCons (eC (.int 0)) (aCons (eVar 12) (aCons (eVar 3) aNil)))) (eVar 5))) (sRet (eC (.bl false))) sNil)
    (sSeq (sSet 6 (eFrz (fB listD (aCons (eVar 3) aNil))))
    (sSeq (sSet 7 (eC (.int 0)))
    (sSeq (sFor (wSeq (eVar 3)) (.nm 8) (sSeq (sSet 14 (eOp addD (eSl (eVar 6) oNone (oSome (eVar 7))) (eSl (eVar 6) (oSome (eOp addD (eVar 7) (eC (.int 1)))) oNone)))
    (sIf (bE (eOp eqD (eCall m__law_both (aCons (eVar 12) (aCons (eVar 14) aNil))) (eVar 4))) (sSet 6 (eVar 14)) (sSet 7 (eOp addD (eVar 7) (eC (.int 1)))))))
    (sSeq (sSet 9 (eCall m__law_ask_v6 (aCons (eC (.int 1)) (aCons (eVar 12) (aCons (eVar 3) aNil)))))
    (sSeq (sIf (bOr (bE (eOp neD (eVar 9) (eB tupD (aCons (eVar 6) aNil)))) (bOr (bE (eOp neD (eCall m_state (aCons (eVar 12) (aCons (eVar 9) aNil))) (eCall m_state (aCons (eVar 12) (aCons (eVar 3) aNil))))) (bNot (bE (eCall m_same_look (aCons (eVar 12) (aCons (eVar 9) (aCons (eVar 3) aNil)))))))) (sRet (eC (.bl false))) sNil)
    (sSeq (sPar 15 16 (aCons (eOp ixD (eCall m__law_worked (aCons (eVar 12) (aCons (eTup aNil) (aCons (eVar 3) aNil)))) (eC (.int 1))) (aCons (eOp ixD (eCall m__law_worked (aCons (eVar 13) (aCons (eTup aNil) (aCons (eVar 3) aNil)))) (eC (.int 1))) aNil)))
    (sSeq (sSet 10 (eFrz (fComp (wR1 (eB lenD (aCons (eVar 3) aNil))) (.nm 17) (bE (eOp neD (eOp ixD (eVar 15) (eVar 17)) (eOp ixD (eVar 16) (eVar 17)))) (eVar 17) [17])))
    (sSeq (sIf (bOr (bE (eOp neD (eCall m_parted (aCons (eVar 12) (aCons (eVar 13) (aCons (eVar 3) aNil)))) (eOp ixD (eOp addD (eVar 10) (eFrz (fLst (aCons (eC .non) aNil)))) (eC (.int 0))))) (bE (eOp notNonD (eCall m_parted (aCons (eVar 12) (aCons (eVar 12) (aCons (eVar 3) aNil)))) (eC .non)))) (sRet (eC (.bl false))) sNil)
    (sSeq (sSet 11 (eOp mulT (eTup (aCons (eTup (aCons (eC (.str q_blank)) aNil)) (aCons (eTup (aCons (eC (.str q_back)) aNil)) aNil))) (eC (.int 30))))
    (sSeq (sIf (bOr (bE (eOp eqD (eCall m__law_ask_v6 (aCons (eC (.int 0)) (aCons (eVar 12) (aCons (eVar 11) aNil)))) (eTup (aCons (eC (.str q_refused)) (aCons (eC (.int 1)) aNil))))) (bE (eOp neD (eCall m__law_ask_v6 (aCons (eC (.int 1)) (aCons (eVar 12) (aCons (eVar 11) aNil)))) (eTup aNil)))) (sRet (eC (.bl false))) sNil)
    (sRet (eOp eqD (eFrz (fComp (wR1 (eC (.int 2))) (.nm 18) bYes (eCall m__law_ask_v6 (aCons (eVar 18) (aCons (eVar 12) (aCons (eOp addD (eVar 11) (eTup (aCons (eTup (aCons (eC (.str q_up)) aNil)) aNil))) aNil)))) [18])) (eOp mulD (eFrz (fLst (aCons (eTup (aCons (eC (.str q_refused)) (aCons (eC (.int 1)) aNil))) aNil))) (eC (.int 2))))))))))))))))))))))
def m_law_k06 : FM := callD 1 18 g_law_k06
end Lw
end
/-! ## Pm0 -/
/-! Pm0: how M-code is evaluated. -/
namespace Sm
section
variable {α β : Type}
@[simp] theorem bind_ok (a : α) (S : Store) (k : α → Store → Res β) : (Res.ok a S).bind k = k a S := rfl
@[simp] theorem bind_exc (c : Nat) (S : Store) (k : α → Store → Res β) : (Res.exc c S : Res α).bind k = .exc c S := rfl
@[simp] theorem bind_stuck (k : α → Store → Res β) : (Res.stuck : Res α).bind k = .stuck := rfl
@[simp] theorem sb_ok (a : α) (S : Store) (ρ : Ev) (k : α → Store → SR) : (Res.ok a S).sb ρ k = k a S := rfl
@[simp] theorem sb_exc (c : Nat) (S : Store) (ρ : Ev) (k : α → Store → SR) : (Res.exc c S : Res α).sb ρ k = .exc c ρ S := rfl
@[simp] theorem sb_stuck (ρ : Ev) (k : α → Store → SR) : (Res.stuck : Res α).sb ρ k = .stuck := rfl
def SR.seq (r : SR) (g : SM) : SR := match r with
  | .nx ρ S => g ρ S
  | r => r
@[simp] theorem seq_nx (ρ : Ev) (S : Store) (g : SM) : (SR.nx ρ S).seq g = g ρ S := rfl
@[simp] theorem seq_rt (d : D) (S : Store) (g : SM) : (SR.rt d S).seq g = .rt d S := rfl
@[simp] theorem seq_exc (c : Nat) (ρ : Ev) (S : Store) (g : SM) : (SR.exc c ρ S).seq g = .exc c ρ S := rfl
@[simp] theorem seq_stuck (g : SM) : (SR.stuck).seq g = .stuck := rfl
@[simp] theorem sSeq_eq (g1 g2 : SM) (ρ : Ev) (S : Store) : sSeq g1 g2 ρ S = (g1 ρ S).seq g2 := by
  unfold sSeq SR.seq
  cases g1 ρ S <;> rfl
def SR.out (r : SR) : Res D := match r with
  | .nx _ S' => .ok .non S'
  | .rt d S' => .ok d S'
  | .exc c _ S' => .exc c S'
  | _ => .stuck
@[simp] theorem out_nx (ρ : Ev) (S : Store) : (SR.nx ρ S).out = .ok .non S := rfl
@[simp] theorem out_rt (d : D) (S : Store) : (SR.rt d S).out = .ok d S := rfl
@[simp] theorem out_exc (c : Nat) (ρ : Ev) (S : Store) : (SR.exc c ρ S).out = .exc c S := rfl
theorem callD_eq {n l : Nat} {g : SM} {ds : List D} {S : Store} (h : ds.length = n) : callD n l g ds S = (g (ds.map some ++ List.replicate l none) S).out := by
  unfold callD
  rw [if_pos h]
  unfold SR.out
  cases g (ds.map some ++ List.replicate l none) S <;> rfl
@[simp] theorem callD0 (l : Nat) (g : SM) (S : Store) : callD 0 l g [] S = (g (List.replicate l none) S).out := callD_eq rfl
@[simp] theorem callD1 (l : Nat) (g : SM) (a : D) (S : Store) : callD 1 l g [a] S = (g (some a :: List.replicate l none) S).out := callD_eq rfl
@[simp] theorem callD2 (l : Nat) (g : SM) (a b : D) (S : Store) : callD 2 l g [a, b] S = (g (some a :: some b :: List.replicate l none) S).out := callD_eq rfl
@[simp] theorem callD3 (l : Nat) (g : SM) (a b c : D) (S : Store) : callD 3 l g [a, b, c] S = (g (some a :: some b :: some c :: List.replicate l none) S).out := callD_eq rfl
@[simp] theorem callD4 (l : Nat) (g : SM) (a b c d : D) (S : Store) : callD 4 l g [a, b, c, d] S = (g (some a :: some b :: some c :: some d :: List.replicate l none) S).out := callD_eq rfl
@[simp] theorem callD5 (l : Nat) (g : SM) (a b c d e : D) (S : Store) : callD 5 l g [a, b, c, d, e] S = (g (some a :: some b :: some c :: some d :: some e :: List.replicate l none) S).out := callD_eq rfl
end
@[simp] theorem rep_1 : List.replicate 1 (none : Option D) = [none] := rfl
@[simp] theorem rep_2 : List.replicate 2 (none : Option D) = [none, none] := rfl
@[simp] theorem rep_3 : List.replicate 3 (none : Option D) = [none, none, none] := rfl
@[simp] theorem rep_4 : List.replicate 4 (none : Option D) = [none, none, none, none] := rfl
@[simp] theorem rep_5 : List.replicate 5 (none : Option D) = [none, none, none, none, none] := rfl
@[simp] theorem rep_6 : List.replicate 6 (none : Option D) = [none, none, none, none, none, none] := rfl
@[simp] theorem rep_7 : List.replicate 7 (none : Option D) = [none, none, none, none, none, none, none] := rfl
@[simp] theorem rep_8 : List.replicate 8 (none : Option D) = [none, none, none, none, none, none, none, none] := rfl
@[simp] theorem rep_9 : List.replicate 9 (none : Option D) = [none, none, none, none, none, none, none, none, none] := rfl
@[simp] theorem rep_10 : List.replicate 10 (none : Option D) = [none, none, none, none, none, none, none, none, none, none] := rfl
@[simp] theorem rep_11 : List.replicate 11 (none : Option D) = [none, none, none, none, none, none, none, none, none, none, none] := rfl
@[simp] theorem rep_12 : List.replicate 12 (none : Option D) = [none, none, none, none, none, none, none, none, none, none, none, none] := rfl
@[simp] theorem rep_13 : List.replicate 13 (none : Option D) = [none, none, none, none, none, none, none, none, none, none, none, none, none] := rfl
@[simp] theorem rep_14 : List.replicate 14 (none : Option D) = [none, none, none, none, none, none, none, none, none, none, none, none, none, none] := rfl
@[simp] theorem rep_15 : List.replicate 15 (none : Option D) = [none, none, none, none, none, none, none, none, none, none, none, none, none, none, none] := rfl
@[simp] theorem rep_16 : List.replicate 16 (none : Option D) = [none, none, none, none, none, none, none, none, none, none, none, none, none, none, none, none] := rfl
@[simp] theorem rep_17 : List.replicate 17 (none : Option D) = [none, none, none, none, none, none, none, none, none, none, none, none, none, none, none, none, none] := rfl
@[simp] theorem rep_18 : List.replicate 18 (none : Option D) = [none, none, none, none, none, none, none, none, none, none, none, none, none, none, none, none, none, none] := rfl
@[simp] theorem rep_19 : List.replicate 19 (none : Option D) = [none, none, none, none, none, none, none, none, none, none, none, none, none, none, none, none, none, none, none] := rfl
/-! ### operators on data of known form -/
section
variable (S : Store) (i j : Int) (s t : List Nat) (a b : List D)
@[simp] theorem ltD_int : ordD (fun i j => decide (i < j)) (fun s t => decide (s < t)) S (.int i) (.int j) = some (.bl (decide (i < j))) := rfl
@[simp] theorem leD_int : ordD (fun i j => decide (i ≤ j)) (fun s t => !decide (t < s)) S (.int i) (.int j) = some (.bl (decide (i ≤ j))) := rfl
@[simp] theorem gtD_int : ordD (fun i j => decide (j < i)) (fun s t => decide (t < s)) S (.int i) (.int j) = some (.bl (decide (j < i))) := rfl
@[simp] theorem geD_int : ordD (fun i j => decide (j ≤ i)) (fun s t => !decide (s < t)) S (.int i) (.int j) = some (.bl (decide (j ≤ i))) := rfl
@[simp] theorem ltD_str : ordD (fun i j => decide (i < j)) (fun s t => decide (s < t)) S (.str s) (.str t) = some (.bl (decide (s < t))) := rfl
@[simp] theorem addD_int : addD S (.int i) (.int j) = some (.int (i + j)) := rfl
@[simp] theorem addD_tup : addD S (.tup a) (.tup b) = cat a b .tup := rfl
@[simp] theorem addD_str : addD S (.str s) (.str t) = if big (s.length + t.length) = true then some (.str (s ++ t)) else none := rfl
@[simp] theorem addD_lst : addD S (.lst a) (.lst b) = cat a b .lst := rfl
@[simp] theorem subD_int : subD S (.int i) (.int j) = some (.int (i - j)) := rfl
end
end Sm
namespace Sm
theorem atI_nat {α : Type} (xs : List α) (n : Nat) : HT.sIx = HT.sIx ∧ L2.atI xs (n : Int) = xs[n]? := by
  refine ⟨rfl, ?_⟩
  unfold L2.atI L2.ixN
  by_cases h : (n : Int) < (xs.length : Int)
  · rw [if_pos (by omega), if_pos h]; simp
  · rw [if_pos (by omega), if_neg h]; simp; omega
@[simp] theorem atI_0 {α : Type} (a : α) (l : List α) : L2.atI (a :: l) 0 = some a := (atI_nat (a :: l) 0).2
@[simp] theorem atI_1 {α : Type} (a b : α) (l : List α) : L2.atI (a :: b :: l) 1 = some b := (atI_nat (a :: b :: l) 1).2
@[simp] theorem atI_2 {α : Type} (a b c : α) (l : List α) : L2.atI (a :: b :: c :: l) 2 = some c := (atI_nat (a :: b :: c :: l) 2).2
@[simp] theorem atI_3 {α : Type} (a b c d : α) (l : List α) : L2.atI (a :: b :: c :: d :: l) 3 = some d := (atI_nat (a :: b :: c :: d :: l) 3).2
theorem atI_neg {α : Type} (xs : List α) : L2.atI xs (-1) = xs.getLast? := by
  unfold L2.atI L2.ixN
  cases xs with
  | nil => simp
  | cons a l =>
    rw [if_neg (by omega), if_pos (by simp; omega), List.getLast?_eq_getElem?]
    simp only [Option.bind_some, List.length_cons]
    congr 1
    omega
@[simp] theorem ixD_tup (S : Store) (xs : List D) (i : Int) : ixD S (.tup xs) (.int i) = L2.atI xs i := rfl
@[simp] theorem ixD_lst (S : Store) (xs : List D) (i : Int) : ixD S (.lst xs) (.int i) = L2.atI xs i := rfl
@[simp] theorem ixD_str (S : Store) (s : List Nat) (i : Int) : ixD S (.str s) (.int i) = if big s.length = true then (L2.atI s i).map fun c => .str [c] else none := rfl
@[simp] theorem lenD_tup (S : Store) (xs : List D) : lenD S [.tup xs] = some (.int xs.length) := rfl
@[simp] theorem lenD_lst (S : Store) (xs : List D) : lenD S [.lst xs] = some (.int xs.length) := rfl
@[simp] theorem lenD_src (S : Store) (xs : List D) : lenD S [.src xs] = some (.int xs.length) := rfl
@[simp] theorem lenD_str (S : Store) (s : List Nat) : lenD S [.str s] = if big s.length = true then some (.int s.length) else none := rfl
@[simp] theorem lenD_obj (S : Store) (j : Nat) : lenD S [.obj j] = (lstOf S (.obj j)).map fun xs => .int xs.length := rfl
@[simp] theorem tupD_obj (S : Store) (j : Nat) : tupD S [.obj j] = (lstOf S (.obj j)).map .tup := rfl
@[simp] theorem tupD_lst (S : Store) (xs : List D) : tupD S [.lst xs] = some (.tup xs) := rfl
@[simp] theorem listD_tup (S : Store) (xs : List D) : listD S [.tup xs] = some xs := rfl
@[simp] theorem mulD_int (S : Store) (i j : Int) : mulD S (.int i) (.int j) = if (in64 i || in64 j) = true then some (.int (i * j)) else none := rfl
@[simp] theorem modD_int (S : Store) (i j : Int) : modD S (.int i) (.int j) = if j ≠ 0 then some (.int (i.fmod j)) else none := rfl
@[simp] theorem divD_int (S : Store) (i j : Int) : divD S (.int i) (.int j) = if (decide (j ≠ 0) && decide (j.natAbs < 1073741824)) = true then some (.int (i.fdiv j)) else none := rfl
@[simp] theorem powD_int (S : Store) (i j : Int) : powD S (.int i) (.int j) = if (decide (0 ≤ j) && decide (j ≤ 1000000) && decide (i.natAbs < 18446744073709551616)) = true then some (.int (i ^ j.toNat)) else none := rfl
@[simp] theorem slD_tup (S : Store) (xs : List D) (lo hi : Option Int) : slD S (.tup xs) lo hi = some (.tup (cutD xs lo hi)) := rfl
@[simp] theorem slD_lst (S : Store) (xs : List D) (lo hi : Option Int) : slD S (.lst xs) lo hi = some (.lst (cutD xs lo hi)) := rfl
@[simp] theorem slD_str (S : Store) (s : List Nat) (lo hi : Option Int) : slD S (.str s) lo hi = if big s.length = true then some (.str (cutD s lo hi)) else none := rfl
section
variable {α : Type}
@[simp] theorem cut_1 (a : α) (l : List α) : cutD (a :: l) (some 1) none = l := by
  unfold cutD HT.sIx; simp
@[simp] theorem cut_14 (a b c d e : α) : cutD [a, b, c, d, e] (some 1) (some 4) = [b, c, d] := rfl
@[simp] theorem cut_13 (a b c d e : α) : cutD [a, b, c, d, e] (some 1) (some 3) = [b, c] := rfl
@[simp] theorem cut_02 (a b : α) (l : List α) : cutD (a :: b :: l) none (some 2) = [a, b] := by
  unfold cutD HT.sIx; simp
@[simp] theorem cut_03 (a b c : α) (l : List α) : cutD (a :: b :: c :: l) none (some 3) = [a, b, c] := by
  unfold cutD HT.sIx; simp
theorem cut_to (l : List α) (n : Nat) : cutD l none (some (n : Int)) = l.take n := by
  unfold cutD HT.sIx
  simp only [List.drop_zero, Nat.sub_zero]
  rw [if_neg (by omega)]
  simp [List.take_eq_take_iff]
end
theorem cut_toI {α : Type} (l : List α) {v : Int} (h : 0 ≤ v) : cutD l none (some v) = l.take v.toNat := by
  have := cut_to l v.toNat
  rwa [show ((v.toNat : Nat) : Int) = v by omega] at this
@[simp] theorem eqD_bl (S : Store) (a b : Bool) : eqD S (.bl a) (.bl b) = some (.bl (a == b)) := rfl
theorem flat_int (n : Nat) (i : Int) : D.flat n (.int i) = true := by cases n <;> rfl
theorem flat_bl (n : Nat) (i : Bool) : D.flat n (.bl i) = true := by cases n <;> rfl
theorem flat_str (n : Nat) (s : List Nat) : D.flat n (.str s) = s.all fun c => decide (c < 1114112) := by cases n <;> rfl
theorem flat_tup (n : Nat) (xs : List D) : D.flat (n + 1) (.tup xs) = D.flats n xs := rfl
theorem flat_lst (n : Nat) (xs : List D) : D.flat (n + 1) (.lst xs) = D.flats n xs := rfl
theorem flats_cons (n : Nat) (x : D) (xs : List D) : D.flats n (x :: xs) = (D.flat n x && D.flats n xs) := rfl
theorem flats_nil (n : Nat) : D.flats n [] = true := rfl
theorem eqv_int (i j : Int) : D.eqv (.int i) (.int j) = (i == j) := rfl
theorem eqv_str (i j : List Nat) : D.eqv (.str i) (.str j) = (i == j) := rfl
theorem eqv_tup (i j : List D) : D.eqv (.tup i) (.tup j) = D.eqvs i j := rfl
theorem eqv_lst (i j : List D) : D.eqv (.lst i) (.lst j) = D.eqvs i j := rfl
theorem eqvs_cons (x y : D) (i j : List D) : D.eqvs (x :: i) (y :: j) = (D.eqv x y && D.eqvs i j) := rfl
theorem eqvs_nil : D.eqvs [] [] = true := rfl
/-- texts below 128 -/
def low (s : List Nat) : Bool := s.all fun c => decide (c < 1114112)
theorem eqD_str (S : Store) {s t : List Nat} (hs : low s = true) (ht : low t = true) : eqD S (.str s) (.str t) = some (.bl (s == t)) := by
  unfold eqD
  rw [if_pos (by simp only [deref, flat_str]; exact Bool.and_eq_true_iff.mpr ⟨hs, ht⟩)]
  rfl
theorem neD_str (S : Store) {s t : List Nat} (hs : low s = true) (ht : low t = true) : neD S (.str s) (.str t) = some (.bl !(s == t)) := by
  unfold neD
  rw [if_pos (by simp only [deref, flat_str]; exact Bool.and_eq_true_iff.mpr ⟨hs, ht⟩)]
  rfl
@[simp] theorem eqD_int (S : Store) (i j : Int) : eqD S (.int i) (.int j) = some (.bl (i == j)) := rfl
@[simp] theorem neD_int (S : Store) (i j : Int) : neD S (.int i) (.int j) = some (.bl !(i == j)) := rfl
end Sm
namespace Sm
@[simp] theorem set_at {α : Type} (l : List α) (i : Nat) (a : α) : (l.set i a)[i]? = (l[i]?).map fun _ => a := by
  by_cases h : i < l.length
  · rw [List.getElem?_set_self h, List.getElem?_eq_getElem h]; rfl
  · rw [List.getElem?_eq_none (by simpa using h), List.getElem?_eq_none (by omega)]; rfl
theorem set_ne {α : Type} {l : List α} {i k : Nat} {a : α} (h : i ≠ k) : (l.set i a)[k]? = l[k]? := List.getElem?_set_ne h
end Sm
namespace Sm
theorem put_nm (i : Nat) (d : D) (ρ : Ev) : (Tg.nm i).put d ρ = some (ρ.set i (some d)) := by unfold Tg.put; rfl
theorem puts_nil (ρ : Ev) : Tg.puts [] [] ρ = some ρ := by unfold Tg.puts; rfl
theorem put_tup2 (i j : Nat) (a b : D) (ρ : Ev) : (Tg.tup [.nm i, .nm j]).put (.tup [a, b]) ρ = some ((ρ.set i (some a)).set j (some b)) := by
  unfold Tg.put Tg.puts
  rw [put_nm]
  unfold Tg.puts
  simp only [put_nm]
  unfold Tg.puts
  rfl
end Sm
/-! ## Pm1 -/
/-! Pm1: lists of data. -/
namespace Sm
open PySem PySem.Spec PyProof.Rows L2 RZ
theorem inB_tup (S : Store) (x : D) (ys : List D) : inB S x (.tup ys) = if (D.flat 0 x && D.flats 0 ys) = true then some (anyEq x ys) else none := by
  cases x with
  | str s => cases s with
    | nil => rfl
    | cons c r => cases r <;> rfl
  | _ => rfl
theorem inB_str (S : Store) (c : Nat) (s : List Nat) : inB S (.str [c]) (.str s) = some (decide (c ∈ s)) := rfl
theorem inB_obj (S : Store) (x : D) (j : Nat) {ys : List D} (h : S[j]? = some (.lst ys)) : inB S x (.obj j) = if (D.flat 64 x && D.flats 63 ys) = true then some (anyEq x ys) else none := by
  unfold inB
  split
  · rename_i e; cases e
  · rename_i e; cases e
  · simp [h]
theorem flats_ints (n : Nat) (l : List Int) : D.flats n (l.map D.int) = true := by
  induction l with
  | nil => cases n <;> rfl
  | cons a l ih => rw [List.map_cons, flats_cons, flat_int, ih]; rfl
theorem flats_signs (n : Nat) {l : List Nat} (h : low l = true) : D.flats n (l.map fun c => D.str [c]) = true := by
  induction l with
  | nil => cases n <;> rfl
  | cons a l ih =>
    unfold low at h ih
    rw [List.all_cons] at h
    obtain ⟨h1, h2⟩ := Bool.and_eq_true_iff.mp h
    rw [List.map_cons, flats_cons, flat_str, ih h2, List.all_cons, h1]; rfl
theorem anyEq_ints (p : Int) (l : List Int) : anyEq (.int p) (l.map D.int) = decide (p ∈ l) := by
  induction l with
  | nil => rfl
  | cons a l ih =>
    rw [List.map_cons, anyEq, ih, eqv_int]
    by_cases h : a = p
    · simp [h]
    · have h2 : ¬ p = a := fun e => h e.symm
      simp [h, h2]
theorem anyEq_signs (c : Nat) (l : List Nat) : anyEq (.str [c]) (l.map fun c => D.str [c]) = decide (c ∈ l) := by
  induction l with
  | nil => rfl
  | cons a l ih =>
    rw [List.map_cons, anyEq, ih, eqv_str]
    by_cases h : a = c
    · simp [h]
    · have h2 : ¬ c = a := fun e => h e.symm
      simp [h, h2]
theorem anyEq_strs (s : List Nat) (l : List (List Nat)) : anyEq (.str s) (l.map D.str) = decide (s ∈ l) := by
  induction l with
  | nil => rfl
  | cons a l ih =>
    rw [List.map_cons, anyEq, ih, eqv_str]
    by_cases h : a = s
    · simp [h]
    · have h2 : ¬ s = a := fun e => h e.symm
      simp [h, h2]
theorem intsOf_ints (l : List Int) : intsOf (l.map D.int) = some l := by
  induction l with
  | nil => rfl
  | cons a l ih => rw [List.map_cons]; unfold intsOf; rw [ih]; rfl
theorem blsOf_bls (l : List Bool) : blsOf (l.map D.bl) = some l := by
  induction l with
  | nil => rfl
  | cons a l ih => rw [List.map_cons]; unfold blsOf; rw [ih]; rfl
theorem placeOf_ints (p : Int) (l : List Int) : placeOf (.int p) (l.map D.int) = if p ∈ l then some (l.idxOf p) else none := by
  induction l with
  | nil => rfl
  | cons a l ih =>
    rw [List.map_cons, placeOf, eqv_int, ih]
    by_cases h : a = p
    · simp [h]
    · have h2 : ¬ p = a := fun e => h e.symm
      by_cases h3 : p ∈ l
      · simp [h, h2, h3, List.idxOf_cons]
        simp [beq_false_of_ne h]
      · simp [h, h2, h3]
/-! ### comprehensions and loops of pure turns -/
theorem compM_go {w : Wk} {tg : Tg} {tt : BM} {el : EM} {ρ0 : Ev} {S : Store} {xs : List D} {b : D → Bool} {f : D → D} (hcur : ∀ i, i < xs.length → w.cur S i = xs[i]?) (hfin : w.fin S = true)
    (h : ∀ x ∈ xs, ∃ ρ1, tg.put x ρ0 = some ρ1 ∧ tt ρ1 S = .ok (b x) S ∧ (b x = true → el ρ1 S = .ok (f x) S)) (hl : xs.length ≤ 16777216) :
    ∀ (k i : Nat) (acc : List D), i + k = xs.length → acc.length ≤ i → compM w tg tt el ρ0 k i S acc = .ok (acc ++ (((xs.drop i).filter b).map f)) S
  | 0, i, acc, e, _ => by
    unfold compM
    rw [if_pos hfin, List.drop_of_length_le (by omega)]
    simp
  | k + 1, i, acc, e, ha => by
    have hi : i < xs.length := by omega
    unfold compM
    rw [hcur i hi, List.getElem?_eq_getElem hi]
    obtain ⟨ρ1, e1, e2, e3⟩ := h xs[i] (List.getElem_mem hi)
    rw [List.drop_eq_getElem_cons hi]
    simp only [e1, e2, Res.nx, bind_ok]
    cases hb : b xs[i] with
    | true =>
      rw [if_pos rfl, e3 hb]
      simp only [Res.nx, bind_ok]
      rw [if_pos (by omega), compM_go hcur hfin h hl k (i + 1) _ (by omega) (by simp; omega), List.filter_cons_of_pos hb]
      simp
    | false =>
      rw [if_neg (by decide), compM_go hcur hfin h hl k (i + 1) _ (by omega) (by omega), List.filter_cons_of_neg (by simp [hb])]
theorem fComp_pure {fi : WM} {tg : Tg} {tt : BM} {el : EM} {own : List Nat} {ρ : Ev} {S : Store} {w : Wk} {xs : List D} {b : D → Bool} {f : D → D} (hf : fi ρ S = .ok w S) (hn : w.n = xs.length) (hcur : ∀ i, i < xs.length → w.cur S i = xs[i]?) (hfin : w.fin S = true)
    (h : ∀ x ∈ xs, ∃ ρ1, tg.put x (wipeE ρ own) = some ρ1 ∧ tt ρ1 S = .ok (b x) S ∧ (b x = true → el ρ1 S = .ok (f x) S)) (hl : xs.length ≤ 16777216) :
    fComp fi tg tt el own ρ S = .ok ((xs.filter b).map f) S := by
  unfold fComp
  rw [hf, bind_ok, hn, compM_go hcur hfin h hl xs.length 0 [] (by omega) (by simp)]
  simp
/-- over frozen things: the list itself -/
theorem fComp_L {fi : WM} {tg : Tg} {tt : BM} {el : EM} {own : List Nat} {ρ : Ev} {S : Store} {xs : List D} {b : D → Bool} {f : D → D} (hf : fi ρ S = .ok (wkL xs) S)
    (h : ∀ x ∈ xs, ∃ ρ1, tg.put x (wipeE ρ own) = some ρ1 ∧ tt ρ1 S = .ok (b x) S ∧ (b x = true → el ρ1 S = .ok (f x) S)) (hl : xs.length ≤ 16777216) :
    fComp fi tg tt el own ρ S = .ok ((xs.filter b).map f) S := fComp_pure hf rfl (fun _ _ => rfl) rfl h hl
theorem wkO_cur {S : Store} {j : Nat} {xs : List D} (h : S[j]? = some (.lst xs)) (i : Nat) : (wkO j xs.length).cur S i = xs[i]? := by unfold wkO; simp [h]
theorem wkO_fin {S : Store} {j : Nat} {xs : List D} (h : S[j]? = some (.lst xs)) : (wkO j xs.length).fin S = true := by unfold wkO; simp [h]
/-- over a list of the store -/
theorem fComp_O {fi : WM} {tg : Tg} {tt : BM} {el : EM} {own : List Nat} {ρ : Ev} {S : Store} {j : Nat} {xs : List D} {b : D → Bool} {f : D → D} (hf : fi ρ S = .ok (wkO j xs.length) S) (hj : S[j]? = some (.lst xs))
    (h : ∀ x ∈ xs, ∃ ρ1, tg.put x (wipeE ρ own) = some ρ1 ∧ tt ρ1 S = .ok (b x) S ∧ (b x = true → el ρ1 S = .ok (f x) S)) (hl : xs.length ≤ 16777216) :
    fComp fi tg tt el own ρ S = .ok ((xs.filter b).map f) S := fComp_pure hf rfl (fun i _ => wkO_cur hj i) (wkO_fin hj) h hl
def enumD (xs : List D) (n : Nat) : List D := match xs with
  | [] => []
  | x :: r => .tup [.int (n : Nat), x] :: enumD r (n + 1)
theorem enumD_len : ∀ (xs : List D) (n : Nat), (enumD xs n).length = xs.length
  | [], _ => rfl
  | x :: r, n => by unfold enumD; rw [List.length_cons, enumD_len r]; rfl
theorem enumD_get : ∀ (xs : List D) (n i : Nat), (enumD xs n)[i]? = (xs[i]?).map fun d => .tup [.int ((n + i : Nat) : Int), d]
  | [], _, _ => by simp [enumD]
  | x :: r, n, 0 => by simp [enumD]
  | x :: r, n, i + 1 => by
    unfold enumD
    rw [List.getElem?_cons_succ, List.getElem?_cons_succ, enumD_get r (n + 1) i, show n + 1 + i = n + (i + 1) by omega]
/-- enumerate of a list of the store -/
theorem fComp_EO {fi : WM} {tg : Tg} {tt : BM} {el : EM} {own : List Nat} {ρ : Ev} {S : Store} {j : Nat} {xs : List D} {b : D → Bool} {f : D → D} (hf : fi ρ S = .ok (wkE (wkO j xs.length)) S) (hj : S[j]? = some (.lst xs))
    (h : ∀ x ∈ enumD xs 0, ∃ ρ1, tg.put x (wipeE ρ own) = some ρ1 ∧ tt ρ1 S = .ok (b x) S ∧ (b x = true → el ρ1 S = .ok (f x) S)) (hl : xs.length ≤ 16777216) :
    fComp fi tg tt el own ρ S = .ok (((enumD xs 0).filter b).map f) S := by
  refine fComp_pure hf (enumD_len xs 0).symm (fun i _ => ?_) (wkO_fin hj) h (by rw [enumD_len]; exact hl)
  show ((wkO j xs.length).cur S i).map _ = _
  rw [wkO_cur hj, enumD_get]
  simp
end Sm
/-! ## Pm2 -/
/-! Pm2: the machine at work, plainly. -/
namespace Lw
open PySem PySem.Spec PyProof.Rows L2 RZ Sm
/-- a strike: number, row, place, sign, red -/
structure Mk where
  n : Int
  row : Int
  place : Int
  sign : Nat
  red : Bool
  deriving DecidableEq
def colD (r : Bool) : D := .str (if r = true then q_red else q_black)
def Mk.tail (k : Mk) : List D := [.int k.row, .int k.place, .str [k.sign], colD k.red]
def Mk.d (k : Mk) : D := .tup (.int k.n :: k.tail)
structure PM where
  dead : List Nat
  down : Int
  fin : Int
  row : Int
  place : Int
  lo : Int
  hi : Int
  tabs : List Int
  red : Bool
  caps : Bool
  free : Bool
  marks : List Mk
  rings : List Int
  many : Int
def PM.fields (M : PM) (t j : Nat) : List D := [.tup (M.dead.map fun c => .str [c]), .int M.down, .int M.fin, .int M.row, .int M.place, .int M.lo, .int M.hi, .obj t, colD M.red, .bl M.caps, .bl M.free, .obj (j + 2), .obj (j + 3), .int M.many]
/-- how it stands in the store: the instance at j, its tabs at t -/
structure Rep (S : Store) (j t : Nat) (M : PM) : Prop where
  ins : S[j]? = some (.ins 0 (M.fields t j))
  tabs : S[t]? = some (.lst (M.tabs.map D.int))
  marks : S[j + 2]? = some (.lst (M.marks.map Mk.d))
  rings : S[j + 3]? = some (.lst (M.rings.map D.int))
  n1 : j < t
  n2 : t ≠ j + 2
  n3 : t ≠ j + 3
/-- what stood below j stands -/
structure Fr (S S' : Store) (j : Nat) : Prop where
  len : S.length ≤ S'.length
  keep : ∀ i, i < j → S'[i]? = S[i]?
theorem Fr.refl {S : Store} {j : Nat} : Fr S S j := ⟨Nat.le_refl _, fun _ _ => rfl⟩
theorem Fr.trans {S S' S'' : Store} {j : Nat} (a : Fr S S' j) (b : Fr S' S'' j) : Fr S S'' j := ⟨Nat.le_trans a.len b.len, fun i h => (b.keep i h).trans (a.keep i h)⟩
theorem Fr.set {S S' : Store} {j k : Nat} {o : O} (a : Fr S S' j) (h : j ≤ k) : Fr S (S'.set k o) j :=
  ⟨by rw [List.length_set]; exact a.len, fun i hi => by rw [List.getElem?_set_ne (by omega)]; exact a.keep i hi⟩
theorem Fr.app {S S' : Store} {j : Nat} {o : List O} (a : Fr S S' j) (h : j ≤ S.length) : Fr S (S' ++ o) j :=
  ⟨by rw [List.length_append]; have := a.len; omega, fun i hi => by rw [List.getElem?_append_left (by have := a.len; omega)]; exact a.keep i hi⟩
def PM.locked (M : PM) (p : Int) : Bool := decide (M.fin < p) || (!M.free && decide (M.hi < p))
def PM.goOn (M : PM) (p : Int) : PM := { M with rings := if M.place < M.hi - 10 ∧ M.hi - 10 ≤ p then M.rings ++ [M.many] else M.rings, place := p }
/-- the sign as it is struck -/
def up (c : Nat) (caps : Bool) : Nat := if caps = true ∧ 97 ≤ c ∧ c ≤ 122 then c - 32 else c
def PM.mark (M : PM) (c : Nat) : Mk := ⟨M.many, M.row, M.place, up c M.caps, M.red⟩
def lockedD : D := .tup [.str q_locked]
/-- the carriage goes on behind a sign -/
def PM.onward (M : PM) (c : Nat) : PM := if c ∈ M.dead then M else M.goOn (M.place + 2)
def PM.strike (M : PM) (c : Nat) : D × PM :=
  if M.locked (M.place + 2) = true then (lockedD, M) else (.tup (.str q_struck :: (M.mark c).tail), ({ M with marks := M.marks ++ [M.mark c] } : PM).onward c)
/-- the last one for which q stands, taken off -/
def offLast (q : Mk → Bool) : List Mk → Option (Mk × List Mk)
  | [] => none
  | m :: r => match offLast q r with
    | some (k, r') => some (k, m :: r')
    | none => if q m = true then some (m, r) else none
def Mk.at_ (k m : Mk) : Bool := decide (m.row = k.row) && decide (m.place = k.place) && decide (m.sign = k.sign)
def PM.lift (M : PM) (c : Nat) : D × PM :=
  if M.locked (M.place + 2) = true then (lockedD, M) else
    match offLast (M.mark c).at_ M.marks with
    | some (k, r) => (.tup (.str q_lifted :: k.tail), ({ M with marks := r } : PM).onward c)
    | none => (.tup [.str q_nothing, .int M.row, .int M.place], M.onward c)
inductive Wd where
  | blank | half | back | tab | ret | up | down | left | right | set | clear | all | free | ribbon | caps
  deriving DecidableEq
def Wd.t : Wd → List Nat
  | .blank => q_blank | .half => q_half | .back => q_back | .tab => q_tab | .ret => q_return | .up => q_up | .down => q_down | .left => q_left | .right => q_right | .set => q_set | .clear => q_clear | .all => q_all | .free => q_free | .ribbon => q_ribbon | .caps => q_caps
def movedD (row place : Int) : D := .tup [.str q_moved, .int row, .int place]
/-- on along the row to a place -/
def PM.to (M : PM) (p : Int) : D × PM := if M.locked p = true then (lockedD, M) else (movedD M.row p, M.goOn p)
def PM.tabAt (M : PM) : Int := ((M.tabs.filter fun t => decide (M.place < t)) ++ [M.fin + 1]).headD 0
def PM.back (M : PM) : D × PM := if M.place - 2 < 0 ∨ (M.free = false ∧ M.place - 2 < M.lo ∧ M.lo ≤ M.place) then (lockedD, M) else (movedD M.row (M.place - 2), { M with place := M.place - 2 })
def PM.rollTo (M : PM) (r : Int) (ret : Bool) : D × PM := if ¬ (0 ≤ r ∧ r ≤ 60) then (lockedD, M) else
  if ret = true then (movedD r M.lo, { M with row := r, place := M.lo, free := false }) else (movedD r M.place, { M with row := r })
def doneD : D := .tup [.str q_done]
def PM.word (M : PM) : Wd → D × PM
  | .blank => M.to (M.place + 2)
  | .half => M.to (M.place + 1)
  | .back => M.back
  | .tab => M.to M.tabAt
  | .ret => M.rollTo (M.row + M.down) true
  | .up => M.rollTo (M.row + -1) false
  | .down => M.rollTo (M.row + 1) false
  | .left => if M.place < M.hi then (doneD, { M with lo := M.place }) else (lockedD, M)
  | .right => if M.lo < M.place then (doneD, { M with hi := M.place }) else (lockedD, M)
  | .set => (doneD, { M with tabs := sortU (M.tabs ++ [M.place]) })
  | .clear => if M.place ∈ M.tabs then (doneD, { M with tabs := M.tabs.erase M.place }) else (lockedD, M)
  | .all => (doneD, { M with tabs := [] })
  | .free => (doneD, { M with free := true })
  | .ribbon => (doneD, { M with red := !M.red })
  | .caps => (doneD, { M with caps := !M.caps })
inductive Key where
  | sign (c : Nat) | lift (c : Nat) | word (w : Wd)
  deriving DecidableEq
def Key.d : Key → D
  | .sign c => .tup [.str q_sign, .str [c]]
  | .lift c => .tup [.str q_lift, .str [c]]
  | .word w => .tup [.str w.t]
def PM.turn (M : PM) : Key → D × PM
  | .sign c => M.strike c
  | .lift c => M.lift c
  | .word w => M.word w
def PM.press (M : PM) (k : Key) : D × PM := ((M.turn k).1, { (M.turn k).2 with many := (M.turn k).2.many + 1 })
end Lw
/-! ## Pm3 -/
/-! Pm3: the machine's M-code does what Pm2 says. -/
namespace Lw
open PySem PySem.Spec PyProof.Rows L2 RZ Sm
abbrev qLET : List Nat := q_x61_62_63_64_65_66_67_68_69_6a_6b_6c_6d_6e_26
abbrev qGRT : List Nat := q_x41_42_43_44_45_46_47_48_49_4a_4b_4c_4d_4e_26
abbrev qSIG : List Nat := q_x61_62_63_64_65_66_67_68_69_6a_6b_6c_6d_6e_42
abbrev qDEAD : List Nat := q_x27_5e_7e
theorem let_mem (c : Nat) : c ∈ qLET ↔ 97 ≤ c ∧ c ≤ 122 := by simp only [List.mem_cons, List.not_mem_nil, or_false]; omega
theorem let_idx : ∀ c ∈ qLET, idxOf qLET [c] = some (c - 97) := by decide +kernel
theorem let_up : ∀ c ∈ qLET, L2.atI qGRT ((c - 97 : Nat) : Int) = some (c - 32) := by decide +kernel
theorem sig_low : ∀ c ∈ qSIG, c < 128 := by decide +kernel
theorem struck_as_spec (c : Nat) (caps : Bool) (S : Store) : m_struck_as [.str [c], .bl caps] S = .ok (.str [up c caps]) S := by
  unfold m_struck_as g_struck_as up
  by_cases h : c ∈ qLET
  · have h2 := (let_mem c).mp h
    have e1 := let_idx c h
    have e2 := let_up c h
    cases caps
    · simp [inB_str]
    · simp only [qLET, qGRT] at e1 e2 h
      simp [-idxOf, inB_str, h, h2, e1, e2]
  · have h2 : ¬ (97 ≤ c ∧ c ≤ 122) := fun z => h ((let_mem c).mpr z)
    simp only [qLET] at h
    cases caps <;> simp [inB_str, h, h2]
section
variable {S : Store} {j t : Nat} {M : PM}
theorem locked_spec (h : Rep S j t M) (p : Int) : m_Machine_is_locked [.obj j, .int p] S = .ok (.bl (M.locked p)) S := by
  unfold m_Machine_is_locked g_Machine_is_locked PM.locked
  have := h.ins
  simp [this, PM.fields]
  by_cases h1 : M.fin < p <;> by_cases h2 : M.free <;> simp [h1, h2]
theorem goOn_spec (h : Rep S j t M) (hr : M.rings.length < 16777216) (p : Int) : ∃ S', m_Machine_go_on [.obj j, .int p] S = .ok .non S' ∧ Rep S' j t (M.goOn p) ∧ Fr S S' j := by
  unfold m_Machine_go_on g_Machine_go_on PM.goOn
  obtain ⟨h1, h2, h3, h4, h5, h6, h7⟩ := h
  have n1 := Nat.ne_of_gt h5
  have n2 := Nat.ne_of_lt h5
  have n3 := Ne.symm h6
  have n4 := Ne.symm h7
  by_cases c1 : M.place < M.hi - 10 <;> by_cases c2 : M.hi - 10 ≤ p <;> simp [h1, h4, c1, c2, PM.fields, hr, onL, lstOf, set_ne]
  all_goals exact ⟨⟨by simp [set_ne, h1, PM.fields], by simp [set_ne, h2, *], by simp [set_ne, h3], by simp [set_ne, h4], h5, h6, h7⟩, by repeat' first | exact Fr.refl | refine Fr.set ?_ (by omega)⟩
theorem put_rep {x : O} {k : Nat} (h : S[k]? = some x) (y : O) : (S.set k y)[k]? = some y := by simp [h]
theorem notin_dead {D0 : List Nat} (hd : low D0 = true) {c : Nat} (hc : c < 128) (S : Store) : inB S (.str [c]) (.tup (D0.map fun c => .str [c])) = some (decide (c ∈ D0)) := by
  rw [inB_tup, anyEq_signs, flats_signs _ hd, if_pos]
  rw [flat_str]
  simp; omega
theorem strike_spec (h : Rep S j t M) (hd : low M.dead = true) {c : Nat} (hc : c < 128) (hm : M.marks.length < 16777216) (hr : M.rings.length < 16777216) :
    ∃ S', m_Machine_strike [.obj j, .str [c]] S = .ok (M.strike c).1 S' ∧ Rep S' j t (M.strike c).2 ∧ Fr S S' j := by
  unfold m_Machine_strike g_Machine_strike PM.strike
  have hl := locked_spec h (M.place + 2)
  obtain ⟨h1, h2, h3, h4, h5, h6, h7⟩ := h
  have n1 := Nat.ne_of_gt h5
  have n2 := Nat.ne_of_lt h5
  have n3 := Ne.symm h6
  have n4 := Ne.symm h7
  have h1' := h1
  unfold PM.fields at h1'
  by_cases c1 : M.locked (M.place + 2) = true
  · simp [h1', hl, c1, struck_as_spec, lockedD]
    exact ⟨⟨h1, h2, h3, h4, h5, h6, h7⟩, .refl⟩
  · have r1 : Rep (S.set (j + 2) (O.lst ((M.marks ++ [M.mark c]).map Mk.d))) j t { M with marks := M.marks ++ [M.mark c] } :=
      ⟨by simp [set_ne, h1, PM.fields], by simp [set_ne, h2, *], by simp [set_ne, h3], by simp [set_ne, h4], h5, h6, h7⟩
    obtain ⟨S2, e2, r2, f2⟩ := goOn_spec r1 hr (M.place + 2)
    have hin := notin_dead hd hc
    simp only [List.map_append, List.map_cons, List.map_nil, Mk.d, Mk.tail, PM.mark] at e2
    by_cases c2 : c ∈ M.dead
    · simp [h1', hl, c1, struck_as_spec, h3, hm, onL, set_ne, hin, c2, Mk.d, Mk.tail, PM.mark, PM.onward]
      exact ⟨⟨by simp [set_ne, h1, PM.fields], by simp [set_ne, h2, *], by simp [set_ne, h3, Mk.d, Mk.tail], by simp [set_ne, h4], h5, h6, h7⟩, Fr.set .refl (by omega)⟩
    · simp [h1', hl, c1, struck_as_spec, h3, hm, onL, set_ne, hin, c2, Mk.d, Mk.tail, PM.mark, PM.onward, e2]
      exact ⟨r2, (Fr.set .refl (by omega)).trans f2⟩
end
/-! ### lift -/
theorem map_erase {α β : Type} (f : α → β) : ∀ (l : List α) (i : Nat), (l.map f).eraseIdx i = (l.eraseIdx i).map f
  | [], _ => by simp
  | a :: l, 0 => by simp
  | a :: l, i + 1 => by simp [map_erase f l i]
def ixs (q : Mk → Bool) : List Mk → Nat → List Nat
  | [], _ => []
  | m :: r, n => if q m = true then n :: ixs q r (n + 1) else ixs q r (n + 1)
theorem ixs_off (q : Mk → Bool) : ∀ (l : List Mk) (n : Nat), match offLast q l with
    | none => ixs q l n = []
    | some (k, r) => ∃ i, (ixs q l n).getLast? = some (n + i) ∧ l[i]? = some k ∧ l.eraseIdx i = r
  | [], n => rfl
  | m :: l, n => by
    have ih := ixs_off q l (n + 1)
    unfold offLast ixs
    cases h : offLast q l with
    | some p =>
      obtain ⟨k, r⟩ := p
      rw [h] at ih
      obtain ⟨i, e1, e2, e3⟩ := ih
      refine ⟨i + 1, ?_, by simpa using e2, by simp [e3]⟩
      have e4 : n + 1 + i = n + (i + 1) := by omega
      split
      · rw [List.getLast?_cons, e1, e4]; rfl
      · rw [e1, e4]
    | none =>
      rw [h] at ih
      have ih' : ixs q l (n + 1) = [] := ih
      by_cases hq : q m = true
      · simp only [if_pos hq, ih']
        exact ⟨0, by simp, by simp, by simp⟩
      · simp only [if_neg hq, ih']
def enB (like : List D) (x : D) : Bool := match x with
  | .tup [_, .tup [_, r, p, s, _]] => D.eqvs [r, p, s] like
  | _ => false
def enF (x : D) : D := match x with
  | .tup (i :: _) => i
  | _ => .non
theorem enB_at (n : Nat) (m k : Mk) : enB [.int k.row, .int k.place, .str [k.sign]] (.tup [.int (n : Nat), m.d]) = k.at_ m := by
  unfold enB Mk.d Mk.tail Mk.at_
  simp [eqvs_cons, eqvs_nil, eqv_int, eqv_str]
  rw [Bool.eq_iff_iff]
  simp [and_assoc]
theorem enum_ixs (k : Mk) : ∀ (l : List Mk) (n : Nat), ((enumD (l.map Mk.d) n).filter (enB [.int k.row, .int k.place, .str [k.sign]])).map enF = (ixs k.at_ l n).map fun (i : Nat) => D.int (i : Int)
  | [], _ => rfl
  | m :: l, n => by
    rw [List.map_cons, enumD, List.filter_cons, enB_at, ixs]
    split
    · rw [List.map_cons, enum_ixs k l (n + 1)]; rfl
    · rw [enum_ixs k l (n + 1)]
theorem enum_mem : ∀ (l : List Mk) (n : Nat) (x : D), x ∈ enumD (l.map Mk.d) n → ∃ (i : Nat) (m : Mk), x = .tup [.int i, m.d] ∧ m ∈ l
  | [], _, _, h => by simp [enumD] at h
  | m :: l, n, x, h => by
    rw [List.map_cons, enumD] at h
    rcases List.mem_cons.mp h with e | h
    · exact ⟨n, m, e, by simp⟩
    · obtain ⟨i, m', e, hm⟩ := enum_mem l (n + 1) x h
      exact ⟨i, m', e, by simp [hm]⟩
theorem flats_nats (n : Nat) (l : List Nat) : D.flats n (l.map fun (i : Nat) => D.int (i : Int)) = true := by
  induction l with
  | nil => cases n <;> rfl
  | cons a l ih => rw [List.map_cons, flats_cons, flat_int, ih]; rfl
theorem ne_nil_nats (S : Store) (l : List Nat) : neD S (.lst (l.map fun (i : Nat) => D.int (i : Int))) (.lst []) = some (.bl (!l.isEmpty)) := by
  unfold neD
  rw [if_pos (by simp only [deref, flat_lst, flats_nats]; rfl)]
  cases l <;> rfl
section
variable {S : Store} {j t : Nat} {M : PM}
theorem lift_spec (h : Rep S j t M) (hd : low M.dead = true) (hs : ∀ m ∈ M.marks, m.sign < 128) {c : Nat} (hc : c < 128) (hm : M.marks.length < 16777216) (hr : M.rings.length < 16777216) :
    ∃ S', m_Machine_lift [.obj j, .str [c]] S = .ok (M.lift c).1 S' ∧ Rep S' j t (M.lift c).2 ∧ Fr S S' j := by
  unfold m_Machine_lift g_Machine_lift PM.lift
  have hl := locked_spec h (M.place + 2)
  have hgo := goOn_spec h hr (M.place + 2)
  obtain ⟨h1, h2, h3, h4, h5, h6, h7⟩ := h
  have n1 := Nat.ne_of_gt h5
  have n2 := Nat.ne_of_lt h5
  have n3 := Ne.symm h6
  have n4 := Ne.symm h7
  have h1' := h1
  unfold PM.fields at h1'
  have hin := notin_dead hd hc
  by_cases c1 : M.locked (M.place + 2) = true
  · simp [h1', hl, c1, struck_as_spec, lockedD]
    exact ⟨⟨h1, h2, h3, h4, h5, h6, h7⟩, .refl⟩
  · have hup : up c M.caps < 1114112 := by unfold up; split <;> omega
    generalize hC : fComp (wEnum (eFld 0 11 (eVar 0))) (.tup [(.nm 5), (.nm 6)]) (bE (eOp eqD (eSl (eVar 6) (oSome (eC (.int 1))) (oSome (eC (.int 4)))) (eVar 2))) (eVar 5) [5, 6] = C
    have hcomp : C [some (.obj j), some (.str [c]), some (.tup [.int M.row, .int M.place, .str [up c M.caps]]), none, none, none, none] S = .ok ((ixs (M.mark c).at_ M.marks 0).map fun (i : Nat) => D.int (i : Int)) S := by
      rw [← hC, fComp_EO (b := enB [.int (M.mark c).row, .int (M.mark c).place, .str [(M.mark c).sign]]) (f := enF) (by simp [h1', h3]) h3 (fun x hx => ?_) (by simp; omega), enum_ixs]
      obtain ⟨i, m, rfl, hm'⟩ := enum_mem _ _ _ hx
      have hms := hs m hm'
      refine ⟨_, rfl, ?_, fun _ => by simp [wipeE, enF]⟩
      simp [Mk.d, Mk.tail, eqD, flat_tup, flats_cons, flats_nil, flat_int, flat_str, show m.sign < 1114112 by omega, hup, eqv_tup, enB, PM.mark, wipeE]
    have ho := ixs_off (M.mark c).at_ M.marks 0
    cases hoff : offLast (M.mark c).at_ M.marks with
    | none =>
      rw [hoff] at ho
      have ho' : ixs (M.mark c).at_ M.marks 0 = [] := ho
      rw [ho'] at hcomp
      have hne := ne_nil_nats S []
      obtain ⟨S2, e2, r2, f2⟩ := hgo
      by_cases c2 : c ∈ M.dead
      · simp [h1', hl, c1, struck_as_spec, hcomp, hin, c2, PM.onward] at hne ⊢
        simp [hne, h1', hin, c2]
        exact ⟨⟨h1, h2, h3, h4, h5, h6, h7⟩, .refl⟩
      · simp [h1', hl, c1, struck_as_spec, hcomp, hin, c2, PM.onward] at hne ⊢
        simp [hne, h1', hin, c2, e2]
        exact ⟨r2, f2⟩
    | some p =>
      obtain ⟨k, r⟩ := p
      rw [hoff] at ho
      obtain ⟨i, e1, e2, e3⟩ := ho
      rw [Nat.zero_add] at e1
      have r1 : Rep (S.set (j + 2) (O.lst (r.map Mk.d))) j t { M with marks := r } :=
        ⟨by simp [set_ne, h1, PM.fields], by simp [set_ne, h2, *], by simp [set_ne, h3], by simp [set_ne, h4], h5, h6, h7⟩
      obtain ⟨S2, e4, r2, f2⟩ := goOn_spec r1 hr (M.place + 2)
      have hil : i < M.marks.length := (List.getElem?_eq_some_iff.mp e2).1
      have hnm : ixs (M.mark c).at_ M.marks 0 ≠ [] := fun z => by rw [z] at e1; cases e1
      have hne := ne_nil_nats S (ixs (M.mark c).at_ M.marks 0)
      rw [show (ixs (M.mark c).at_ M.marks 0).isEmpty = false by cases hz : ixs (M.mark c).at_ M.marks 0 with | nil => exact (hnm hz).elim | cons => rfl] at hne
      have hix : L2.atI ((ixs (M.mark c).at_ M.marks 0).map fun (i : Nat) => D.int (i : Int)) (-1) = some (.int (i : Int)) := by
        rw [atI_neg, List.getLast?_map, e1]; rfl
      have hpop : popM S (.obj (j + 2)) [.int (i : Int)] = some (k.d, S.set (j + 2) (O.lst (r.map Mk.d))) := by
        have h63 : in63 (i : Int) = true := by unfold in63; rw [Bool.and_eq_true]; exact ⟨decide_eq_true (by omega), decide_eq_true (by omega)⟩
        have hN : L2.ixN (M.marks.map Mk.d).length (i : Int) = some i := by unfold L2.ixN; rw [if_pos (by omega), if_pos (by rw [List.length_map]; omega)]; simp
        have hk : (M.marks.map Mk.d)[i]? = some k.d := by rw [List.getElem?_map, e2]; rfl
        unfold popM
        simp only [onL, h3, hN, hk, h63, if_true, Option.bind_some, map_erase, e3]
        rfl
      by_cases c2 : c ∈ M.dead
      · simp [-popM, h1', hl, c1, struck_as_spec, hcomp, hin, c2, PM.onward, hne, hix, hpop, h3, Mk.d, Mk.tail]
        exact ⟨r1, Fr.set .refl (by omega)⟩
      · simp [-popM, h1', hl, c1, struck_as_spec, hcomp, hin, c2, PM.onward, hne, hix, hpop, h3, Mk.d, Mk.tail, set_ne, e4]
        exact ⟨r2, (Fr.set .refl (by omega)).trans f2⟩
end
end Lw
/-! ## Pm4 -/
/-! Pm4: moves, rolls, turns. -/
namespace Lw
open PySem PySem.Spec PyProof.Rows L2 RZ Sm
section
variable {S : Store} {j t : Nat} {M : PM}
theorem to_tail (h : Rep S j t M) (hr : M.rings.length < 16777216) (p : Int) : ∃ S', (if M.locked p = true then (Res.ok lockedD S : Res D) else (m_Machine_go_on [.obj j, .int p] S).bind fun _ S1 => .ok (movedD M.row p) S1) = .ok (M.to p).1 S' ∧ Rep S' j t (M.to p).2 ∧ Fr S S' j := by
  unfold PM.to
  by_cases c : M.locked p = true
  · simp [c, h]; exact .refl
  · obtain ⟨S2, e, r, f⟩ := goOn_spec h hr p
    simp [c, e, r, f]
theorem back_spec (h : Rep S j t M) : ∃ S', m_Machine_move [.obj j, .str q_back] S = .ok (M.word .back).1 S' ∧ Rep S' j t (M.word .back).2 ∧ Fr S S' j := by
  unfold m_Machine_move g_Machine_move
  show ∃ S', _ = Res.ok M.back.1 S' ∧ Rep S' j t M.back.2 ∧ _
  unfold PM.back
  obtain ⟨h1, h2, h3, h4, h5, h6, h7⟩ := h
  have n1 := Nat.ne_of_gt h5
  have n2 := Nat.ne_of_lt h5
  have h1' := h1
  unfold PM.fields at h1'
  have e0 : eqD S (.str q_back) (.str q_back) = some (.bl true) := rfl
  by_cases c1 : M.place - 2 < 0
  · simp [h1', e0, c1, lockedD]
    exact ⟨⟨h1, h2, h3, h4, h5, h6, h7⟩, .refl⟩
  · cases c2 : M.free
    · by_cases c3 : M.place - 2 < M.lo
      · by_cases c4 : M.lo ≤ M.place
        · simp [h1', e0, c1, c2, c3, c4, lockedD]
          exact ⟨⟨h1, h2, h3, h4, h5, h6, h7⟩, .refl⟩
        · simp [h1', e0, c1, c2, c3, c4, movedD]
          exact ⟨⟨by simp [set_ne, h1, PM.fields, c2], by simp [set_ne, h2, *], by simp [set_ne, h3], by simp [set_ne, h4], h5, h6, h7⟩, Fr.set .refl (by omega)⟩
      · simp [h1', e0, c1, c2, c3, movedD]
        exact ⟨⟨by simp [set_ne, h1, PM.fields, c2], by simp [set_ne, h2, *], by simp [set_ne, h3], by simp [set_ne, h4], h5, h6, h7⟩, Fr.set .refl (by omega)⟩
    · simp [h1', e0, c1, c2, movedD]
      exact ⟨⟨by simp [set_ne, h1, PM.fields, c2], by simp [set_ne, h2, *], by simp [set_ne, h3], by simp [set_ne, h4], h5, h6, h7⟩, Fr.set .refl (by omega)⟩
def goBy (S : Store) (w : Wd) (p : Int) (j : Nat) (M : PM) : Res D := if M.locked p = true then (Res.ok lockedD S : Res D) else (m_Machine_go_on [.obj j, .int p] S).bind fun _ S1 => .ok (movedD M.row p) S1
theorem steps_spec (h : Rep S j t M) (hr : M.rings.length < 16777216) (w : Wd) (p : Int) (hw : (w = .blank ∧ p = M.place + 2) ∨ (w = .half ∧ p = M.place + 1)) : ∃ S', m_Machine_move [.obj j, .str w.t] S = .ok (M.to p).1 S' ∧ Rep S' j t (M.to p).2 ∧ Fr S S' j := by
  unfold m_Machine_move g_Machine_move PM.to
  have hl := locked_spec h
  obtain ⟨S2, e, r, f⟩ := goOn_spec h hr p
  have hrow : S2[j]? = some (.ins 0 ((M.goOn p).fields t j)) := r.ins
  have h1' := h.ins
  unfold PM.fields at h1' hrow
  have hrw : (M.goOn p).row = M.row := rfl
  rw [hrw] at hrow
  rcases hw with ⟨rfl, rfl⟩ | ⟨rfl, rfl⟩
  · by_cases c : M.locked (M.place + 2) = true
    · simp [Wd.t, h1', eqD_str, low, dPairs, mergeD, dputK, D.keq, getK, hl, c, lockedD, h]; exact .refl
    · simp [Wd.t, h1', eqD_str, low, dPairs, mergeD, dputK, D.keq, getK, hl, c, e, hrow, movedD, r, f]
  · by_cases c : M.locked (M.place + 1) = true
    · simp [Wd.t, h1', eqD_str, low, dPairs, mergeD, dputK, D.keq, getK, hl, c, lockedD, h]; exact .refl
    · simp [Wd.t, h1', eqD_str, low, dPairs, mergeD, dputK, D.keq, getK, hl, c, e, hrow, movedD, r, f]
def gtB (p : Int) (x : D) : Bool := match x with
  | .int i => decide (p < i)
  | _ => false
theorem filter_ints (q : Int → Bool) (b : D → Bool) (hb : ∀ i, b (.int i) = q i) : ∀ l : List Int, ((l.map D.int).filter b).map id = (l.filter q).map D.int
  | [] => rfl
  | a :: l => by
    rw [List.map_cons, List.filter_cons, List.filter_cons, hb]
    have ih := filter_ints q b hb l
    split
    · rw [List.map_cons, List.map_cons, ih]; rfl
    · exact ih
theorem head_atI {α : Type} [Inhabited α] (l : List α) (f : α → D) (h : l ≠ []) (d : α) : L2.atI (l.map f) 0 = some (f (l.headD d)) := by
  cases l with
  | nil => exact (h rfl).elim
  | cons a l => rw [List.map_cons, atI_0]; rfl
theorem tab_spec (h : Rep S j t M) (hr : M.rings.length < 16777216) (ht : M.tabs.length < 16777216) : ∃ S', m_Machine_move [.obj j, .str q_tab] S = .ok (M.word .tab).1 S' ∧ Rep S' j t (M.word .tab).2 ∧ Fr S S' j := by
  show ∃ S', _ = Res.ok (M.to M.tabAt).1 S' ∧ Rep S' j t (M.to M.tabAt).2 ∧ _
  unfold m_Machine_move g_Machine_move PM.to
  have hl := locked_spec h
  obtain ⟨S2, e, r, f⟩ := goOn_spec h hr M.tabAt
  have hrow : S2[j]? = some (.ins 0 ((M.goOn M.tabAt).fields t j)) := r.ins
  have h1' := h.ins
  have h2 := h.tabs
  unfold PM.fields at h1' hrow
  have hrw : (M.goOn M.tabAt).row = M.row := rfl
  rw [hrw] at hrow
  generalize hC : fComp (wSeq (eFld 0 7 (eVar 0))) (.nm 3) (bE (eOp gtD (eVar 3) (eFld 0 4 (eVar 0)))) (eVar 3) [3] = C
  have hcomp : ∀ o2, C [some (.obj j), some (.str q_tab), o2, none] S = .ok ((M.tabs.filter fun t => decide (M.place < t)).map D.int) S := fun o2 => by
    rw [← hC, fComp_O (xs := M.tabs.map D.int) (b := gtB M.place) (f := id) (by simp [h1', h2]) h2 (fun x hx => ?_) (by simp; omega), filter_ints (fun t => decide (M.place < t)) _ (fun i => rfl)]
    obtain ⟨i, _, rfl⟩ := List.mem_map.mp hx
    exact ⟨_, rfl, by simp [wipeE, h1', gtB], fun _ => by simp [wipeE]⟩
  have hat : L2.atI (List.map D.int (List.filter (fun t => decide (M.place < t)) M.tabs) ++ [D.int (M.fin + 1)]) 0 = some (.int M.tabAt) := by
    have e : List.map D.int (List.filter (fun t => decide (M.place < t)) M.tabs) ++ [D.int (M.fin + 1)] = ((M.tabs.filter fun t => decide (M.place < t)) ++ [M.fin + 1]).map D.int := by simp
    rw [e, head_atI _ _ (by simp) 0]; rfl
  have hbig : (M.tabs.filter fun t => decide (M.place < t)).length + 1 ≤ 16777216 := by have := List.length_filter_le (fun t => decide (M.place < t)) M.tabs; omega
  by_cases c : M.locked M.tabAt = true
  · simp [h1', eqD_str, low, dPairs, mergeD, dputK, D.keq, getK, hl, c, lockedD, h, hcomp, hat, hbig]; exact .refl
  · simp [h1', eqD_str, low, dPairs, mergeD, dputK, D.keq, getK, hl, c, e, hrow, movedD, r, f, hcomp, hat, hbig]
theorem roll_spec (h : Rep S j t M) (w : Wd) (r : Int) (b : Bool) (hw : (w = .ret ∧ r = M.row + M.down ∧ b = true) ∨ (w = .up ∧ r = M.row + -1 ∧ b = false) ∨ (w = .down ∧ r = M.row + 1 ∧ b = false)) :
    ∃ S', m_Machine_roll [.obj j, .str w.t] S = .ok (M.rollTo r b).1 S' ∧ Rep S' j t (M.rollTo r b).2 ∧ Fr S S' j := by
  unfold m_Machine_roll g_Machine_roll PM.rollTo
  obtain ⟨h1, h2, h3, h4, h5, h6, h7⟩ := h
  have n1 := Nat.ne_of_gt h5
  have n2 := Nat.ne_of_lt h5
  have h1' := h1
  unfold PM.fields at h1'
  rcases hw with ⟨rfl, rfl, rfl⟩ | ⟨rfl, rfl, rfl⟩ | ⟨rfl, rfl, rfl⟩
  · by_cases c1 : 0 ≤ M.row + M.down <;> by_cases c2 : M.row + M.down ≤ 60 <;> simp [Wd.t, h1', eqD_str, low, dPairs, mergeD, dputK, D.keq, getK, lockedD, movedD, c1, c2]
    · exact ⟨⟨by simp [set_ne, h1, PM.fields], by simp [set_ne, h2, *], by simp [set_ne, h3], by simp [set_ne, h4], h5, h6, h7⟩, by repeat' first | exact Fr.refl | refine Fr.set ?_ (by omega)⟩
    all_goals exact ⟨⟨h1, h2, h3, h4, h5, h6, h7⟩, .refl⟩
  · by_cases c1 : 0 ≤ M.row + -1 <;> by_cases c2 : M.row + -1 ≤ 60 <;> simp [Wd.t, h1', eqD_str, low, dPairs, mergeD, dputK, D.keq, getK, lockedD, movedD, c1, c2]
    · exact ⟨⟨by simp [set_ne, h1, PM.fields], by simp [set_ne, h2, *], by simp [set_ne, h3], by simp [set_ne, h4], h5, h6, h7⟩, by repeat' first | exact Fr.refl | refine Fr.set ?_ (by omega)⟩
    all_goals exact ⟨⟨h1, h2, h3, h4, h5, h6, h7⟩, .refl⟩
  · by_cases c1 : 0 ≤ M.row + 1 <;> by_cases c2 : M.row + 1 ≤ 60 <;> simp [Wd.t, h1', eqD_str, low, dPairs, mergeD, dputK, D.keq, getK, lockedD, movedD, c1, c2]
    · exact ⟨⟨by simp [set_ne, h1, PM.fields], by simp [set_ne, h2, *], by simp [set_ne, h3], by simp [set_ne, h4], h5, h6, h7⟩, by repeat' first | exact Fr.refl | refine Fr.set ?_ (by omega)⟩
    all_goals exact ⟨⟨h1, h2, h3, h4, h5, h6, h7⟩, .refl⟩
end
end Lw
/-! ## Pm5 -/
/-! Pm5: margins, tabs, what is turned; a key. -/
namespace Lw
open PySem PySem.Spec PyProof.Rows L2 RZ Sm
theorem erase_idx (l : List Int) (p : Int) : l.eraseIdx (l.idxOf p) = l.erase p := by
  induction l with
  | nil => rfl
  | cons a l ih =>
    rw [List.idxOf_cons, List.erase_cons]
    by_cases h : a = p
    · simp [h]
    · simp [h, beq_false_of_ne h, ih]
theorem get_len (S : Store) (o : O) : (S ++ [o])[S.length]? = some o := by simp
theorem get_app {S : Store} {k : Nat} {x : O} (h : S[k]? = some x) (o : List O) : (S ++ o)[k]? = some x := by
  rw [List.getElem?_append_left (List.getElem?_eq_some_iff.mp h).1]; exact h
section
variable {S : Store} {j t : Nat} {M : PM}
def isSet (w : Wd) : Bool := match w with
  | .left | .right | .set | .clear | .all | .free | .ribbon | .caps => true
  | _ => false
theorem setup_spec (h : Rep S j t M) (ht : M.tabs.length < 63) (w : Wd) (hw : isSet w = true) :
    ∃ t' S', m_Machine_set_up [.obj j, .str w.t] S = .ok (M.word w).1 S' ∧ Rep S' j t' (M.word w).2 ∧ Fr S S' j := by
  unfold m_Machine_set_up g_Machine_set_up
  obtain ⟨h1, h2, h3, h4, h5, h6, h7⟩ := h
  have n1 := Nat.ne_of_gt h5
  have n2 := Nat.ne_of_lt h5
  have h1' := h1
  unfold PM.fields at h1'
  have l1 : j < S.length := (List.getElem?_eq_some_iff.mp h1).1
  have l3 : j + 2 < S.length := (List.getElem?_eq_some_iff.mp h3).1
  have l4 : j + 3 < S.length := (List.getElem?_eq_some_iff.mp h4).1
  have m3 : S.length ≠ j + 2 := by omega
  have m4 : S.length ≠ j + 3 := by omega
  have m1 : j ≠ S.length := by omega
  have R0 : Rep S j t M := ⟨h1, h2, h3, h4, h5, h6, h7⟩
  cases w with
  | left =>
    refine ⟨t, ?_⟩
    by_cases c : M.place < M.hi
    · simp [PM.word, Wd.t, h1', eqD_str, low, c, doneD]
      exact ⟨⟨by simp [set_ne, h1, PM.fields], by simp [set_ne, h2, *], by simp [set_ne, h3], by simp [set_ne, h4], h5, h6, h7⟩, by repeat' first | exact Fr.refl | refine Fr.set ?_ (by omega)⟩
    · simp [PM.word, Wd.t, h1', eqD_str, low, c, lockedD]
      exact ⟨R0, .refl⟩
  | right =>
    refine ⟨t, ?_⟩
    by_cases c : M.lo < M.place
    · simp [PM.word, Wd.t, h1', eqD_str, low, c, doneD]
      exact ⟨⟨by simp [set_ne, h1, PM.fields], by simp [set_ne, h2, *], by simp [set_ne, h3], by simp [set_ne, h4], h5, h6, h7⟩, by repeat' first | exact Fr.refl | refine Fr.set ?_ (by omega)⟩
    · simp [PM.word, Wd.t, h1', eqD_str, low, c, lockedD]
      exact ⟨R0, .refl⟩
  | set =>
    refine ⟨S.length, ?_⟩
    have eadd : addD S (.obj t) (.lst [.int M.place]) = some (.lst ((M.tabs ++ [M.place]).map D.int)) := by
      show (match lstT S (.obj t), lstT S (.lst [.int M.place]) with
        | some a, some b => cat a b .lst
        | _, _ => none) = _
      simp [h2]; omega
    have eint := intsOf_ints (M.tabs ++ [M.place])
    have e64 : (M.tabs ++ [M.place]).length < 64 := by simp; omega
    simp [-List.map_append, -List.length_append, PM.word, Wd.t, h1', eqD_str, low, doneD, eadd, eint, e64, get_app]
    exact ⟨⟨by simp [set_ne, get_app h1, PM.fields], by simp [set_ne, m1], by simp [set_ne, get_app h3], by simp [set_ne, get_app h4], l1, m3, m4⟩, (Fr.refl.app (by omega)).set (by omega)⟩
  | clear =>
    refine ⟨t, ?_⟩
    have ein : inB S (.int M.place) (.obj t) = some (decide (M.place ∈ M.tabs)) := by
      rw [inB_obj S _ t h2, anyEq_ints, flats_ints, flat_int]; rfl
    by_cases c : M.place ∈ M.tabs
    · have erem : removeM S (.obj t) [.int M.place] = some (.non, S.set t (O.lst ((M.tabs.erase M.place).map D.int))) := by
        unfold removeM
        simp only [onL, h2, flats_ints, flat_int, Bool.and_self, if_true, placeOf_ints, if_pos c, Option.map_some, map_erase, erase_idx]
      simp [-removeM, PM.word, Wd.t, h1', eqD_str, low, c, doneD, ein, erem, h2]
      exact ⟨⟨by simp [set_ne, h1, PM.fields, n1], by simp [h2], by simp [set_ne, h3, h6], by simp [set_ne, h4, h7], h5, h6, h7⟩, by repeat' first | exact Fr.refl | refine Fr.set ?_ (by omega)⟩
    · simp [PM.word, Wd.t, h1', eqD_str, low, c, lockedD, ein]
      exact ⟨R0, .refl⟩
  | all =>
    refine ⟨S.length, ?_⟩
    simp [PM.word, Wd.t, h1', eqD_str, low, doneD, get_app h1']
    exact ⟨⟨by simp [set_ne, get_app h1, PM.fields], by simp [set_ne, m1], by simp [set_ne, get_app h3], by simp [set_ne, get_app h4], l1, m3, m4⟩, (Fr.refl.app (by omega)).set (by omega)⟩
  | free =>
    refine ⟨t, ?_⟩
    simp [PM.word, Wd.t, h1', eqD_str, low, doneD]
    exact ⟨⟨by simp [set_ne, h1, PM.fields], by simp [set_ne, h2, *], by simp [set_ne, h3], by simp [set_ne, h4], h5, h6, h7⟩, by repeat' first | exact Fr.refl | refine Fr.set ?_ (by omega)⟩
  | ribbon =>
    refine ⟨t, ?_⟩
    cases c : M.red <;> simp [PM.word, Wd.t, h1', eqD_str, low, c, colD, doneD]
    all_goals exact ⟨⟨by simp [set_ne, h1, PM.fields, c, colD], by simp [set_ne, h2, *], by simp [set_ne, h3], by simp [set_ne, h4], h5, h6, h7⟩, by repeat' first | exact Fr.refl | refine Fr.set ?_ (by omega)⟩
  | caps =>
    refine ⟨t, ?_⟩
    simp [PM.word, Wd.t, h1', eqD_str, low, doneD]
    exact ⟨⟨by simp [set_ne, h1, PM.fields], by simp [set_ne, h2, *], by simp [set_ne, h3], by simp [set_ne, h4], h5, h6, h7⟩, by repeat' first | exact Fr.refl | refine Fr.set ?_ (by omega)⟩
  | _ => cases hw
/-- keys as they are pressed: signs below 128 -/
def Key.ok : Key → Prop
  | .sign c => c < 128
  | .lift c => c < 128
  | .word _ => True
/-- what a press wants -/
structure PM.Fit (M : PM) : Prop where
  dead : low M.dead = true
  marks : ∀ m ∈ M.marks, m.sign < 128
  ml : M.marks.length < 16777216
  rl : M.rings.length < 16777216
  tl : M.tabs.length < 63
theorem add_many (h : Rep S j t M) : Rep (S.set j (O.ins 0 (({ M with many := M.many + 1 } : PM).fields t j))) j t { M with many := M.many + 1 } := by
  obtain ⟨h1, h2, h3, h4, h5, h6, h7⟩ := h
  have n2 := Nat.ne_of_lt h5
  exact ⟨by simp [h1], by simp [set_ne, h2, n2], by simp [set_ne, h3], by simp [set_ne, h4], h5, h6, h7⟩
theorem press_spec (h : Rep S j t M) (F : M.Fit) (k : Key) (hk : k.ok) : ∃ t' S', m_Machine_press [.obj j, k.d] S = .ok (M.press k).1 S' ∧ Rep S' j t' (M.press k).2 ∧ Fr S S' j := by
  have step : ∀ {t' : Nat} {S1 : Store} {M2 : PM}, Rep S1 j t' M2 → Fr S S1 j → Rep (S1.set j (O.ins 0 (({ M2 with many := M2.many + 1 } : PM).fields t' j))) j t' { M2 with many := M2.many + 1 } ∧ Fr S (S1.set j (O.ins 0 (({ M2 with many := M2.many + 1 } : PM).fields t' j))) j := fun r f => ⟨add_many r, f.set (Nat.le_refl j)⟩
  unfold m_Machine_press g_Machine_press
  have h1' := h.ins
  unfold PM.fields at h1'
  cases k with
  | sign c =>
    obtain ⟨S1, e, r, f⟩ := strike_spec h F.dead hk F.ml F.rl
    have st := step r f
    have h1 := r.ins
    show ∃ t' S', _ = Res.ok (M.strike c).1 S' ∧ Rep S' j t' { (M.strike c).2 with many := (M.strike c).2.many + 1 } ∧ _
    unfold PM.fields at h1 st
    refine ⟨t, ?_⟩
    simp [Key.d, eqD_str, low, h1', e, h1]
    exact st
  | lift c =>
    obtain ⟨S1, e, r, f⟩ := lift_spec h F.dead F.marks hk F.ml F.rl
    have st := step r f
    have h1 := r.ins
    show ∃ t' S', _ = Res.ok (M.lift c).1 S' ∧ Rep S' j t' { (M.lift c).2 with many := (M.lift c).2.many + 1 } ∧ _
    unfold PM.fields at h1 st
    refine ⟨t, ?_⟩
    simp [Key.d, eqD_str, low, h1', e, h1]
    exact st
  | word w =>
    show ∃ t' S', _ = Res.ok (M.word w).1 S' ∧ Rep S' j t' { (M.word w).2 with many := (M.word w).2.many + 1 } ∧ _
    have fin : ∀ {t' : Nat} {S1 : Store} (f : FM), f [.obj j, .str w.t] S = .ok (M.word w).1 S1 → Rep S1 j t' (M.word w).2 → Fr S S1 j → True := fun _ _ _ _ => trivial
    have tl := F.tl
    cases hs : isSet w with
    | true =>
      obtain ⟨t', S1, e, r, f⟩ := setup_spec h F.tl w hs
      have st := step r f
      have h1 := r.ins
      unfold PM.fields at h1 st
      refine ⟨t', ?_⟩
      have q : eqD S (.str w.t) (.str q_sign) = some (.bl false) ∧ eqD S (.str w.t) (.str q_lift) = some (.bl false) ∧ inB S (.str w.t) (.tup [.str q_blank, .str q_half, .str q_back, .str q_tab]) = some false ∧ inB S (.str w.t) (.tup [.str q_return, .str q_up, .str q_down]) = some false := by
        cases w <;> first | (cases hs; done) | exact ⟨rfl, rfl, rfl, rfl⟩
      simp [Key.d, q.1, q.2.1, q.2.2.1, q.2.2.2, h1', e, h1]
      exact st
    | false =>
      refine ⟨t, ?_⟩
      by_cases hr : w = .ret ∨ w = .up ∨ w = .down
      · have hex : ∃ r b, ((w = .ret ∧ r = M.row + M.down ∧ b = true) ∨ (w = .up ∧ r = M.row + -1 ∧ b = false) ∨ (w = .down ∧ r = M.row + 1 ∧ b = false)) ∧ M.word w = M.rollTo r b := by
          rcases hr with rfl | rfl | rfl
          · exact ⟨_, true, .inl ⟨rfl, rfl, rfl⟩, rfl⟩
          · exact ⟨_, false, .inr (.inl ⟨rfl, rfl, rfl⟩), rfl⟩
          · exact ⟨_, false, .inr (.inr ⟨rfl, rfl, rfl⟩), rfl⟩
        obtain ⟨rr, b, hw, hword⟩ := hex
        obtain ⟨S1, e, r, f⟩ := roll_spec h w rr b hw
        rw [← hword] at e r
        have st := step r f
        have h1 := r.ins
        unfold PM.fields at h1 st
        have q : eqD S (.str w.t) (.str q_sign) = some (.bl false) ∧ eqD S (.str w.t) (.str q_lift) = some (.bl false) ∧ inB S (.str w.t) (.tup [.str q_blank, .str q_half, .str q_back, .str q_tab]) = some false ∧ inB S (.str w.t) (.tup [.str q_return, .str q_up, .str q_down]) = some true := by
          rcases hr with rfl | rfl | rfl <;> exact ⟨rfl, rfl, rfl, rfl⟩
        simp [Key.d, q.1, q.2.1, q.2.2.1, q.2.2.2, h1', e, h1]
        exact st
      · have q : eqD S (.str w.t) (.str q_sign) = some (.bl false) ∧ eqD S (.str w.t) (.str q_lift) = some (.bl false) ∧ inB S (.str w.t) (.tup [.str q_blank, .str q_half, .str q_back, .str q_tab]) = some true := by
          cases w <;> first | (cases hs; done) | (simp at hr; done) | exact ⟨rfl, rfl, rfl⟩
        have hm : ∃ S', m_Machine_move [.obj j, .str w.t] S = .ok (M.word w).1 S' ∧ Rep S' j t (M.word w).2 ∧ Fr S S' j := by
          cases w <;> first | (cases hs; done) | (simp at hr; done) | exact steps_spec h F.rl .blank _ (.inl ⟨rfl, rfl⟩) | exact steps_spec h F.rl .half _ (.inr ⟨rfl, rfl⟩) | exact back_spec h | exact tab_spec h F.rl (by omega)
        obtain ⟨S1, e, r, f⟩ := hm
        have st := step r f
        have h1 := r.ins
        unfold PM.fields at h1 st
        simp [Key.d, q.1, q.2.1, q.2.2, h1', e, h1]
        exact st
end
end Lw
/-! ## Pm6 -/
/-! Pm6: a machine made, a row of keys pressed. -/
namespace Lw
open PySem PySem.Spec PyProof.Rows L2 RZ Sm
theorem set_last {α : Type} (S : List α) (x y : α) (r : List α) : (S ++ x :: r).set S.length y = S ++ y :: r := by
  rw [List.set_append_right _ _ (Nat.le_refl _)]; simp
theorem get_last {α : Type} (S : List α) (x : α) (r : List α) : (S ++ x :: r)[S.length]? = some x := by
  rw [List.getElem?_append_right (Nat.le_refl _)]; simp
theorem get_more {α : Type} (S : List α) (k : Nat) (r : List α) : (S ++ r)[S.length + k]? = r[k]? := by
  rw [List.getElem?_append_right (by omega)]; congr 1; omega
/-- a machine's datum -/
def machD (cols : Int) (dead : List Nat) (down : Int) : D := .tup [.int cols, .tup (dead.map fun c => .str [c]), .int down]
def PM.new (cols : Int) (dead : List Nat) (down : Int) : PM := ⟨dead, down, 2 * cols, 0, 0, 0, 2 * cols, [], false, false, false, [], [], 0⟩
theorem end_of_spec (cols : Int) (dead : List Nat) (down : Int) (S : Store) : m_end_of [machD cols dead down] S = .ok (.int (2 * cols)) S := by
  unfold m_end_of g_end_of machD
  simp
theorem init_spec (cols : Int) (dead : List Nat) (down : Int) (S : Store) :
    m_Machine___init__ [.obj S.length, machD cols dead down, .tup []] (S ++ [.ins 0 []]) = .ok .non (S ++ [.ins 0 ((PM.new cols dead down).fields (S.length + 1) S.length), .lst [], .lst [], .lst []]) := by
  unfold m_Machine___init__ g_Machine___init__
  have e := end_of_spec cols dead down
  unfold machD at e ⊢
  simp [set_last, get_last, e, PM.new, PM.fields, colD]
def PM.run (M : PM) : List Key → List D × PM
  | [] => ([], M)
  | k :: ks => ((M.press k).1 :: ((M.press k).2.run ks).1, ((M.press k).2.run ks).2)
theorem new_rep (cols : Int) (dead : List Nat) (down : Int) (S : Store) : Rep (S ++ [.ins 0 ((PM.new cols dead down).fields (S.length + 1) S.length), .lst [], .lst [], .lst []]) S.length (S.length + 1) (PM.new cols dead down) :=
  ⟨get_last .., by rw [get_more]; rfl, by rw [get_more]; rfl, by rw [get_more]; rfl, by omega, by omega, by omega⟩
/-- room for n keys more -/
structure FitN (M : PM) (n : Nat) : Prop where
  dead : low M.dead = true
  marks : ∀ m ∈ M.marks, m.sign < 128
  ml : M.marks.length + n < 16777216
  rl : M.rings.length + n < 16777216
theorem goOn_marks (M : PM) (p : Int) : (M.goOn p).marks = M.marks := rfl
theorem goOn_dead (M : PM) (p : Int) : (M.goOn p).dead = M.dead := rfl
theorem goOn_rings (M : PM) (p : Int) : (M.goOn p).rings.length ≤ M.rings.length + 1 := by
  unfold PM.goOn
  dsimp only
  split <;> simp
theorem offLast_sub (q : Mk → Bool) : ∀ (l : List Mk) (k : Mk) (r : List Mk), offLast q l = some (k, r) → (∀ m ∈ r, m ∈ l) ∧ r.length + 1 = l.length ∧ k ∈ l
  | [], _, _, h => by cases h
  | m :: l, k, r, h => by
    unfold offLast at h
    cases ho : offLast q l with
    | some p =>
      obtain ⟨k', r'⟩ := p
      rw [ho] at h
      cases h
      obtain ⟨a, b, c⟩ := offLast_sub q l _ _ ho
      refine ⟨fun x hx => ?_, by simp [b], by simp [c]⟩
      rcases List.mem_cons.mp hx with e | hx
      · simp [e]
      · simp [a x hx]
    | none =>
      rw [ho] at h
      dsimp only at h
      split at h
      · cases h
        exact ⟨fun x hx => by simp [hx], by simp, by simp⟩
      · cases h
theorem up_low {c : Nat} (h : c < 128) (b : Bool) : up c b < 128 := by unfold up; split <;> omega
theorem onward_keep (M : PM) (c : Nat) : (M.onward c).dead = M.dead ∧ (M.onward c).marks = M.marks ∧ (M.onward c).rings.length ≤ M.rings.length + 1 := by
  unfold PM.onward
  split
  · exact ⟨rfl, rfl, by omega⟩
  · exact ⟨rfl, rfl, goOn_rings M _⟩
theorem to_keep (M : PM) (p : Int) : (M.to p).2.dead = M.dead ∧ (M.to p).2.marks = M.marks ∧ (M.to p).2.rings.length ≤ M.rings.length + 1 := by
  unfold PM.to
  split
  · exact ⟨rfl, rfl, by simp⟩
  · exact ⟨rfl, rfl, goOn_rings M _⟩
theorem word_keep (M : PM) (w : Wd) : (M.word w).2.dead = M.dead ∧ (M.word w).2.marks = M.marks ∧ (M.word w).2.rings.length ≤ M.rings.length + 1 := by
  have hb : M.back.2.dead = M.dead ∧ M.back.2.marks = M.marks ∧ M.back.2.rings.length ≤ M.rings.length + 1 := by
    unfold PM.back; split <;> exact ⟨rfl, rfl, by simp⟩
  have hr : ∀ r b, (M.rollTo r b).2.dead = M.dead ∧ (M.rollTo r b).2.marks = M.marks ∧ (M.rollTo r b).2.rings.length ≤ M.rings.length + 1 := fun r b => by
    unfold PM.rollTo; split
    · exact ⟨rfl, rfl, by simp⟩
    · split <;> exact ⟨rfl, rfl, by simp⟩
  cases w <;> first
    | exact to_keep M _
    | exact hb
    | exact hr _ _
    | exact ⟨rfl, rfl, Nat.le_succ _⟩
    | (simp only [PM.word]; split <;> exact ⟨rfl, rfl, Nat.le_succ _⟩)
theorem turn_fit {M : PM} {n : Nat} (F : FitN M (n + 1)) (k : Key) (hk : k.ok) : FitN (M.turn k).2 n := by
  obtain ⟨f1, f2, f3, f4⟩ := F
  cases k with
  | word w =>
    obtain ⟨a, b, c⟩ := word_keep M w
    exact ⟨by show low (M.word w).2.dead = true; rw [a]; exact f1, by show ∀ m ∈ (M.word w).2.marks, _; rw [b]; exact f2, by show (M.word w).2.marks.length + n < _; rw [b]; omega, by show (M.word w).2.rings.length + n < _; omega⟩
  | sign c =>
    show FitN (M.strike c).2 n
    unfold PM.strike
    split
    · exact ⟨f1, f2, by dsimp only; omega, by dsimp only; omega⟩
    · obtain ⟨a, b, d⟩ := onward_keep ({ M with marks := M.marks ++ [M.mark c] } : PM) c
      refine ⟨by dsimp only; rw [a]; exact f1, by dsimp only; rw [b]; intro m hm; rcases List.mem_append.mp hm with h | h; exact f2 m h; simp at h; rw [h]; exact up_low hk _, by dsimp only; rw [b]; simp; omega, ?_⟩
      dsimp only at d ⊢
      omega
  | lift c =>
    show FitN (M.lift c).2 n
    unfold PM.lift
    split
    · exact ⟨f1, f2, by dsimp only; omega, by dsimp only; omega⟩
    · split
      · rename_i k r ho
        obtain ⟨s1, s2, s3⟩ := offLast_sub _ _ _ _ ho
        obtain ⟨a, b, d⟩ := onward_keep ({ M with marks := r } : PM) c
        refine ⟨by dsimp only; rw [a]; exact f1, by dsimp only; rw [b]; intro m hm; exact f2 m (s1 m hm), by dsimp only; rw [b]; dsimp only; omega, ?_⟩
        dsimp only at d ⊢
        omega
      · obtain ⟨a, b, d⟩ := onward_keep M c
        exact ⟨by dsimp only; rw [a]; exact f1, by dsimp only; rw [b]; exact f2, by dsimp only; rw [b]; omega, by dsimp only; omega⟩
theorem press_fit {M : PM} {n : Nat} (F : FitN M (n + 1)) (k : Key) (hk : k.ok) : FitN (M.press k).2 n := by
  obtain ⟨a, b, c, d⟩ := turn_fit F k hk
  exact ⟨a, b, c, d⟩
/-- the tabs stay few -/
def TabsOk (M : PM) : List Key → Prop
  | [] => True
  | k :: ks => M.tabs.length < 63 ∧ TabsOk (M.press k).2 ks
theorem keys_go {ρ0 : Ev} {w : Wk} {j : Nat} {xs : List Key} (hcur : ∀ S i, w.cur S i = (xs.map Key.d)[i]?) (hfin : ∀ S, w.fin S = true)
    (h3 : ρ0[3]? = some (some (.obj j))) (h5 : 5 < ρ0.length) (hx : xs.length ≤ 16000000) :
    ∀ (ks : List Key) (i : Nat) (S : Store) (t : Nat) (M : PM) (acc : List D), xs.drop i = ks → acc.length ≤ i → Rep S j t M → FitN M ks.length → (∀ k ∈ ks, k.ok) → TabsOk M ks →
      ∃ t' S', compM w (.nm 5) bYes (eMeth 0 m_Machine_press (eVar 3) (aCons (eVar 5) aNil)) ρ0 ks.length i S acc = .ok (acc ++ (M.run ks).1) S' ∧ Rep S' j t' (M.run ks).2 ∧ Fr S S' j
  | [], i, S, t, M, acc, e, ha, R, F, hk, T => ⟨t, S, by rw [List.length_nil]; unfold compM; rw [if_pos (hfin S)]; simp [PM.run], R, .refl⟩
  | k :: ks, i, S, t, M, acc, e, ha, R, F, hk, T => by
    have hi : i < xs.length := by
      rcases Nat.lt_or_ge i xs.length with h | h
      · exact h
      · rw [List.drop_of_length_le h] at e; cases e
    rw [List.drop_eq_getElem_cons hi] at e
    have ek : xs[i] = k := by injection e
    have er : xs.drop (i + 1) = ks := by injection e
    obtain ⟨t1, S1, e1, R1, f1⟩ := press_spec R ⟨F.dead, F.marks, by have := F.ml; omega, by have := F.rl; omega, T.1⟩ k (hk k (by simp))
    obtain ⟨t2, S2, e2, R2, f2⟩ := keys_go hcur hfin h3 h5 hx ks (i + 1) S1 t1 (M.press k).2 (acc ++ [(M.press k).1]) er (by simp; omega) R1 (press_fit (by simpa using F) k (hk k (by simp))) (fun x hx => hk x (by simp [hx])) T.2
    refine ⟨t2, S2, ?_, R2, f1.trans f2⟩
    rw [List.length_cons]
    unfold compM
    rw [hcur, List.getElem?_map, List.getElem?_eq_getElem hi, ek]
    have l3 : 5 ≠ 3 := by decide
    have hins := R.ins
    have e5 : ρ0[5]? = some ρ0[5] := List.getElem?_eq_getElem h5
    simp only [Option.map_some, Tg.put]
    have eel : eMeth 0 m_Machine_press (eVar 3) (aCons (eVar 5) aNil) (ρ0.set 5 (some k.d)) S = .ok (M.press k).1 S1 := by
      simp [set_ne, h3, hins, h5, e5, e1]
    simp only [bYes, Res.nx, bind_ok, if_true, eel]
    rw [if_pos (by omega), e2]
    simp [PM.run]
theorem worked_spec (cols : Int) (dead : List Nat) (down : Int) (ks : List Key) (hd : low dead = true) (hk : ∀ k ∈ ks, k.ok) (hl : ks.length ≤ 16000000) (T : TabsOk (PM.new cols dead down) ks) (S : Store) :
    ∃ t S', m_worked [machD cols dead down, .tup [], .tup (ks.map Key.d)] S = .ok (.tup [.obj S.length, .lst ((PM.new cols dead down).run ks).1]) S' ∧ Rep S' S.length t ((PM.new cols dead down).run ks).2 ∧ Fr S S' S.length := by
  unfold m_worked g_worked
  have e1 := init_spec cols dead down S
  have R := new_rep cols dead down S
  generalize hS1 : S ++ [O.ins 0 ((PM.new cols dead down).fields (S.length + 1) S.length), .lst [], .lst [], .lst []] = S1 at e1 R
  have f0 : Fr S S1 S.length := by rw [← hS1]; exact Fr.refl.app (Nat.le_refl _)
  obtain ⟨t, S2, e2, R2, f2⟩ := keys_go (ρ0 := [some (machD cols dead down), some (.tup []), some (.tup (ks.map Key.d)), some (.obj S.length), none, none]) (w := wkL (ks.map Key.d)) (j := S.length) (xs := ks) (fun _ _ => rfl) (fun _ => rfl) rfl (by simp) hl ks 0 S1 _ _ [] rfl (by simp) R
    ⟨hd, fun m h => by simp [PM.new] at h, by simp [PM.new]; omega, by simp [PM.new]; omega⟩ hk T
  generalize hC : fComp (wSeq (eVar 2)) (.nm 5) bYes (eMeth 0 m_Machine_press (eVar 3) (aCons (eVar 5) aNil)) [5] = C
  have hcomp : C [some (machD cols dead down), some (.tup []), some (.tup (ks.map Key.d)), some (.obj S.length), none, none] S1 = .ok ((PM.new cols dead down).run ks).1 S2 := by
    rw [← hC]
    unfold fComp
    simp only [wSeq, eVar, List.getElem?_cons_succ, List.getElem?_cons_zero, bind_ok, wkOf, giveW, wipeE, List.set_cons_succ, List.set_cons_zero]
    have : (wkL (ks.map Key.d)).n = ks.length := by simp [wkL]
    rw [this]
    rw [e2]
    simp
  refine ⟨t, S2, ?_, R2, f0.trans f2⟩
  simp [e1, hcomp]
end Lw
/-! ## Pm7 -/
/-! Pm7: what always stands of a machine at work. -/
namespace Lw
open PySem PySem.Spec PyProof.Rows L2 RZ Sm
structure PM.In (M : PM) : Prop where
  p0 : 0 ≤ M.place
  p1 : M.place ≤ M.fin
  l0 : 0 ≤ M.lo
  l1 : M.lo ≤ M.fin
  h0 : 0 ≤ M.hi
  h1 : M.hi ≤ M.fin
  r0 : 0 ≤ M.row
  r1 : M.row ≤ 60
  t0 : ∀ t ∈ M.tabs, 0 ≤ t ∧ t ≤ M.fin
  up : M.tabs.Pairwise (· < ·)
  mn : ∀ m ∈ M.marks, m.n < M.many
  mp : M.marks.Pairwise (fun a b => a.n < b.n)
  n0 : 0 ≤ M.many
theorem PM.In.nodup {M : PM} (h : M.In) : M.marks.Nodup := h.mp.imp fun {a b} hab e => by rw [e] at hab; exact Int.lt_irrefl _ hab
theorem locked_le {M : PM} {p : Int} (h : ¬ M.locked p = true) : p ≤ M.fin := by
  unfold PM.locked at h
  rcases Int.lt_or_le M.fin p with c | c
  · exact (h (by simp [c])).elim
  · exact c
theorem goOn_in {M : PM} (h : M.In) {p : Int} (h0 : 0 ≤ p) (h1 : p ≤ M.fin) : (M.goOn p).In :=
  ⟨h0, h1, h.l0, h.l1, h.h0, h.h1, h.r0, h.r1, h.t0, h.up, h.mn, h.mp, h.n0⟩
theorem onward_in {M : PM} (h : M.In) (c : Nat) (hl : ¬ M.locked (M.place + 2) = true) : (M.onward c).In := by
  unfold PM.onward
  split
  · exact h
  · exact goOn_in h (by have := h.p0; omega) (locked_le hl)
theorem to_in {M : PM} (h : M.In) {p : Int} (h0 : 0 ≤ p) : (M.to p).2.In := by
  unfold PM.to
  split
  · exact h
  · rename_i hl; exact goOn_in h h0 (locked_le hl)
theorem tabAt_0 {M : PM} (h : M.In) : 0 ≤ M.tabAt := by
  unfold PM.tabAt
  cases hf : M.tabs.filter (fun t => decide (M.place < t)) with
  | nil => have := h.p0; have := h.p1; simp; omega
  | cons a l =>
    have : a ∈ M.tabs.filter (fun t => decide (M.place < t)) := by rw [hf]; simp
    exact (h.t0 a (List.mem_filter.mp this).1).1
theorem offLast_pw (q : Mk → Bool) : ∀ (l : List Mk) (k : Mk) (r : List Mk), offLast q l = some (k, r) → r.Sublist l
  | [], _, _, h => by cases h
  | m :: l, k, r, h => by
    unfold offLast at h
    cases ho : offLast q l with
    | some p =>
      obtain ⟨k', r'⟩ := p
      rw [ho] at h
      cases h
      exact (offLast_pw q l _ _ ho).cons₂ m
    | none =>
      rw [ho] at h
      dsimp only at h
      split at h
      · cases h; exact List.sublist_cons_self ..
      · cases h
/-- a turn; the marks' numbers may reach many -/
theorem turn_in {M : PM} (h : M.In) (k : Key) : ({ (M.turn k).2 with many := (M.turn k).2.many + 1 } : PM).In := by
  have keep : ∀ {N : PM}, N.In → ({ N with many := N.many + 1 } : PM).In := fun {N} g =>
    ⟨g.p0, g.p1, g.l0, g.l1, g.h0, g.h1, g.r0, g.r1, g.t0, g.up, fun m hm => by have := g.mn m hm; show m.n < N.many + 1; omega, g.mp, by have := g.n0; show 0 ≤ N.many + 1; omega⟩
  obtain ⟨p0, p1, l0, l1, h0, h1, r0, r1, t0, tu, mn, mp, n0⟩ := h
  have h : M.In := ⟨p0, p1, l0, l1, h0, h1, r0, r1, t0, tu, mn, mp, n0⟩
  cases k with
  | sign c =>
    show ({ (M.strike c).2 with many := (M.strike c).2.many + 1 } : PM).In
    unfold PM.strike
    split
    · exact keep h
    · rename_i hl
      have hm : ∀ N : PM, N = ({ M with marks := M.marks ++ [M.mark c] } : PM) → ∀ p : Int, 0 ≤ p → p ≤ M.fin → ∀ rs : List Int, ({ N with place := p, rings := rs, many := M.many + 1 } : PM).In := by
        intro N e p a b rs
        subst e
        refine ⟨a, b, l0, l1, h0, h1, r0, r1, t0, tu, fun m hm => ?_, ?_, by show 0 ≤ M.many + 1; omega⟩
        · rcases List.mem_append.mp hm with q | q
          · have := mn m q; show m.n < M.many + 1; omega
          · simp at q; rw [q]; show M.many < M.many + 1; omega
        · refine List.pairwise_append.mpr ⟨mp, List.pairwise_singleton .., fun a ha b hb => ?_⟩
          simp at hb
          rw [hb]
          exact mn a ha
      dsimp only [PM.onward]
      split
      · exact hm _ rfl M.place p0 p1 M.rings
      · exact hm _ rfl (M.place + 2) (by omega) (locked_le hl) _
  | lift c =>
    show ({ (M.lift c).2 with many := (M.lift c).2.many + 1 } : PM).In
    unfold PM.lift
    split
    · exact keep h
    · rename_i hl
      split
      · rename_i k r ho
        have hs := offLast_pw _ _ _ _ ho
        have h' : ({ M with marks := r } : PM).In := ⟨p0, p1, l0, l1, h0, h1, r0, r1, t0, tu, fun m hm => mn m (hs.subset hm), mp.sublist hs, n0⟩
        exact keep (onward_in h' c hl)
      · exact keep (onward_in h c hl)
  | word w =>
    show ({ (M.word w).2 with many := (M.word w).2.many + 1 } : PM).In
    refine keep ?_
    have hroll : ∀ r b, (M.rollTo r b).2.In := fun r b => by
      unfold PM.rollTo
      split
      · exact h
      · rename_i hr
        split
        · exact ⟨l0, l1, l0, l1, h0, h1, by dsimp only; omega, by dsimp only; omega, t0, tu, mn, mp, n0⟩
        · exact ⟨p0, p1, l0, l1, h0, h1, by dsimp only; omega, by dsimp only; omega, t0, tu, mn, mp, n0⟩
    cases w with
    | blank => exact to_in h (by omega)
    | half => exact to_in h (by omega)
    | tab => exact to_in h (tabAt_0 h)
    | back =>
      show M.back.2.In
      unfold PM.back
      split
      · exact h
      · rename_i hb
        have : ¬ M.place - 2 < 0 := fun z => hb (.inl z)
        exact ⟨by dsimp only; omega, by dsimp only; omega, l0, l1, h0, h1, r0, r1, t0, tu, mn, mp, n0⟩
    | ret => exact hroll _ _
    | up => exact hroll _ _
    | down => exact hroll _ _
    | left =>
      simp only [PM.word]
      split
      · exact ⟨p0, p1, p0, p1, h0, h1, r0, r1, t0, tu, mn, mp, n0⟩
      · exact h
    | right =>
      simp only [PM.word]
      split
      · exact ⟨p0, p1, l0, l1, p0, p1, r0, r1, t0, tu, mn, mp, n0⟩
      · exact h
    | set =>
      refine ⟨p0, p1, l0, l1, h0, h1, r0, r1, fun t ht => ?_, sortU_up _, mn, mp, n0⟩
      have ht2 : t ∈ M.tabs ++ [M.place] := (sortU_mem _ t).mp ht
      rcases List.mem_append.mp ht2 with q | q
      · exact t0 t q
      · simp at q; rw [q]; exact ⟨p0, p1⟩
    | clear =>
      simp only [PM.word]
      split
      · exact ⟨p0, p1, l0, l1, h0, h1, r0, r1, fun t ht => t0 t (List.mem_of_mem_erase ht), tu.sublist (List.erase_sublist ..), mn, mp, n0⟩
      · exact h
    | all => exact ⟨p0, p1, l0, l1, h0, h1, r0, r1, fun t ht => by simp [PM.word] at ht, .nil, mn, mp, n0⟩
    | free => exact ⟨p0, p1, l0, l1, h0, h1, r0, r1, t0, tu, mn, mp, n0⟩
    | ribbon => exact ⟨p0, p1, l0, l1, h0, h1, r0, r1, t0, tu, mn, mp, n0⟩
    | caps => exact ⟨p0, p1, l0, l1, h0, h1, r0, r1, t0, tu, mn, mp, n0⟩
theorem press_in {M : PM} (h : M.In) (k : Key) : (M.press k).2.In := turn_in h k
theorem run_in : ∀ (ks : List Key) {M : PM}, M.In → (M.run ks).2.In
  | [], _, h => h
  | k :: ks, _, h => run_in ks (press_in h k)
theorem new_in {cols : Int} (h : 0 ≤ cols) (dead : List Nat) (down : Int) : (PM.new cols dead down).In :=
  ⟨by simp [PM.new], by simp [PM.new]; omega, by simp [PM.new], by simp [PM.new]; omega, by simp [PM.new]; omega, by simp [PM.new], by simp [PM.new], by simp [PM.new], by simp [PM.new], by simp [PM.new], by simp [PM.new], by simp [PM.new], by simp [PM.new]⟩
/-- things that never change -/
theorem turn_fix (M : PM) (k : Key) : (M.turn k).2.fin = M.fin ∧ (M.turn k).2.dead = M.dead ∧ (M.turn k).2.down = M.down ∧ (M.turn k).2.many = M.many := by
  have ho : ∀ (N : PM) c, (N.onward c).fin = N.fin ∧ (N.onward c).dead = N.dead ∧ (N.onward c).down = N.down ∧ (N.onward c).many = N.many := fun N c => by unfold PM.onward; split <;> exact ⟨rfl, rfl, rfl, rfl⟩
  have ht : ∀ p, (M.to p).2.fin = M.fin ∧ (M.to p).2.dead = M.dead ∧ (M.to p).2.down = M.down ∧ (M.to p).2.many = M.many := fun p => by unfold PM.to; split <;> exact ⟨rfl, rfl, rfl, rfl⟩
  cases k with
  | sign c =>
    show (M.strike c).2.fin = _ ∧ (M.strike c).2.dead = _ ∧ (M.strike c).2.down = _ ∧ (M.strike c).2.many = _
    unfold PM.strike
    split
    · exact ⟨rfl, rfl, rfl, rfl⟩
    · exact ho _ c
  | lift c =>
    show (M.lift c).2.fin = _ ∧ (M.lift c).2.dead = _ ∧ (M.lift c).2.down = _ ∧ (M.lift c).2.many = _
    unfold PM.lift
    split
    · exact ⟨rfl, rfl, rfl, rfl⟩
    · split <;> exact ho _ c
  | word w =>
    show (M.word w).2.fin = _ ∧ (M.word w).2.dead = _ ∧ (M.word w).2.down = _ ∧ (M.word w).2.many = _
    have hb : M.back.2.fin = M.fin ∧ M.back.2.dead = M.dead ∧ M.back.2.down = M.down ∧ M.back.2.many = M.many := by unfold PM.back; split <;> exact ⟨rfl, rfl, rfl, rfl⟩
    have hr : ∀ r b, (M.rollTo r b).2.fin = M.fin ∧ (M.rollTo r b).2.dead = M.dead ∧ (M.rollTo r b).2.down = M.down ∧ (M.rollTo r b).2.many = M.many := fun r b => by
      unfold PM.rollTo; split
      · exact ⟨rfl, rfl, rfl, rfl⟩
      · split <;> exact ⟨rfl, rfl, rfl, rfl⟩
    cases w <;> first
      | exact ht _
      | exact hb
      | exact hr _ _
      | exact ⟨rfl, rfl, rfl, rfl⟩
      | (simp only [PM.word]; split <;> exact ⟨rfl, rfl, rfl, rfl⟩)
/-! ### few tabs -/
theorem insU_len (x : Int) : ∀ l : List Int, (insU x l).length ≤ l.length + 1
  | [] => by simp [insU]
  | y :: r => by
    unfold insU
    split
    · simp
    · split
      · simp
      · have := insU_len x r; simp; omega
theorem sortU_len : ∀ l : List Int, (sortU l).length ≤ l.length
  | [] => by simp [sortU]
  | x :: r => by unfold sortU; have := insU_len x (sortU r); have := sortU_len r; simp; omega
theorem sortU_same {l : List Int} (h : l.Pairwise (· < ·)) {p : Int} (hp : p ∈ l) : sortU (l ++ [p]) = l :=
  up_eq (sortU_up _) h fun k => by
    rw [sortU_mem, List.mem_append, List.mem_singleton]
    exact ⟨fun z => z.elim id fun e => e ▸ hp, .inl⟩
def PM.Tn (M : PM) (n : Nat) : Prop := 2 * M.tabs.length ≤ n + (if M.place ∈ M.tabs then 1 else 0)
theorem turn_tabs {M : PM} (h : M.In) {n : Nat} (ht : M.Tn n) (k : Key) : (M.turn k).2.Tn (n + 1) := by
  have h1 : 2 * M.tabs.length ≤ n + 1 := by unfold PM.Tn at ht; split at ht <;> omega
  have gen : ∀ N : PM, N.tabs.length ≤ M.tabs.length → N.Tn (n + 1) := fun N e => by unfold PM.Tn; omega
  have ho : ∀ (N : PM) c, (N.onward c).tabs = N.tabs := fun N c => by unfold PM.onward; split <;> rfl
  have hto : ∀ p, (M.to p).2.tabs = M.tabs := fun p => by unfold PM.to; split <;> rfl
  cases k with
  | sign c =>
    refine gen _ ?_
    show (M.strike c).2.tabs.length ≤ _
    unfold PM.strike
    split
    · exact Nat.le_refl _
    · dsimp only; rw [ho]; exact Nat.le_refl _
  | lift c =>
    refine gen _ ?_
    show (M.lift c).2.tabs.length ≤ _
    unfold PM.lift
    split
    · exact Nat.le_refl _
    · split <;> (dsimp only; rw [ho]; exact Nat.le_refl _)
  | word w =>
    show (M.word w).2.Tn (n + 1)
    cases w with
    | set =>
      show (({ M with tabs := sortU (M.tabs ++ [M.place]) } : PM)).Tn (n + 1)
      by_cases hp : M.place ∈ M.tabs
      · refine gen _ ?_
        dsimp only
        rw [sortU_same h.up hp]
        exact Nat.le_refl _
      · unfold PM.Tn at ht ⊢
        rw [if_neg hp] at ht
        have hl := sortU_len (M.tabs ++ [M.place])
        rw [List.length_append, List.length_singleton] at hl
        dsimp only
        rw [if_pos ((sortU_mem _ _).mpr (by simp))]
        omega
    | clear => refine gen _ ?_; simp only [PM.word]; split; exact (List.erase_sublist ..).length_le; exact Nat.le_refl _
    | all => exact gen _ (Nat.zero_le _)
    | blank => exact gen _ (by show (M.to _).2.tabs.length ≤ _; rw [hto]; exact Nat.le_refl _)
    | half => exact gen _ (by show (M.to _).2.tabs.length ≤ _; rw [hto]; exact Nat.le_refl _)
    | tab => exact gen _ (by show (M.to _).2.tabs.length ≤ _; rw [hto]; exact Nat.le_refl _)
    | back => refine gen _ ?_; show M.back.2.tabs.length ≤ _; unfold PM.back; split <;> exact Nat.le_refl _
    | ret => refine gen _ ?_; show (M.rollTo _ _).2.tabs.length ≤ _; unfold PM.rollTo; split; exact Nat.le_refl _; split <;> exact Nat.le_refl _
    | up => refine gen _ ?_; show (M.rollTo _ _).2.tabs.length ≤ _; unfold PM.rollTo; split; exact Nat.le_refl _; split <;> exact Nat.le_refl _
    | down => refine gen _ ?_; show (M.rollTo _ _).2.tabs.length ≤ _; unfold PM.rollTo; split; exact Nat.le_refl _; split <;> exact Nat.le_refl _
    | left => refine gen _ ?_; simp only [PM.word]; split <;> exact Nat.le_refl _
    | right => refine gen _ ?_; simp only [PM.word]; split <;> exact Nat.le_refl _
    | free => exact gen _ (Nat.le_refl _)
    | ribbon => exact gen _ (Nat.le_refl _)
    | caps => exact gen _ (Nat.le_refl _)
theorem tabs_few : ∀ (ks : List Key) (n : Nat) (M : PM), M.In → M.Tn n → n + ks.length ≤ 124 → TabsOk M ks
  | [], _, _, _, _, _ => trivial
  | k :: ks, n, M, h, ht, hn => by
    rw [List.length_cons] at hn
    refine ⟨?_, tabs_few ks (n + 1) _ (press_in h k) (turn_tabs h ht k) (by omega)⟩
    unfold PM.Tn at ht
    split at ht <;> omega
theorem tabs_new {cols : Int} (h : 0 ≤ cols) (dead : List Nat) (down : Int) (ks : List Key) (hl : ks.length ≤ 124) : TabsOk (PM.new cols dead down) ks :=
  tabs_few ks 0 _ (new_in h dead down) (by simp [PM.Tn, PM.new]) (by omega)
end Lw
/-! ## Pm8 -/
/-! Pm8: what is asked of a machine and keys; what is told. -/
namespace Lw
open PySem PySem.Spec PyProof.Rows L2 RZ Sm
/-- machines that laws make -/
structure Mok (cols : Int) (dead : List Nat) (down : Int) : Prop where
  c0 : 8 ≤ cols
  c1 : cols ≤ 40
  dead : dead.Sublist qDEAD
  d0 : 2 ≤ down
  d1 : down ≤ 4
theorem dead_cases {d : List Nat} (h : d.Sublist qDEAD) : d = [] ∨ d = [39] ∨ d = [94] ∨ d = [126] ∨ d = [39, 94] ∨ d = [39, 126] ∨ d = [94, 126] ∨ d = [39, 94, 126] := by
  cases h with
  | cons _ h => cases h with
    | cons _ h => cases h with
      | cons _ h => cases h; simp
      | cons_cons _ h => cases h; simp
    | cons_cons _ h => cases h with
      | cons _ h => cases h; simp
      | cons_cons _ h => cases h; simp
  | cons_cons _ h => cases h with
    | cons _ h => cases h with
      | cons _ h => cases h; simp
      | cons_cons _ h => cases h; simp
    | cons_cons _ h => cases h with
      | cons _ h => cases h; simp
      | cons_cons _ h => cases h; simp
theorem Mok.low {c : Int} {d : List Nat} {w : Int} (h : Mok c d w) : low d = true := by
  rcases dead_cases h.dead with e | e | e | e | e | e | e | e <;> (rw [e]; rfl)
theorem is_whole_spec (n lo hi : Int) (S : Store) : m_is_whole [.int n, .int lo, .int hi] S = .ok (.bl (decide (lo ≤ n) && decide (n ≤ hi))) S := by
  unfold m_is_whole g_is_whole
  by_cases h : lo ≤ n <;> simp [h]
theorem is_one_spec (c : Nat) (s : List Nat) (S : Store) : m_is_one_of [.str [c], .str s] S = .ok (.bl (decide (c ∈ s))) S := by
  unfold m_is_one_of g_is_one_of
  simp [inB_str]
theorem rising_dead {d : List Nat} (h : d.Sublist qDEAD) (S : Store) : m_is_rising [.tup (d.map fun c => .str [c])] S = .ok (.bl true) S := by
  rcases dead_cases h with e | e | e | e | e | e | e | e <;> (rw [e]; rfl)
theorem all_true {α : Type} (l : List α) (S : Store) : allD S [.lst (l.map fun _ => D.bl true)] = some (.bl true) := by
  have e : l.map (fun _ => D.bl true) = (l.map fun _ => true).map D.bl := by simp [Function.comp_def]
  have e2 : lstBls S (.lst (l.map fun _ => D.bl true)) = some (l.map fun _ => true) := by
    show blsOf (l.map fun _ => D.bl true) = _
    rw [e, blsOf_bls]
  simp only [allD, e2]
  simp
theorem is_machine_spec {cols : Int} {dead : List Nat} {down : Int} (h : Mok cols dead down) (S : Store) : m_is_machine [machD cols dead down] S = .ok (.bl true) S := by
  unfold m_is_machine g_is_machine
  have e1 := is_whole_spec cols 8 40 S
  have e2 := is_whole_spec down 2 4 S
  have e3 := rising_dead h.dead S
  have h1 := h.c0
  have h2 := h.c1
  have h3 := h.d0
  have h4 := h.d1
  generalize hC : fComp (wSeq (eOp ixD (eVar 0) (eC (.int 1)))) (.nm 1) bYes (eCall m_is_one_of (aCons (eVar 1) (aCons (eC (.str q_x27_5e_7e)) aNil))) [1] = C
  have hcomp : C [some (machD cols dead down), none] S = .ok ((dead.map fun c => D.str [c]).map fun _ => D.bl true) S := by
    rw [← hC, fComp_L (xs := dead.map fun c => D.str [c]) (b := fun _ => true) (f := fun _ => D.bl true) (by simp [machD]) (fun x hx => ?_) (by have := h.dead.length_le; simp at this ⊢; omega), List.filter_eq_self.mpr fun _ _ => rfl]
    obtain ⟨c, hc, rfl⟩ := List.mem_map.mp hx
    have hcd : c ∈ q_x27_5e_7e := h.dead.subset hc
    refine ⟨_, rfl, by simp, fun _ => ?_⟩
    have := is_one_spec c q_x27_5e_7e S
    simp only [decide_eq_true hcd] at this
    simp [wipeE, this]
  have hall := all_true dead S
  unfold machD at hcomp ⊢
  rw [List.map_map] at hcomp
  simp [-allD, e1, e2, e3, hcomp, h1, h2, h3, h4, hall, Function.comp_def]
theorem need_machine_spec {cols : Int} {dead : List Nat} {down : Int} (h : Mok cols dead down) (S : Store) : m_need_machine [machD cols dead down] S = .ok .non S := by
  unfold m_need_machine g_need_machine
  simp [is_machine_spec h S]
/-- a key of signs that the machine has -/
def Key.sig : Key → Prop
  | .sign c => c ∈ qSIG
  | .lift c => c ∈ qSIG
  | .word _ => True
theorem Key.sig_ok {k : Key} (h : k.sig) : k.ok := by
  cases k with
  | sign c => exact sig_low c h
  | lift c => exact sig_low c h
  | word w => trivial
theorem is_key_spec {k : Key} (h : k.sig) (S : Store) : m_is_key [k.d] S = .ok (.bl true) S := by
  unfold m_is_key g_is_key
  cases k with
  | sign c =>
    have h' : c ∈ qSIG := h
    have e := is_one_spec c qSIG S
    simp only [decide_eq_true h'] at e
    have hc : c < 1114112 := by have := sig_low c h'; omega
    have e0 : eqD S (.tup [.str q_sign, .str [c]]) (.tup []) = some (.bl false) := by
      unfold eqD
      rw [if_pos (by simp [flat_tup, flats_cons, flats_nil, flat_str, hc])]
      rfl
    simp only [qSIG] at e
    simp [Key.d, e0, inB_tup, flat_str, flats_cons, flats_nil, anyEq, eqv_str, e]
  | lift c =>
    have h' : c ∈ qSIG := h
    have e := is_one_spec c qSIG S
    simp only [decide_eq_true h'] at e
    have hc : c < 1114112 := by have := sig_low c h'; omega
    have e0 : eqD S (.tup [.str q_lift, .str [c]]) (.tup []) = some (.bl false) := by
      unfold eqD
      rw [if_pos (by simp [flat_tup, flats_cons, flats_nil, flat_str, hc])]
      rfl
    simp only [qSIG] at e
    simp [Key.d, e0, inB_tup, flat_str, flats_cons, flats_nil, anyEq, eqv_str, e]
  | word w => cases w <;> rfl
theorem need_keys_spec {ks : List Key} (h : ∀ k ∈ ks, k.sig) (hl : ks.length ≤ 4000) (S : Store) : m_need_keys [.tup (ks.map Key.d)] S = .ok .non S := by
  unfold m_need_keys g_need_keys
  generalize hC : fComp (wSeq (eVar 0)) (.nm 1) bYes (eCall m_is_key (aCons (eVar 1) aNil)) [1] = C
  have hcomp : C [some (.tup (ks.map Key.d)), none] S = .ok ((ks.map Key.d).map fun _ => D.bl true) S := by
    rw [← hC, fComp_L (xs := ks.map Key.d) (b := fun _ => true) (f := fun _ => D.bl true) (by simp) (fun x hx => ?_) (by simp; omega), List.filter_eq_self.mpr fun _ _ => rfl]
    obtain ⟨k, hk, rfl⟩ := List.mem_map.mp hx
    exact ⟨_, rfl, by simp, fun _ => by simp [wipeE, is_key_spec (h k hk) S]⟩
  have hall := all_true ks S
  have h4 : ¬ ((4000 : Int) < (ks.length : Int)) := by omega
  rw [List.map_map] at hcomp
  simp [-allD, hcomp, h4, hall, Function.comp_def]
theorem need_both_spec {cols : Int} {dead : List Nat} {down : Int} (hm : Mok cols dead down) {ks : List Key} (h : ∀ k ∈ ks, k.sig) (hl : ks.length ≤ 4000) (S : Store) : m_need_both [machD cols dead down, .tup (ks.map Key.d)] S = .ok .non S := by
  unfold m_need_both g_need_both
  simp [need_machine_spec hm S, need_keys_spec h hl S]
end Lw
/-! ## Pm9 -/
/-! Pm9: pressed, state, rung. -/
namespace Lw
open PySem PySem.Spec PyProof.Rows L2 RZ Sm
theorem run_app (ks ls : List Key) : ∀ M : PM, M.run (ks ++ ls) = ((M.run ks).1 ++ ((M.run ks).2.run ls).1, ((M.run ks).2.run ls).2) := by
  induction ks with
  | nil => intro M; rfl
  | cons k ks ih => intro M; rw [List.cons_append, PM.run, ih, PM.run]; rfl
theorem run_len : ∀ (ks : List Key) (M : PM), (M.run ks).1.length = ks.length
  | [], _ => rfl
  | k :: ks, M => by rw [PM.run, List.length_cons, run_len ks]; rfl
theorem run_take : ∀ (ks : List Key) (M : PM) (n : Nat), (M.run (ks.take n)).1 = (M.run ks).1.take n
  | [], _, _ => by simp [PM.run]
  | k :: ks, M, 0 => by simp [PM.run]
  | k :: ks, M, n + 1 => by rw [List.take_succ_cons, PM.run, PM.run, run_take ks]; rfl
/-! ### flat answers -/
theorem colD_flat (n : Nat) (b : Bool) : D.flat n (colD b) = true := by unfold colD; cases b <;> (rw [flat_str]; rfl)
theorem tail_flat {m : Mk} (h : m.sign < 128) (n : Nat) : D.flats n m.tail = true := by
  unfold Mk.tail
  simp [flats_cons, flats_nil, flat_int, flat_str, colD_flat]; omega
theorem moved_flat (n : Nat) (r p : Int) : D.flat (n + 1) (movedD r p) = true := by
  unfold movedD; rw [flat_tup]; simp [flats_cons, flats_nil, flat_int, flat_str]
theorem to_flat (n : Nat) (M : PM) (p : Int) : D.flat (n + 1) (M.to p).1 = true := by
  unfold PM.to
  split
  · rfl
  · exact moved_flat n _ _
theorem turn_flat (n : Nat) {M : PM} (hs : ∀ m ∈ M.marks, m.sign < 128) {k : Key} (hk : k.ok) : D.flat (n + 1) (M.turn k).1 = true := by
  cases k with
  | sign c =>
    show D.flat (n + 1) (M.strike c).1 = true
    unfold PM.strike
    split
    · rfl
    · rw [flat_tup, flats_cons, tail_flat (m := M.mark c) (up_low hk _), flat_str]; rfl
  | lift c =>
    show D.flat (n + 1) (M.lift c).1 = true
    unfold PM.lift
    split
    · rfl
    · split
      · rename_i k r ho
        have hk' := hs k (offLast_sub _ _ _ _ ho).2.2
        rw [flat_tup, flats_cons, tail_flat hk', flat_str]; rfl
      · rw [flat_tup]; simp [flats_cons, flats_nil, flat_int, flat_str]
  | word w =>
    show D.flat (n + 1) (M.word w).1 = true
    have hb : D.flat (n + 1) M.back.1 = true := by unfold PM.back; split; rfl; exact moved_flat n _ _
    have hr : ∀ r b, D.flat (n + 1) (M.rollTo r b).1 = true := fun r b => by unfold PM.rollTo; split; rfl; split <;> exact moved_flat n _ _
    cases w <;> first
      | exact to_flat n M _
      | exact hb
      | exact hr _ _
      | rfl
      | (simp only [PM.word]; split <;> rfl)
theorem run_flat (n : Nat) : ∀ (ks : List Key) {M : PM}, FitN M ks.length → (∀ k ∈ ks, k.ok) → D.flats (n + 1) (M.run ks).1 = true
  | [], _, _, _ => rfl
  | k :: ks, M, F, hk => by
    rw [PM.run, flats_cons, run_flat n ks (press_fit (by simpa using F) k (hk k (by simp))) (fun x hx => hk x (by simp [hx]))]
    rw [show (M.press k).1 = (M.turn k).1 from rfl, turn_flat n F.marks (hk k (by simp))]; rfl
mutual
theorem eqv_self : ∀ (n : Nat) (d : D), D.flat n d = true → D.eqv d d = true
  | n, d, h => by
    cases d with
    | tup xs => cases n with
      | zero => cases h
      | succ n => exact eqvs_self n xs h
    | lst xs => cases n with
      | zero => cases h
      | succ n => exact eqvs_self n xs h
    | src xs => cases n with
      | zero => cases h
      | succ n => exact eqvs_self n xs h
    | dct xs => cases n <;> cases h
    | obj j => cases n <;> cases h
    | non => rfl
    | bl b => exact beq_self_eq_true b
    | int i => exact beq_self_eq_true i
    | str s => exact beq_self_eq_true s
  termination_by _ d => sizeOf d
theorem eqvs_self : ∀ (n : Nat) (ds : List D), D.flats n ds = true → D.eqvs ds ds = true
  | _, [], _ => rfl
  | n, d :: ds, h => by
    rw [flats_cons] at h
    obtain ⟨h1, h2⟩ := Bool.and_eq_true_iff.mp h
    rw [eqvs_cons, eqv_self n d h1, eqvs_self n ds h2]; rfl
  termination_by _ ds => sizeOf ds
end
theorem neD_self (S : Store) {x y : D} (e : deref S x = deref S y) (h : D.flat 64 (deref S y) = true) : neD S x y = some (.bl false) := by
  unfold neD
  rw [e, h, eqv_self 64 _ h]; rfl
theorem eqD_self (S : Store) {x y : D} (e : deref S x = deref S y) (h : D.flat 64 (deref S y) = true) : eqD S x y = some (.bl true) := by
  unfold eqD
  rw [e, h, eqv_self 64 _ h]; rfl
/-- a machine and keys that a law made: all that is needed -/
structure Made (cols : Int) (dead : List Nat) (down : Int) (ks : List Key) : Prop where
  m : Mok cols dead down
  sig : ∀ k ∈ ks, k.sig
  len : ks.length ≤ 4000
  tabs : TabsOk (PM.new cols dead down) ks
theorem Made.ok {cols : Int} {dead : List Nat} {down : Int} {ks : List Key} (h : Made cols dead down ks) : ∀ k ∈ ks, k.ok := fun k hk => Key.sig_ok (h.sig k hk)
theorem Made.fit {cols : Int} {dead : List Nat} {down : Int} {ks : List Key} (h : Made cols dead down ks) : FitN (PM.new cols dead down) ks.length :=
  ⟨h.m.low, fun m hm => by simp [PM.new] at hm, by have := h.len; simp [PM.new]; omega, by have := h.len; simp [PM.new]; omega⟩
abbrev endOf (cols : Int) (dead : List Nat) (down : Int) (ks : List Key) : PM := ((PM.new cols dead down).run ks).2
abbrev told (cols : Int) (dead : List Nat) (down : Int) (ks : List Key) : List D := ((PM.new cols dead down).run ks).1
section
variable {cols : Int} {dead : List Nat} {down : Int} {ks : List Key}
theorem Made.worked (h : Made cols dead down ks) (S : Store) : ∃ t S', m_worked [machD cols dead down, .tup [], .tup (ks.map Key.d)] S = .ok (.tup [.obj S.length, .lst (told cols dead down ks)]) S' ∧ Rep S' S.length t (endOf cols dead down ks) ∧ Fr S S' S.length :=
  worked_spec cols dead down ks h.m.low h.ok (by have := h.len; omega) h.tabs S
theorem pressed_spec (h : Made cols dead down ks) (S : Store) : ∃ S', m_pressed [machD cols dead down, .tup (ks.map Key.d)] S = .ok (.lst (told cols dead down ks)) S' ∧ Fr S S' S.length := by
  obtain ⟨t, S', e, r, f⟩ := h.worked S
  refine ⟨S', ?_, f⟩
  unfold m_pressed g_pressed
  simp [need_both_spec h.m h.sig h.len S, e]
def standD (M : PM) : D := .tup [.int M.row, .int M.place, .int M.lo, .int M.hi, .tup (M.tabs.map D.int), colD M.red, .bl M.caps, .bl M.free]
theorem stand_spec {S : Store} {j t : Nat} {M : PM} (h : Rep S j t M) : m_Machine_stand [.obj j] S = .ok (standD M) S := by
  unfold m_Machine_stand g_Machine_stand
  have h1 := h.ins
  have h2 := h.tabs
  unfold PM.fields at h1
  simp [h1, h2, standD]
theorem state_spec (h : Made cols dead down ks) (S : Store) : ∃ S', m_state [machD cols dead down, .tup (ks.map Key.d)] S = .ok (standD (endOf cols dead down ks)) S' ∧ Fr S S' S.length := by
  obtain ⟨t, S', e, r, f⟩ := h.worked S
  refine ⟨S', ?_, f⟩
  unfold m_state g_state
  have h1 := r.ins
  simp [need_both_spec h.m h.sig h.len S, e, h1, stand_spec r]
theorem rung_spec (h : Made cols dead down ks) (S : Store) : ∃ S' j, m_rung [machD cols dead down, .tup (ks.map Key.d)] S = .ok (.obj j) S' ∧ S'[j]? = some (.lst ((endOf cols dead down ks).rings.map D.int)) ∧ Fr S S' S.length := by
  obtain ⟨t, S', e, r, f⟩ := h.worked S
  refine ⟨S', S.length + 3, ?_, r.rings, f⟩
  unfold m_rung g_rung
  have h1 := r.ins
  unfold PM.fields at h1
  simp [need_both_spec h.m h.sig h.len S, e, h1]
theorem Made.take (h : Made cols dead down ks) (n : Nat) (hl : ks.length ≤ 124) : Made cols dead down (ks.take n) :=
  ⟨h.m, fun k hk => h.sig k (List.mem_of_mem_take hk), by have := h.len; simp; omega, tabs_new (by have := h.m.c0; omega) dead down _ (by simp; omega)⟩
end
end Lw
/-! ## Pm10 -/
/-! Pm10: where the carriage may go; tabs by what sets them. -/
namespace Lw
open PySem PySem.Spec PyProof.Rows L2 RZ Sm
theorem locked_hi {M : PM} {p : Int} (h : ¬ M.locked p = true) (hf : M.free = false) : p ≤ M.hi := by
  unfold PM.locked at h
  rcases Int.lt_or_le M.hi p with c | c
  · exact (h (by simp [c, hf])).elim
  · exact c
/-- the margins stand apart -/
def PM.Ap (M : PM) : Prop := M.lo < M.hi
theorem turn_ap {M : PM} (h : M.Ap) (k : Key) : (M.turn k).2.Ap := by
  have ho : ∀ (N : PM) c, N.Ap → (N.onward c).Ap := fun N c g => by unfold PM.onward; split <;> exact g
  have ht : ∀ p, (M.to p).2.Ap := fun p => by unfold PM.to; split <;> exact h
  have hr : ∀ r b, (M.rollTo r b).2.Ap := fun r b => by
    unfold PM.rollTo
    split
    · exact h
    · split <;> exact h
  have hb : M.back.2.Ap := by unfold PM.back; split <;> exact h
  cases k with
  | sign c =>
    show (M.strike c).2.Ap
    unfold PM.strike
    split
    · exact h
    · exact ho _ c h
  | lift c =>
    show (M.lift c).2.Ap
    unfold PM.lift
    split
    · exact h
    · split <;> exact ho _ c h
  | word w =>
    show (M.word w).2.Ap
    cases w with
    | left => simp only [PM.word]; split; · rename_i g; exact g
              · exact h
    | right => simp only [PM.word]; split; · rename_i g; exact g
               · exact h
    | clear => simp only [PM.word]; split <;> exact h
    | blank => exact ht _
    | half => exact ht _
    | tab => exact ht _
    | back => exact hb
    | ret => exact hr _ _
    | up => exact hr _ _
    | down => exact hr _ _
    | set => exact h
    | all => exact h
    | free => exact h
    | ribbon => exact h
    | caps => exact h
theorem run_ap : ∀ (ks : List Key) {M : PM}, M.Ap → (M.run ks).2.Ap
  | [], _, h => h
  | k :: ks, _, h => run_ap ks (M := (_ : PM)) (turn_ap h k)
theorem new_ap {cols : Int} (h : 0 < cols) (dead : List Nat) (down : Int) : (PM.new cols dead down).Ap := by show (0 : Int) < 2 * cols; omega
/-- a carriage that is not free goes no further than its margins let it -/
theorem turn_place {M : PM} (hI : M.In) (hA : M.Ap) (hf : M.free = false) (k : Key) : (M.turn k).2.place ≤ max M.place M.hi ∧ ¬ ((M.turn k).2.place < M.lo ∧ M.lo ≤ M.place) := by
  have stay : ∀ N : PM, N.place = M.place → N.place ≤ max M.place M.hi ∧ ¬ (N.place < M.lo ∧ M.lo ≤ M.place) := fun N e => by rw [e]; omega
  have far : ∀ p : Int, M.place ≤ p → p ≤ M.hi → p ≤ max M.place M.hi ∧ ¬ (p < M.lo ∧ M.lo ≤ M.place) := fun p a b => by omega
  have ht : ∀ p, M.place ≤ p → (M.to p).2.place ≤ max M.place M.hi ∧ ¬ ((M.to p).2.place < M.lo ∧ M.lo ≤ M.place) := fun p hp => by
    unfold PM.to
    split
    · exact stay _ rfl
    · rename_i hl; exact far p hp (locked_hi hl hf)
  have htab : M.place ≤ M.tabAt := by
    unfold PM.tabAt
    cases hc : M.tabs.filter (fun t => decide (M.place < t)) with
    | nil => have := hI.p1; simp; omega
    | cons a l =>
      have : a ∈ M.tabs.filter (fun t => decide (M.place < t)) := by rw [hc]; simp
      have := of_decide_eq_true (List.mem_filter.mp this).2
      show M.place ≤ a
      omega
  have hA' : M.lo < M.hi := hA
  cases k with
  | sign c =>
    show (M.strike c).2.place ≤ _ ∧ ¬ ((M.strike c).2.place < _ ∧ _)
    unfold PM.strike
    split
    · exact stay _ rfl
    · rename_i hl
      dsimp only [PM.onward]
      split
      · exact stay _ rfl
      · exact far (M.place + 2) (by omega) (locked_hi hl hf)
  | lift c =>
    show (M.lift c).2.place ≤ _ ∧ ¬ ((M.lift c).2.place < _ ∧ _)
    unfold PM.lift
    split
    · exact stay _ rfl
    · rename_i hl
      split
      · dsimp only [PM.onward]
        split
        · exact stay _ rfl
        · exact far (M.place + 2) (by omega) (locked_hi hl hf)
      · dsimp only [PM.onward]
        split
        · exact stay _ rfl
        · exact far (M.place + 2) (by omega) (locked_hi hl hf)
  | word w =>
    show (M.word w).2.place ≤ _ ∧ ¬ ((M.word w).2.place < _ ∧ _)
    have hr : ∀ r b, (M.rollTo r b).2.place ≤ max M.place M.hi ∧ ¬ ((M.rollTo r b).2.place < M.lo ∧ M.lo ≤ M.place) := fun r b => by
      unfold PM.rollTo
      split
      · exact stay _ rfl
      · split
        · show M.lo ≤ _ ∧ ¬ (M.lo < M.lo ∧ _); omega
        · exact stay _ rfl
    cases w with
    | blank => exact ht _ (by omega)
    | half => exact ht _ (by omega)
    | tab => exact ht _ htab
    | back =>
      show M.back.2.place ≤ _ ∧ ¬ (M.back.2.place < _ ∧ _)
      unfold PM.back
      split
      · exact stay _ rfl
      · rename_i hb
        have : ¬ (M.place - 2 < M.lo ∧ M.lo ≤ M.place) := fun z => hb (.inr ⟨hf, z⟩)
        dsimp only
        omega
    | ret => exact hr _ _
    | up => exact hr _ _
    | down => exact hr _ _
    | left => simp only [PM.word]; split <;> exact stay _ rfl
    | right => simp only [PM.word]; split <;> exact stay _ rfl
    | clear => simp only [PM.word]; split <;> exact stay _ rfl
    | set => exact stay _ rfl
    | all => exact stay _ rfl
    | free => exact stay _ rfl
    | ribbon => exact stay _ rfl
    | caps => exact stay _ rfl
/-! ### tabs by what sets them -/
def isSetK : Key → Bool
  | .word .set => true
  | _ => false
theorem turn_sets (M : PM) (k : Key) : (M.turn k).2.tabs.length ≤ M.tabs.length + (if isSetK k = true then 1 else 0) := by
  have ho : ∀ (N : PM) c, (N.onward c).tabs = N.tabs := fun N c => by unfold PM.onward; split <;> rfl
  have hto : ∀ p, (M.to p).2.tabs = M.tabs := fun p => by unfold PM.to; split <;> rfl
  have hr : ∀ r b, (M.rollTo r b).2.tabs = M.tabs := fun r b => by unfold PM.rollTo; split; rfl; split <;> rfl
  have hb : M.back.2.tabs = M.tabs := by unfold PM.back; split <;> rfl
  have same : ∀ N : PM, N.tabs = M.tabs → N.tabs.length ≤ M.tabs.length + (if isSetK k = true then 1 else 0) := fun N e => by rw [e]; exact Nat.le_add_right _ _
  cases k with
  | sign c =>
    refine same _ ?_
    show (M.strike c).2.tabs = _
    unfold PM.strike
    split
    · rfl
    · exact ho _ c
  | lift c =>
    refine same _ ?_
    show (M.lift c).2.tabs = _
    unfold PM.lift
    split
    · rfl
    · split <;> exact ho _ c
  | word w =>
    cases w with
    | set =>
      show (sortU (M.tabs ++ [M.place])).length ≤ M.tabs.length + 1
      have := sortU_len (M.tabs ++ [M.place])
      rw [List.length_append, List.length_singleton] at this
      exact this
    | clear =>
      show (M.word .clear).2.tabs.length ≤ _
      simp only [PM.word]
      split
      · exact Nat.le_trans (List.erase_sublist (a := M.place) (l := M.tabs)).length_le (Nat.le_add_right _ _)
      · exact Nat.le_add_right _ _
    | all => exact Nat.zero_le _
    | blank => exact same _ (hto _)
    | half => exact same _ (hto _)
    | tab => exact same _ (hto _)
    | back => exact same _ hb
    | ret => exact same _ (hr _ _)
    | up => exact same _ (hr _ _)
    | down => exact same _ (hr _ _)
    | left => refine same _ ?_; show (M.word .left).2.tabs = _; simp only [PM.word]; split <;> rfl
    | right => refine same _ ?_; show (M.word .right).2.tabs = _; simp only [PM.word]; split <;> rfl
    | free => exact same _ rfl
    | ribbon => exact same _ rfl
    | caps => exact same _ rfl
theorem tabs_sets : ∀ (ks : List Key) (M : PM), M.tabs.length + ks.countP isSetK < 63 → TabsOk M ks
  | [], _, _ => trivial
  | k :: ks, M, h => by
    rw [List.countP_cons] at h
    refine ⟨by omega, tabs_sets ks _ ?_⟩
    have := turn_sets M k
    show (M.turn k).2.tabs.length + _ < 63
    omega
end Lw
/-! ## Pm11 -/
/-! Pm11: loops and comprehensions by what stands at each turn; sorted tuples. -/
namespace Sm
open PySem PySem.Spec PyProof.Rows L2 RZ SmT
section
variable {w : Wk} {tg : Tg} {tt : BM} {el : EM} {ρ0 : Ev} {body : SM}
theorem compM_inv (I : Nat → List D → Store → Prop)
    (step : ∀ i acc S, i < w.n → I i acc S → ∃ d ρ1 b S1, w.cur S i = some d ∧ tg.put d ρ0 = some ρ1 ∧ tt ρ1 S = .ok b S1 ∧ (b = true → ∃ y S2, el ρ1 S1 = .ok y S2 ∧ acc.length < 16777216 ∧ I (i + 1) (acc ++ [y]) S2) ∧ (b = false → I (i + 1) acc S1))
    (fin : ∀ acc S, I w.n acc S → w.fin S = true) : ∀ (k i : Nat) (acc : List D) (S : Store), i + k = w.n → I i acc S → ∃ acc' S', compM w tg tt el ρ0 k i S acc = .ok acc' S' ∧ I w.n acc' S'
  | 0, i, acc, S, e, h => by
    have e' : i = w.n := e
    subst e'
    exact ⟨acc, S, by unfold compM; rw [if_pos (fin acc S h)], h⟩
  | k + 1, i, acc, S, e, h => by
    obtain ⟨d, ρ1, b, S1, h1, h2, h3, h4, h5⟩ := step i acc S (by omega) h
    unfold compM
    rw [h1]
    dsimp only
    rw [h2]
    dsimp only
    rw [h3, Res.nx, bind_ok]
    cases b with
    | false => exact compM_inv I step fin k (i + 1) acc S1 (by omega) (h5 rfl)
    | true =>
      obtain ⟨y, S2, h6, h7, h8⟩ := h4 rfl
      rw [if_pos rfl, h6, Res.nx, bind_ok, if_pos h7]
      exact compM_inv I step fin k (i + 1) (acc ++ [y]) S2 (by omega) h8
/-- a comprehension, turn by turn -/
theorem fComp_inv {fi : WM} {own : List Nat} {ρ : Ev} {S S1 : Store} (hf : fi ρ S = .ok w S1) (I : Nat → List D → Store → Prop) (h0 : I 0 [] S1)
    (step : ∀ i acc S, i < w.n → I i acc S → ∃ d ρ1 b S1, w.cur S i = some d ∧ tg.put d (wipeE ρ own) = some ρ1 ∧ tt ρ1 S = .ok b S1 ∧ (b = true → ∃ y S2, el ρ1 S1 = .ok y S2 ∧ acc.length < 16777216 ∧ I (i + 1) (acc ++ [y]) S2) ∧ (b = false → I (i + 1) acc S1))
    (fin : ∀ acc S, I w.n acc S → w.fin S = true) : ∃ acc S', fComp fi tg tt el own ρ S = .ok acc S' ∧ I w.n acc S' := by
  unfold fComp
  rw [hf, bind_ok]
  exact compM_inv I step fin w.n 0 [] S1 (by omega) h0
theorem forM_inv (I : Nat → Ev → Store → Prop) (step : ∀ i ρ S, i < w.n → I i ρ S → ∃ d ρ1 ρ2 S2, w.cur S i = some d ∧ tg.put d ρ = some ρ1 ∧ body ρ1 S = .nx ρ2 S2 ∧ I (i + 1) ρ2 S2)
    (fin : ∀ ρ S, I w.n ρ S → w.fin S = true) : ∀ (k i : Nat) (ρ : Ev) (S : Store), i + k = w.n → I i ρ S → ∃ ρ' S', forM w tg body k i ρ S = .nx ρ' S' ∧ I w.n ρ' S'
  | 0, i, ρ, S, e, h => by
    have e' : i = w.n := e
    subst e'
    exact ⟨ρ, S, by unfold forM; rw [if_pos (fin ρ S h)], h⟩
  | k + 1, i, ρ, S, e, h => by
    obtain ⟨d, ρ1, ρ2, S2, h1, h2, h3, h4⟩ := step i ρ S (by omega) h
    unfold forM
    rw [h1]
    dsimp only
    rw [h2]
    dsimp only
    rw [h3]
    exact forM_inv I step fin k (i + 1) ρ2 S2 (by omega) h4
/-- a for loop, turn by turn -/
theorem sFor_inv {fi : WM} {ρ : Ev} {S S1 : Store} (hf : fi ρ S = .ok w S1) (I : Nat → Ev → Store → Prop) (h0 : I 0 ρ S1)
    (step : ∀ i ρ S, i < w.n → I i ρ S → ∃ d ρ1 ρ2 S2, w.cur S i = some d ∧ tg.put d ρ = some ρ1 ∧ body ρ1 S = .nx ρ2 S2 ∧ I (i + 1) ρ2 S2)
    (fin : ∀ ρ S, I w.n ρ S → w.fin S = true) : ∃ ρ' S', sFor fi tg body ρ S = .nx ρ' S' ∧ I w.n ρ' S' := by
  unfold sFor
  rw [hf, sb_ok]
  exact forM_inv I step fin w.n 0 ρ S1 (by omega) h0
end
/-- a comprehension over l.map g, nothing changes -/
theorem fComp_W {α : Type} {fi : WM} {tg : Tg} {tt : BM} {el : EM} {own : List Nat} {ρ : Ev} {S : Store} {w : Wk} {l : List α} {g : α → D} {b : α → Bool} {f : α → D} (hf : fi ρ S = .ok w S) (hn : w.n = l.length) (hcur : ∀ i, i < l.length → w.cur S i = (l.map g)[i]?) (hfin : w.fin S = true)
    (h : ∀ a ∈ l, ∃ ρ1, tg.put (g a) (wipeE ρ own) = some ρ1 ∧ tt ρ1 S = .ok (b a) S ∧ (b a = true → el ρ1 S = .ok (f a) S)) (hl : l.length ≤ 16777216) :
    fComp fi tg tt el own ρ S = .ok ((l.filter b).map f) S := by
  have step : ∀ i acc S', i < w.n → (S' = S ∧ acc = ((l.take i).filter b).map f) → ∃ d ρ1 b' S1, w.cur S' i = some d ∧ tg.put d (wipeE ρ own) = some ρ1 ∧ tt ρ1 S' = .ok b' S1 ∧ (b' = true → ∃ y S2, el ρ1 S1 = .ok y S2 ∧ acc.length < 16777216 ∧ (S2 = S ∧ acc ++ [y] = ((l.take (i + 1)).filter b).map f)) ∧ (b' = false → (S1 = S ∧ acc = ((l.take (i + 1)).filter b).map f)) := by
    intro i acc S' hi ⟨h1, h2⟩
    subst h1
    rw [hn] at hi
    have ha : l[i]? = some l[i] := List.getElem?_eq_getElem hi
    obtain ⟨ρ1, a1, a2, a3⟩ := h l[i] (List.getElem_mem hi)
    refine ⟨g l[i], ρ1, b l[i], S', by rw [hcur i hi, List.getElem?_map, ha]; rfl, a1, a2, fun hb => ⟨f l[i], S', a3 hb, ?_, rfl, ?_⟩, fun hb => ⟨rfl, ?_⟩⟩
    · rw [h2, List.length_map]
      have := List.length_filter_le b (l.take i)
      rw [List.length_take] at this
      omega
    · rw [h2, List.take_succ, ha, List.filter_append, List.map_append]
      simp [hb]
    · rw [h2, List.take_succ, ha, List.filter_append, List.map_append]
      simp [hb]
  obtain ⟨acc, S', e, e1, e2⟩ := fComp_inv (tg := tg) (tt := tt) (el := el) (own := own) hf (fun i acc S' => S' = S ∧ acc = ((l.take i).filter b).map f) ⟨rfl, rfl⟩ step (fun acc S' ⟨h1, _⟩ => by rw [h1]; exact hfin)
  rw [e, e1, e2, hn, List.take_length]
theorem fComp_M {α : Type} {fi : WM} {tg : Tg} {tt : BM} {el : EM} {own : List Nat} {ρ : Ev} {S : Store} {l : List α} {g : α → D} {b : α → Bool} {f : α → D} (hf : fi ρ S = .ok (wkL (l.map g)) S)
    (h : ∀ a ∈ l, ∃ ρ1, tg.put (g a) (wipeE ρ own) = some ρ1 ∧ tt ρ1 S = .ok (b a) S ∧ (b a = true → el ρ1 S = .ok (f a) S)) (hl : l.length ≤ 16777216) :
    fComp fi tg tt el own ρ S = .ok ((l.filter b).map f) S := fComp_W hf (by simp [wkL]) (fun _ _ => rfl) rfl h hl
theorem fComp_MO {α : Type} {fi : WM} {tg : Tg} {tt : BM} {el : EM} {own : List Nat} {ρ : Ev} {S : Store} {j : Nat} {l : List α} {g : α → D} {b : α → Bool} {f : α → D} (hf : fi ρ S = .ok (wkO j l.length) S) (hj : S[j]? = some (.lst (l.map g)))
    (h : ∀ a ∈ l, ∃ ρ1, tg.put (g a) (wipeE ρ own) = some ρ1 ∧ tt ρ1 S = .ok (b a) S ∧ (b a = true → el ρ1 S = .ok (f a) S)) (hl : l.length ≤ 16777216) :
    fComp fi tg tt el own ρ S = .ok ((l.filter b).map f) S := by
  have e : (wkO j l.length) = wkO j (l.map g).length := by rw [List.length_map]
  rw [e] at hf
  exact fComp_W hf (by show (l.map g).length = _; rw [List.length_map]) (fun i _ => wkO_cur hj i) (wkO_fin hj) h hl
theorem filter_true {α : Type} (l : List α) : l.filter (fun _ => true) = l := List.filter_eq_self.mpr fun _ _ => rfl
/-! ### sorted lists stay -/
theorem insA_le {α : Type} {lt : α → α → Bool} {x : α} : ∀ {l : List α}, (∀ y ∈ l, lt y x = false) → insA lt x l = x :: l
  | [], _ => rfl
  | y :: r, h => by
    unfold insA
    rw [if_neg (by rw [h y List.mem_cons_self]; exact Bool.false_ne_true)]
theorem sortA_id {α : Type} {lt : α → α → Bool} : ∀ {l : List α}, l.Pairwise (fun a b => lt b a = false) → sortA lt l = l
  | [], _ => rfl
  | x :: r, h => by
    obtain ⟨h1, h2⟩ := List.pairwise_cons.mp h
    show insA lt x (sortA lt r) = x :: r
    rw [sortA_id h2]
    exact insA_le h1
end Sm
/-! ## Lm1 -/
/-! Lm1: the law's own machine, a dict. -/
namespace Lw
open PySem PySem.Spec PyProof.Rows L2 RZ Sm
def machOf (c0 : Int) (M : PM) : D := .tup [.int c0, .tup (M.dead.map fun c => .str [c]), .int M.down]
def LD (c0 : Int) (ts : List Int) (M : PM) (j : Nat) : List (D × D) :=
  [(.str q_machine, machOf c0 M), (.str q_end, .int M.fin), (.str q_row, .int M.row), (.str q_place, .int M.place), (.str q_low, .int M.lo), (.str q_high, .int M.hi), (.str q_tabs, .lst (ts.map D.int)), (.str q_red, .bl M.red), (.str q_caps, .bl M.caps), (.str q_free, .bl M.free), (.str q_marks, .obj (j + 1)), (.str q_rings, .obj (j + 2)), (.str q_many, .int M.many)]
section
variable (c0 : Int) (ts ts' : List Int) (M : PM) (j : Nat) (i : Int) (b : Bool)
@[simp] theorem ld_machine : getK (LD c0 ts M j) (.str q_machine) = some (machOf c0 M) := rfl
@[simp] theorem ld_end : getK (LD c0 ts M j) (.str q_end) = some (.int M.fin) := rfl
@[simp] theorem ld_row : getK (LD c0 ts M j) (.str q_row) = some (.int M.row) := rfl
@[simp] theorem ld_place : getK (LD c0 ts M j) (.str q_place) = some (.int M.place) := rfl
@[simp] theorem ld_low : getK (LD c0 ts M j) (.str q_low) = some (.int M.lo) := rfl
@[simp] theorem ld_high : getK (LD c0 ts M j) (.str q_high) = some (.int M.hi) := rfl
@[simp] theorem ld_tabs : getK (LD c0 ts M j) (.str q_tabs) = some (.lst (ts.map D.int)) := rfl
@[simp] theorem ld_red : getK (LD c0 ts M j) (.str q_red) = some (.bl M.red) := rfl
@[simp] theorem ld_caps : getK (LD c0 ts M j) (.str q_caps) = some (.bl M.caps) := rfl
@[simp] theorem ld_free : getK (LD c0 ts M j) (.str q_free) = some (.bl M.free) := rfl
@[simp] theorem ld_marks : getK (LD c0 ts M j) (.str q_marks) = some (.obj (j + 1)) := rfl
@[simp] theorem ld_rings : getK (LD c0 ts M j) (.str q_rings) = some (.obj (j + 2)) := rfl
@[simp] theorem ld_many : getK (LD c0 ts M j) (.str q_many) = some (.int M.many) := rfl
@[simp] theorem ld_len : (LD c0 ts M j).length = 13 := rfl
@[simp] theorem lp_row : dputK (LD c0 ts M j) (.str q_row) (.int i) = LD c0 ts { M with row := i } j := rfl
@[simp] theorem lp_place : dputK (LD c0 ts M j) (.str q_place) (.int i) = LD c0 ts { M with place := i } j := rfl
@[simp] theorem lp_low : dputK (LD c0 ts M j) (.str q_low) (.int i) = LD c0 ts { M with lo := i } j := rfl
@[simp] theorem lp_high : dputK (LD c0 ts M j) (.str q_high) (.int i) = LD c0 ts { M with hi := i } j := rfl
@[simp] theorem lp_red : dputK (LD c0 ts M j) (.str q_red) (.bl b) = LD c0 ts { M with red := b } j := rfl
@[simp] theorem lp_caps : dputK (LD c0 ts M j) (.str q_caps) (.bl b) = LD c0 ts { M with caps := b } j := rfl
@[simp] theorem lp_free : dputK (LD c0 ts M j) (.str q_free) (.bl b) = LD c0 ts { M with free := b } j := rfl
@[simp] theorem lp_many : dputK (LD c0 ts M j) (.str q_many) (.int i) = LD c0 ts { M with many := i } j := rfl
theorem lp_tabs : dputK (LD c0 ts M j) (.str q_tabs) (.lst (ts'.map D.int)) = LD c0 ts' M j := rfl
@[simp] theorem lp_tabs0 : dputK (LD c0 ts M j) (.str q_tabs) (.lst []) = LD c0 [] M j := rfl
end
/-- how the law's machine stands in the store -/
structure LR (S : Store) (j : Nat) (c0 : Int) (ts : List Int) (M : PM) : Prop where
  dct : S[j]? = some (.dct (LD c0 ts M j))
  marks : S[j + 1]? = some (.lst (M.marks.map Mk.d))
  rings : S[j + 2]? = some (.lst (M.rings.map D.int))
section
variable {S : Store} {j : Nat} {c0 : Int} {ts : List Int} {M : PM}
theorem lshut_spec (h : LR S j c0 ts M) (p : Int) : m__law_shut [.obj j, .int p] S = .ok (.bl (M.locked p)) S := by
  unfold m__law_shut g__law_shut PM.locked
  have := h.dct
  by_cases h1 : M.fin < p <;> by_cases h2 : M.free <;> simp [this, h1, h2]
theorem lgo_spec (h : LR S j c0 ts M) (hr : M.rings.length < 16777216) (p : Int) : ∃ S', m__law_go [.obj j, .int p] S = .ok (movedD M.row p) S' ∧ LR S' j c0 ts (M.goOn p) ∧ Fr S S' j := by
  unfold m__law_go g__law_go PM.goOn
  obtain ⟨h1, h2, h3⟩ := h
  by_cases c1 : M.place < M.hi - 10 <;> by_cases c2 : M.hi - 10 ≤ p <;> simp [h1, h3, c1, c2, hr, onL, lstOf, set_ne, movedD]
  all_goals exact ⟨⟨by simp [set_ne, h1] <;> rfl, by simp [set_ne, h2], by simp [set_ne, h3]⟩, by repeat' first | exact Fr.refl | refine Fr.set ?_ (by omega)⟩
theorem las_spec (h : LR S j c0 ts M) {c : Nat} (hc : c < 128) : m__law_as [.obj j, .str [c]] S = .ok (.str [up c M.caps]) S := by
  unfold m__law_as g__law_as up
  have h1 := h.dct
  cases c1 : M.caps <;> simp [h1, c1, hc, up1]
end
theorem mk_eqv (m k : Mk) : D.eqv m.d k.d = decide (m = k) := by
  obtain ⟨a1, a2, a3, a4, a5⟩ := m
  obtain ⟨b1, b2, b3, b4, b5⟩ := k
  unfold Mk.d Mk.tail
  simp only [eqv_tup, eqvs_cons, eqvs_nil, eqv_int, eqv_str, colD, Mk.mk.injEq, Bool.and_true]
  rw [Bool.eq_iff_iff]
  cases a5 <;> cases b5 <;> simp
theorem mk_flat {m : Mk} (h : m.sign < 128) (n : Nat) : D.flat (n + 1) m.d = true := by
  unfold Mk.d Mk.tail colD
  cases m.red <;> simp [flat_tup, flats_cons, flats_nil, flat_int, flat_str] <;> omega
theorem mks_flat : ∀ {l : List Mk} (h : ∀ m ∈ l, m.sign < 128) (n : Nat), D.flats (n + 1) (l.map Mk.d) = true
  | [], _, _ => rfl
  | m :: l, h, n => by
    rw [List.map_cons, flats_cons, mk_flat (h m (by simp)), mks_flat (fun x hx => h x (by simp [hx])) n]; rfl
theorem placeOf_mks (k : Mk) : ∀ l : List Mk, placeOf k.d (l.map Mk.d) = if k ∈ l then some (l.idxOf k) else none
  | [] => rfl
  | a :: l => by
    rw [List.map_cons, Sm.placeOf, mk_eqv, placeOf_mks k l]
    by_cases h : a = k
    · simp [h]
    · have h2 : ¬ k = a := fun e => h e.symm
      by_cases h3 : k ∈ l
      · simp [h, h2, h3, List.idxOf_cons]
        simp [beq_false_of_ne h]
      · simp [h, h2, h3]
theorem erase_mk (l : List Mk) (p : Mk) : l.eraseIdx (l.idxOf p) = l.erase p := by
  induction l with
  | nil => rfl
  | cons a l ih =>
    rw [List.idxOf_cons, List.erase_cons]
    by_cases h : a = p
    · simp [h]
    · simp [h, beq_false_of_ne h, ih]
theorem offLast_erase (q : Mk → Bool) : ∀ (l : List Mk), l.Nodup → match offLast q l with
    | none => l.filter q = []
    | some (k, r) => (l.filter q).getLast? = some k ∧ l.erase k = r
  | [], _ => rfl
  | m :: l, hn => by
    obtain ⟨n1, n2⟩ := List.nodup_cons.mp hn
    have ih := offLast_erase q l n2
    unfold offLast
    cases ho : offLast q l with
    | some p =>
      obtain ⟨k, r⟩ := p
      rw [ho] at ih
      obtain ⟨e1, e2⟩ := ih
      have hk : k ∈ l := (offLast_sub q l _ _ ho).2.2
      have hne : ¬ m = k := fun e => n1 (e ▸ hk)
      refine ⟨?_, ?_⟩
      · rw [List.filter_cons]
        split
        · rw [List.getLast?_cons, e1]; rfl
        · exact e1
      · rw [List.erase_cons]
        simp [hne, e2]
    | none =>
      rw [ho] at ih
      have ih' : l.filter q = [] := ih
      by_cases hq : q m = true
      · simp only [if_pos hq]
        exact ⟨by rw [List.filter_cons_of_pos hq, ih']; rfl, by simp⟩
      · simp only [if_neg hq]
        rw [List.filter_cons_of_neg hq, ih']
def mkB (like : List D) (x : D) : Bool := match x with
  | .tup [_, r, p, s, _] => D.eqvs [r, p, s] like
  | _ => false
theorem mkB_at (m k : Mk) : mkB [.int k.row, .int k.place, .str [k.sign]] m.d = k.at_ m := by
  unfold mkB Mk.d Mk.tail Mk.at_
  simp [eqvs_cons, eqvs_nil, eqv_int, eqv_str]
  rw [Bool.eq_iff_iff]
  simp [and_assoc]
theorem filter_mks (k : Mk) : ∀ l : List Mk, ((l.map Mk.d).filter (mkB [.int k.row, .int k.place, .str [k.sign]])).map id = (l.filter k.at_).map Mk.d
  | [] => rfl
  | m :: l => by
    have ih := filter_mks k l
    rw [List.map_cons, List.filter_cons, List.filter_cons, mkB_at]
    split
    · rw [List.map_cons, List.map_cons, ih]; rfl
    · exact ih
section
variable {S : Store} {j : Nat} {c0 : Int} {ts : List Int} {M : PM}
theorem ink_comp (h : LR S j c0 ts M) (hs : ∀ m ∈ M.marks, m.sign < 128) (hm : M.marks.length < 16777216) {c : Nat} (hc : c < 128) (w : List Nat) (o3 o5 o6 : Option D) (red : D) :
    fComp (wSeq (eOp dgetD (eVar 0) (eC (.str q_marks)))) (.nm 7) (bE (eOp eqD (eSl (eVar 7) (oSome (eC (.int 1))) (oSome (eC (.int 4)))) (eSl (eVar 4) oNone (oSome (eC (.int 3)))))) (eVar 7) [7]
      [some (.obj j), some (.str w), some (.str [c]), o3, some (.tup [.int M.row, .int M.place, .str [up c M.caps], red]), o5, o6, none] S = .ok ((M.marks.filter (M.mark c).at_).map Mk.d) S := by
  have hup : up c M.caps < 1114112 := by have := up_low hc M.caps; omega
  have h1 := h.dct
  have h2 := h.marks
  rw [fComp_O (xs := M.marks.map Mk.d) (b := mkB [.int (M.mark c).row, .int (M.mark c).place, .str [(M.mark c).sign]]) (f := id) (by simp [h1, h2]) h2 (fun x hx => ?_) (by simp; omega), filter_mks]
  obtain ⟨m, hm', rfl⟩ := List.mem_map.mp hx
  have hms := hs m hm'
  refine ⟨_, rfl, ?_, fun _ => by simp [wipeE]⟩
  simp [Mk.d, Mk.tail, eqD, flat_tup, flats_cons, flats_nil, flat_int, flat_str, show m.sign < 1114112 by omega, hup, eqv_tup, mkB, PM.mark, wipeE]
theorem eq_nil_mks (S : Store) {l : List Mk} (h : ∀ m ∈ l, m.sign < 128) : eqD S (.lst (l.map Mk.d)) (.lst []) = some (.bl l.isEmpty) := by
  unfold eqD
  rw [if_pos (by simp only [deref, flat_lst, mks_flat h]; rfl)]
  cases l <;> rfl
theorem linkS_spec (h : LR S j c0 ts M) (hd : low M.dead = true) (hs : ∀ m ∈ M.marks, m.sign < 128) {c : Nat} (hc : c < 128) (hm : M.marks.length < 16777216) (hr : M.rings.length < 16777216) :
    ∃ S', m__law_ink [.obj j, .str q_sign, .str [c]] S = .ok (M.strike c).1 S' ∧ LR S' j c0 ts (M.strike c).2 ∧ Fr S S' j := by
  unfold m__law_ink g__law_ink PM.strike
  have hl := lshut_spec h (M.place + 2)
  have hC := ink_comp h hs hm hc q_sign
  generalize fComp (wSeq (eOp dgetD (eVar 0) (eC (.str q_marks)))) (.nm 7) (bE (eOp eqD (eSl (eVar 7) (oSome (eC (.int 1))) (oSome (eC (.int 4)))) (eSl (eVar 4) oNone (oSome (eC (.int 3)))))) (eVar 7) [7] = C at hC ⊢
  have has := las_spec h hc
  have hin := notin_dead hd hc
  have h1 := h.dct
  have h2 := h.marks
  by_cases c1 : M.locked (M.place + 2) = true
  · simp [h1, hl, c1, lockedD]
    exact ⟨h, .refl⟩
  · have r1 : LR (S.set (j + 1) (O.lst ((M.marks ++ [M.mark c]).map Mk.d))) j c0 ts { M with marks := M.marks ++ [M.mark c] } :=
      ⟨by simp [set_ne, h1] <;> rfl, by simp [h2], by simp [set_ne, h.rings]⟩
    obtain ⟨S2, e2, r2, f2⟩ := lgo_spec r1 hr (M.place + 2)
    simp only [List.map_append, List.map_cons, List.map_nil, Mk.d, Mk.tail, PM.mark] at e2
    by_cases c2 : c ∈ M.dead
    · cases cr : M.red <;> (simp [h1, hl, c1, has, h2, hm, onL, set_ne, hin, c2, Mk.d, Mk.tail, PM.mark, PM.onward, hC, cr, colD, eqD_str, low, machOf]; exact ⟨⟨by simp [set_ne, h1, LD, machOf, cr], by simp [h2, Mk.d, Mk.tail, colD], by simp [set_ne, h.rings]⟩, Fr.set .refl (by omega)⟩)
    · cases cr : M.red <;> (simp [cr, colD] at e2; simp [h1, hl, c1, has, h2, hm, onL, set_ne, hin, c2, Mk.d, Mk.tail, PM.mark, PM.onward, hC, cr, colD, eqD_str, low, machOf, e2]; exact ⟨by simpa [PM.mark, cr] using r2, (Fr.set .refl (by omega)).trans f2⟩)
theorem linkL_spec (h : LR S j c0 ts M) (hd : low M.dead = true) (hs : ∀ m ∈ M.marks, m.sign < 128) (hn : M.marks.Nodup) {c : Nat} (hc : c < 128) (hm : M.marks.length < 16777216) (hr : M.rings.length < 16777216) :
    ∃ S', m__law_ink [.obj j, .str q_lift, .str [c]] S = .ok (M.lift c).1 S' ∧ LR S' j c0 ts (M.lift c).2 ∧ Fr S S' j := by
  unfold m__law_ink g__law_ink PM.lift
  have hl := lshut_spec h (M.place + 2)
  have hC := ink_comp h hs hm hc q_lift
  generalize fComp (wSeq (eOp dgetD (eVar 0) (eC (.str q_marks)))) (.nm 7) (bE (eOp eqD (eSl (eVar 7) (oSome (eC (.int 1))) (oSome (eC (.int 4)))) (eSl (eVar 4) oNone (oSome (eC (.int 3)))))) (eVar 7) [7] = C at hC ⊢
  have has := las_spec h hc
  have hin := notin_dead hd hc
  have h1 := h.dct
  have h2 := h.marks
  have hgo := lgo_spec h hr (M.place + 2)
  by_cases c1 : M.locked (M.place + 2) = true
  · simp [h1, hl, c1, lockedD]
    exact ⟨h, .refl⟩
  · have ho := offLast_erase (M.mark c).at_ M.marks hn
    have hfl : ∀ m ∈ M.marks.filter (M.mark c).at_, m.sign < 128 := fun m hm => hs m (List.mem_filter.mp hm).1
    have heq := eq_nil_mks S hfl
    cases hoff : offLast (M.mark c).at_ M.marks with
    | none =>
      rw [hoff] at ho
      have ho' : M.marks.filter (M.mark c).at_ = [] := ho
      rw [ho'] at hC heq
      obtain ⟨S2, e2, r2, f2⟩ := hgo
      by_cases c2 : c ∈ M.dead
      · cases cr : M.red <;> (simp at heq; simp [h1, hl, c1, has, hin, c2, PM.onward, hC, cr, eqD_str, low, machOf, heq]; exact ⟨h, .refl⟩)
      · cases cr : M.red <;> (simp at heq; simp [h1, hl, c1, has, hin, c2, PM.onward, hC, cr, eqD_str, low, machOf, heq, e2]; exact ⟨r2, f2⟩)
    | some p =>
      obtain ⟨k, r⟩ := p
      rw [hoff] at ho
      obtain ⟨e1, e3⟩ := ho
      have hk : k ∈ M.marks := (offLast_sub _ _ _ _ hoff).2.2
      have r1 : LR (S.set (j + 1) (O.lst (r.map Mk.d))) j c0 ts { M with marks := r } :=
        ⟨by simp [set_ne, h1] <;> rfl, by simp [h2], by simp [set_ne, h.rings]⟩
      obtain ⟨S2, e4, r2, f2⟩ := lgo_spec r1 hr (M.place + 2)
      rw [show (M.marks.filter (M.mark c).at_).isEmpty = false by cases hz : M.marks.filter (M.mark c).at_ with | nil => rw [hz] at e1; cases e1 | cons => rfl] at heq
      have hix : L2.atI ((M.marks.filter (M.mark c).at_).map Mk.d) (-1) = some k.d := by
        rw [atI_neg, List.getLast?_map, e1]; rfl
      have hrem : removeM S (.obj (j + 1)) [k.d] = some (.non, S.set (j + 1) (O.lst (r.map Mk.d))) := by
        unfold removeM
        simp only [onL, h2, mks_flat hs 62, mk_flat (hs k hk) 63, Bool.and_self, if_true, placeOf_mks, if_pos hk, Option.map_some, map_erase, erase_mk, e3]
      have hkd : k.d = .tup (.int k.n :: k.tail) := rfl
      by_cases c2 : c ∈ M.dead
      · cases cr : M.red <;> (simp [-removeM, h1, hl, c1, has, h2, set_ne, hin, c2, PM.onward, hC, cr, eqD_str, low, machOf, heq, hix, hrem]; simp [hkd, Mk.tail, h1, set_ne, hin, c2, machOf, cr]; exact ⟨by simpa [cr] using r1, Fr.set .refl (by omega)⟩)
      · cases cr : M.red <;> (simp [-removeM, h1, hl, c1, has, h2, set_ne, hin, c2, PM.onward, hC, cr, eqD_str, low, machOf, heq, hix, hrem]; simp [hkd, Mk.tail, h1, set_ne, hin, c2, machOf, cr, e4]; exact ⟨by simpa [cr] using r2, (Fr.set .refl (by omega)).trans f2⟩)
end
end Lw
/-! ## Lm2 -/
/-! Lm2: the law's machine: turns, steps, keys. -/
namespace Lw
open PySem PySem.Spec PyProof.Rows L2 RZ Sm
/-- the law's tabs are the machine's, in some order -/
structure TR (ts : List Int) (M : PM) : Prop where
  nd : ts.Nodup
  same : ∀ k, k ∈ ts ↔ k ∈ M.tabs
theorem TR.keep {ts : List Int} {M N : PM} (h : TR ts M) (e : N.tabs = M.tabs) : TR ts N := ⟨h.nd, fun k => by rw [e]; exact h.same k⟩
theorem map_snoc (A : List Int) (p : Int) : A.map D.int ++ [.int p] = (A ++ [p]).map D.int := by simp
theorem cat_ints (S : Store) (A : List Int) (p : Int) (h : A.length < 16777216) : addD S (.lst (A.map D.int)) (.lst [.int p]) = some (.lst ((A ++ [p]).map D.int)) := by
  rw [addD_lst]
  unfold cat big
  rw [if_pos (by rw [List.length_map]; exact decide_eq_true (by simp; omega)), map_snoc]
def neB (p : Int) (x : D) : Bool := match x with
  | .int i => !(i == p)
  | _ => false
section
variable {S : Store} {j : Nat} {c0 : Int} {ts : List Int} {M : PM}
theorem tabs_comp (h : LR S j c0 ts M) (hl : ts.length < 16777216) (w : List Nat) : fComp (wSeq (eOp dgetD (eVar 0) (eC (.str q_tabs)))) (.nm 3) (bE (eOp neD (eVar 3) (eVar 2))) (eVar 3) [3] [some (.obj j), some (.str w), some (.int M.place), none, none] S = .ok ((ts.filter fun t => !(t == M.place)).map D.int) S := by
  have h1 := h.dct
  rw [fComp_L (xs := ts.map D.int) (b := neB M.place) (f := id) (by simp [h1]) (fun x hx => ?_) (by simp; omega), filter_ints (fun t => !(t == M.place)) _ (fun i => rfl)]
  obtain ⟨i, _, rfl⟩ := List.mem_map.mp hx
  exact ⟨_, rfl, by simp [wipeE, neB], fun _ => by simp [wipeE]⟩
theorem tr_clear (T : TR ts M) (h : M.In) : TR (ts.filter fun t => !(t == M.place)) ({ M with tabs := M.tabs.erase M.place } : PM) := by
  refine ⟨T.nd.filter _, fun k => ?_⟩
  have hnd : M.tabs.Nodup := h.up.imp fun {a b} hab e => by rw [e] at hab; exact Int.lt_irrefl _ hab
  show _ ↔ k ∈ M.tabs.erase M.place
  rw [List.mem_filter, T.same, hnd.mem_erase_iff]
  simp
  exact and_comm
theorem tr_set (T : TR ts M) : TR ((ts.filter fun t => !(t == M.place)) ++ [M.place]) ({ M with tabs := sortU (M.tabs ++ [M.place]) } : PM) := by
  refine ⟨List.nodup_append.mpr ⟨T.nd.filter _, by simp, fun a ha b hb e => ?_⟩, fun k => ?_⟩
  · simp at hb; rw [e, hb] at ha; simp [List.mem_filter] at ha
  · show _ ↔ k ∈ sortU (M.tabs ++ [M.place])
    rw [sortU_mem, List.mem_append, List.mem_append, List.mem_filter, T.same]
    simp
    by_cases e : k = M.place <;> simp [e]
theorem lturn_spec (h : LR S j c0 ts M) (T : TR ts M) (I : M.In) (hl : ts.length < 16777216) (w : Wd) (hw : isSet w = true) :
    ∃ ts' S', m__law_turn [.obj j, .str w.t] S = .ok (M.word w).1 S' ∧ LR S' j c0 ts' (M.word w).2 ∧ TR ts' (M.word w).2 ∧ Fr S S' j := by
  unfold m__law_turn g__law_turn
  have h0 := h
  have hC := tabs_comp h hl
  generalize fComp (wSeq (eOp dgetD (eVar 0) (eC (.str q_tabs)))) (.nm 3) (bE (eOp neD (eVar 3) (eVar 2))) (eVar 3) [3] = C at hC ⊢
  obtain ⟨h1, h2, h3⟩ := h
  have hcat := cat_ints S (ts.filter fun t => !(t == M.place)) M.place (by have := List.length_filter_le (fun t => !(t == M.place)) ts; omega)
  have ein : inB S (.int M.place) (.lst (ts.map D.int)) = some (decide (M.place ∈ M.tabs)) := by
    show (match lstOf S (.lst (ts.map D.int)) with
      | some ys => if (D.flat 64 (.int M.place) && D.flats 63 ys) = true then some (anyEq (.int M.place) ys) else none
      | none => none) = _
    simp only [lstOf, flats_ints, flat_int, anyEq_ints, Bool.and_self, if_true]
    congr 1
    exact decide_eq_decide.mpr (T.same _)
  have LK : ∀ N : PM, N.tabs = M.tabs → N.marks = M.marks → N.rings = M.rings → LR (S.set j (.dct (LD c0 ts N j))) j c0 ts N ∧ TR ts N ∧ Fr S (S.set j (.dct (LD c0 ts N j))) j := fun N e1 e2 e3 =>
    ⟨⟨by simp [h1], by simp [set_ne, h2, e2], by simp [set_ne, h3, e3]⟩, T.keep e1, Fr.set .refl (Nat.le_refl _)⟩
  cases w with
  | left =>
    refine ⟨ts, ?_⟩
    by_cases c : M.place < M.hi
    · simp [PM.word, Wd.t, h1, eqD_str, low, c, doneD]
      exact LK _ rfl rfl rfl
    · simp [PM.word, Wd.t, h1, eqD_str, low, c, lockedD, inB_tup, flat_str, flats_cons, flats_nil, anyEq, eqv_str]
      exact ⟨h0, T, .refl⟩
  | right =>
    refine ⟨ts, ?_⟩
    by_cases c : M.lo < M.place
    · simp [PM.word, Wd.t, h1, eqD_str, low, c, doneD]
      exact LK _ rfl rfl rfl
    · simp [PM.word, Wd.t, h1, eqD_str, low, c, lockedD, inB_tup, flat_str, flats_cons, flats_nil, anyEq, eqv_str]
      exact ⟨h0, T, .refl⟩
  | set =>
    refine ⟨(ts.filter fun t => !(t == M.place)) ++ [M.place], ?_⟩
    simp [-List.map_append, PM.word, Wd.t, h1, eqD_str, low, doneD, hC, hcat, lp_tabs]
    exact ⟨⟨by simp [h1] <;> rfl, by simp [set_ne, h2], by simp [set_ne, h3]⟩, tr_set T, Fr.set .refl (Nat.le_refl _)⟩
  | clear =>
    by_cases c : M.place ∈ M.tabs
    · refine ⟨ts.filter fun t => !(t == M.place), ?_⟩
      simp [PM.word, Wd.t, h1, eqD_str, low, doneD, hC, ein, c, lp_tabs]
      exact ⟨⟨by simp [h1] <;> rfl, by simp [set_ne, h2], by simp [set_ne, h3]⟩, tr_clear T I, Fr.set .refl (Nat.le_refl _)⟩
    · refine ⟨ts, ?_⟩
      simp [PM.word, Wd.t, h1, eqD_str, low, c, lockedD, ein, inB_tup, flat_str, flats_cons, flats_nil, anyEq, eqv_str]
      exact ⟨h0, T, .refl⟩
  | all =>
    refine ⟨[], ?_⟩
    simp [PM.word, Wd.t, h1, eqD_str, low, doneD, inB_tup, flat_str, flats_cons, flats_nil, anyEq, eqv_str]
    exact ⟨⟨by simp [h1] <;> rfl, by simp [set_ne, h2], by simp [set_ne, h3]⟩, ⟨by simp, by simp⟩, Fr.set .refl (Nat.le_refl _)⟩
  | free =>
    refine ⟨ts, ?_⟩
    simp [PM.word, Wd.t, h1, eqD_str, low, doneD, inB_tup, flat_str, flats_cons, flats_nil, anyEq, eqv_str, dPairs, mergeD, dputK, D.keq, List.foldl, getK]
    exact LK { M with free := true } rfl rfl rfl
  | ribbon =>
    refine ⟨ts, ?_⟩
    simp [PM.word, Wd.t, h1, eqD_str, low, doneD, inB_tup, flat_str, flats_cons, flats_nil, anyEq, eqv_str, dPairs, mergeD, dputK, D.keq, List.foldl, getK]
    exact LK { M with red := !M.red } rfl rfl rfl
  | caps =>
    refine ⟨ts, ?_⟩
    simp [PM.word, Wd.t, h1, eqD_str, low, doneD, inB_tup, flat_str, flats_cons, flats_nil, anyEq, eqv_str, dPairs, mergeD, dputK, D.keq, List.foldl, getK]
    exact LK { M with caps := !M.caps } rfl rfl rfl
  | _ => cases hw
/-! ### steps -/
theorem minL_mem (i : Int) (r : List Int) : Sm.minL i r ∈ i :: r ∧ ∀ k ∈ i :: r, Sm.minL i r ≤ k := Sm.minL_spec r i
theorem min_ext {i k : Int} {r s : List Int} (h : ∀ x, x ∈ i :: r ↔ x ∈ k :: s) : Sm.minL i r = Sm.minL k s := by
  obtain ⟨a1, a2⟩ := minL_mem i r
  obtain ⟨b1, b2⟩ := minL_mem k s
  exact Int.le_antisymm (a2 _ ((h _).mpr b1)) (b2 _ ((h _).mp a1))
theorem lstep_goal (T : TR ts M) (I : M.In) (hf : M.fin ≤ 80) (d : Int) (r : List Int) (e : (ts.filter fun t => decide (M.place < t)) ++ [999] = d :: r) : M.to (Sm.minL d r) = M.to M.tabAt := by
  have hmem : ∀ x, x ∈ d :: r ↔ (x ∈ M.tabs ∧ M.place < x) ∨ x = 999 := fun x => by
    rw [← e, List.mem_append, List.mem_filter, T.same]; simp
  obtain ⟨a1, a2⟩ := minL_mem d r
  have ht := I.t0
  unfold PM.tabAt
  cases hfl : M.tabs.filter (fun t => decide (M.place < t)) with
  | nil =>
    have hno : ∀ x, x ∈ M.tabs → ¬ M.place < x := fun x hx hp => by
      have : x ∈ M.tabs.filter (fun t => decide (M.place < t)) := List.mem_filter.mpr ⟨hx, decide_eq_true hp⟩
      rw [hfl] at this; cases this
    have hm : Sm.minL d r = 999 := by
      rcases (hmem _).mp a1 with ⟨z1, z2⟩ | z
      · exact (hno _ z1 z2).elim
      · exact z
    rw [hm]
    have l1 : M.locked 999 = true := by unfold PM.locked; simp; left; omega
    have l2 : M.locked (M.fin + 1) = true := by unfold PM.locked; simp; left; omega
    unfold PM.to
    simp [l1, l2]
  | cons a l =>
    have hs : (M.tabs.filter fun t => decide (M.place < t)).Pairwise (· < ·) := I.up.filter _
    have ha : a ∈ M.tabs ∧ M.place < a := by
      have : a ∈ M.tabs.filter (fun t => decide (M.place < t)) := by rw [hfl]; simp
      obtain ⟨z1, z2⟩ := List.mem_filter.mp this
      exact ⟨z1, of_decide_eq_true z2⟩
    rw [hfl] at hs
    have hmin : ∀ x, x ∈ M.tabs → M.place < x → a ≤ x := fun x hx hp => by
      have : x ∈ a :: l := by rw [← hfl]; exact List.mem_filter.mpr ⟨hx, decide_eq_true hp⟩
      rcases List.mem_cons.mp this with z | z
      · omega
      · exact Int.le_of_lt ((List.pairwise_cons.mp hs).1 x z)
    have : Sm.minL d r = a := by
      refine Int.le_antisymm (a2 a ((hmem a).mpr (.inl ha))) ?_
      rcases (hmem _).mp a1 with ⟨z1, z2⟩ | z
      · exact hmin _ z1 z2
      · rw [z]; have := (ht a ha.1).2; omega
    rw [this]; rfl
theorem ltabs_comp (h : LR S j c0 ts M) (hl : ts.length < 16777216) (o3 o4 : Option D) : fComp (wSeq (eOp dgetD (eVar 0) (eC (.str q_tabs)))) (.nm 5) (bE (eOp gtD (eVar 5) (eVar 2))) (eVar 5) [5] [some (.obj j), some (.str q_tab), some (.int M.place), o3, o4, none] S = .ok ((ts.filter fun t => decide (M.place < t)).map D.int) S := by
  have h1 := h.dct
  rw [fComp_L (xs := ts.map D.int) (b := gtB M.place) (f := id) (by simp [h1]) (fun x hx => ?_) (by simp; omega), filter_ints (fun t => decide (M.place < t)) _ (fun i => rfl)]
  obtain ⟨i, _, rfl⟩ := List.mem_map.mp hx
  exact ⟨_, rfl, by simp [wipeE, gtB], fun _ => by simp [wipeE]⟩
@[simp] theorem sb_rt_out (r : Res D) (ρ : Ev) : (r.sb ρ fun d S1 => SR.rt d S1).out = r := by cases r <;> rfl
theorem lstep_to (h : LR S j c0 ts M) (hr : M.rings.length < 16777216) (p : Int) : ∃ S', (if M.locked p = true then (Res.ok lockedD S : Res D) else m__law_go [.obj j, .int p] S) = .ok (M.to p).1 S' ∧ LR S' j c0 ts (M.to p).2 ∧ Fr S S' j := by
  unfold PM.to
  by_cases c : M.locked p = true
  · exact ⟨S, by rw [if_pos c, if_pos c], by rw [if_pos c]; exact h, .refl⟩
  · obtain ⟨S2, e, r, f⟩ := lgo_spec h hr p
    exact ⟨S2, by rw [if_neg c, if_neg c, e], by rw [if_neg c]; exact r, f⟩
theorem lstep_spec (h : LR S j c0 ts M) (T : TR ts M) (I : M.In) (hf : M.fin ≤ 80) (hl : ts.length < 16777000) (hr : M.rings.length < 16777216) (w : Wd) (hw : isSet w = false) :
    ∃ S', m__law_step [.obj j, .str w.t] S = .ok (M.word w).1 S' ∧ LR S' j c0 ts (M.word w).2 ∧ Fr S S' j := by
  unfold m__law_step g__law_step
  have hC := ltabs_comp h (by omega)
  generalize fComp (wSeq (eOp dgetD (eVar 0) (eC (.str q_tabs)))) (.nm 5) (bE (eOp gtD (eVar 5) (eVar 2))) (eVar 5) [5] = C at hC ⊢
  have hshut := lshut_spec h
  have h0 := h
  obtain ⟨h1, h2, h3⟩ := h
  have hm : ∀ x y z : D, mergeD [] [(.str q_return, x), (.str q_up, y), (.str q_down, z)] = [(.str q_return, x), (.str q_up, y), (.str q_down, z)] := fun _ _ _ => rfl
  have LK : ∀ N : PM, N.marks = M.marks → N.rings = M.rings → LR (S.set j (.dct (LD c0 ts N j))) j c0 ts N ∧ Fr S (S.set j (.dct (LD c0 ts N j))) j := fun N e2 e3 =>
    ⟨⟨by simp [h1], by simp [set_ne, h2, e2], by simp [set_ne, h3, e3]⟩, Fr.set .refl (Nat.le_refl _)⟩
  cases w with
  | back =>
    show ∃ S', _ = Res.ok M.back.1 S' ∧ LR S' j c0 ts M.back.2 ∧ _
    unfold PM.back
    have e0 : (M.place < 2) ↔ (M.place - 2 < 0) := by omega
    have e3 : (M.place - 2 < M.lo) ↔ (M.place - 2 < M.lo) := Iff.rfl
    by_cases c1 : M.place - 2 < 0
    · simp [Wd.t, h1, eqD_str, low, e0, c1, lockedD]
      exact ⟨h0, .refl⟩
    · cases c2 : M.free
      · by_cases c4 : M.lo ≤ M.place
        · by_cases c3 : M.place - 2 < M.lo
          · simp [Wd.t, h1, eqD_str, low, e0, c1, c2, c3, c4, lockedD]
            exact ⟨h0, .refl⟩
          · simp [Wd.t, h1, eqD_str, low, e0, c1, c2, c3, c4, movedD]
            simpa [c2] using LK { M with place := M.place - 2 } rfl rfl
        · simp [Wd.t, h1, eqD_str, low, e0, c1, c2, c4, movedD]
          simpa [c2] using LK { M with place := M.place - 2 } rfl rfl
      · simp [Wd.t, h1, eqD_str, low, e0, c1, c2, movedD]
        simpa [c2] using LK { M with place := M.place - 2 } rfl rfl
  | ret =>
    show ∃ S', _ = Res.ok (M.rollTo (M.row + M.down) true).1 S' ∧ LR S' j c0 ts (M.rollTo (M.row + M.down) true).2 ∧ _
    unfold PM.rollTo
    by_cases c1 : M.row + M.down < 0
    · have c3 : ¬ 0 ≤ M.row + M.down := by omega
      simp [Wd.t, h1, eqD_str, low, dPairs, hm, D.keq, getK, lockedD, inB_tup, flat_str, flats_cons, flats_nil, anyEq, eqv_str, machOf, c1, c3]
      exact ⟨h0, .refl⟩
    · have c3 : 0 ≤ M.row + M.down := by omega
      by_cases c2 : 60 < M.row + M.down
      · have c4 : ¬ M.row + M.down ≤ 60 := by omega
        simp [Wd.t, h1, eqD_str, low, dPairs, hm, D.keq, getK, lockedD, inB_tup, flat_str, flats_cons, flats_nil, anyEq, eqv_str, machOf, c1, c2, c3, c4]
        exact ⟨h0, .refl⟩
      · have c4 : M.row + M.down ≤ 60 := by omega
        simp [Wd.t, h1, eqD_str, low, dPairs, hm, D.keq, getK, movedD, inB_tup, flat_str, flats_cons, flats_nil, anyEq, eqv_str, machOf, c1, c2, c3, c4]
        exact ⟨⟨by simp [h1], by simp [set_ne, h2], by simp [set_ne, h3]⟩, by repeat' first | exact Fr.refl | refine Fr.set ?_ (Nat.le_refl _)⟩
  | up =>
    show ∃ S', _ = Res.ok (M.rollTo (M.row + -1) false).1 S' ∧ LR S' j c0 ts (M.rollTo (M.row + -1) false).2 ∧ _
    unfold PM.rollTo
    by_cases c1 : M.row + -1 < 0
    · have c3 : ¬ 0 ≤ M.row + -1 := by omega
      simp [Wd.t, h1, eqD_str, low, dPairs, hm, D.keq, getK, lockedD, inB_tup, flat_str, flats_cons, flats_nil, anyEq, eqv_str, machOf, c1, c3]
      exact ⟨h0, .refl⟩
    · have c3 : 0 ≤ M.row + -1 := by omega
      by_cases c2 : 60 < M.row + -1
      · have c4 : ¬ M.row + -1 ≤ 60 := by omega
        simp [Wd.t, h1, eqD_str, low, dPairs, hm, D.keq, getK, lockedD, inB_tup, flat_str, flats_cons, flats_nil, anyEq, eqv_str, machOf, c1, c2, c3, c4]
        exact ⟨h0, .refl⟩
      · have c4 : M.row + -1 ≤ 60 := by omega
        simp [Wd.t, h1, eqD_str, low, dPairs, hm, D.keq, getK, movedD, inB_tup, flat_str, flats_cons, flats_nil, anyEq, eqv_str, machOf, c1, c2, c3, c4]
        exact LK { M with row := M.row + -1 } rfl rfl
  | down =>
    show ∃ S', _ = Res.ok (M.rollTo (M.row + 1) false).1 S' ∧ LR S' j c0 ts (M.rollTo (M.row + 1) false).2 ∧ _
    unfold PM.rollTo
    by_cases c1 : M.row + 1 < 0
    · have c3 : ¬ 0 ≤ M.row + 1 := by omega
      simp [Wd.t, h1, eqD_str, low, dPairs, hm, D.keq, getK, lockedD, inB_tup, flat_str, flats_cons, flats_nil, anyEq, eqv_str, machOf, c1, c3]
      exact ⟨h0, .refl⟩
    · have c3 : 0 ≤ M.row + 1 := by omega
      by_cases c2 : 60 < M.row + 1
      · have c4 : ¬ M.row + 1 ≤ 60 := by omega
        simp [Wd.t, h1, eqD_str, low, dPairs, hm, D.keq, getK, lockedD, inB_tup, flat_str, flats_cons, flats_nil, anyEq, eqv_str, machOf, c1, c2, c3, c4]
        exact ⟨h0, .refl⟩
      · have c4 : M.row + 1 ≤ 60 := by omega
        simp [Wd.t, h1, eqD_str, low, dPairs, hm, D.keq, getK, movedD, inB_tup, flat_str, flats_cons, flats_nil, anyEq, eqv_str, machOf, c1, c2, c3, c4]
        exact LK { M with row := M.row + 1 } rfl rfl
  | blank =>
    obtain ⟨S2, e, r, f⟩ := lstep_to h0 hr (M.place + 2)
    refine ⟨S2, ?_, r, f⟩
    rw [show (M.word .blank).1 = (M.to (M.place + 2)).1 from rfl, ← e]
    by_cases c : M.locked (M.place + 2) = true <;> simp [Wd.t, h1, eqD_str, low, inB_tup, flat_str, flats_cons, flats_nil, anyEq, eqv_str, hshut, c, lockedD]
  | half =>
    obtain ⟨S2, e, r, f⟩ := lstep_to h0 hr (M.place + 1)
    refine ⟨S2, ?_, r, f⟩
    rw [show (M.word .half).1 = (M.to (M.place + 1)).1 from rfl, ← e]
    by_cases c : M.locked (M.place + 1) = true <;> simp [Wd.t, h1, eqD_str, low, inB_tup, flat_str, flats_cons, flats_nil, anyEq, eqv_str, hshut, c, lockedD]
  | tab =>
    show ∃ S', _ = Res.ok (M.to M.tabAt).1 S' ∧ LR S' j c0 ts (M.to M.tabAt).2 ∧ _
    cases hl9 : (ts.filter fun t => decide (M.place < t)) ++ [999] with
    | nil => simp at hl9
    | cons d r =>
      rw [← lstep_goal T I hf d r hl9]
      obtain ⟨S2, e, r', f⟩ := lstep_to h0 hr (Sm.minL d r)
      refine ⟨S2, ?_, r', f⟩
      rw [← e]
      have hcat := cat_ints S (ts.filter fun t => decide (M.place < t)) 999 (by have := List.length_filter_le (fun t => decide (M.place < t)) ts; omega)
      have hin := intsOf_ints (d :: r)
      rw [hl9] at hcat
      rw [List.map_cons] at hcat hin
      have hmin : minD S [.lst (.int d :: r.map D.int)] = some (.int (Sm.minL d r)) := by
        simp [hin]
      by_cases c : M.locked (Sm.minL d r) = true <;> simp [-minD, Wd.t, h1, eqD_str, low, inB_tup, flat_str, flats_cons, flats_nil, anyEq, eqv_str, hshut, c, lockedD, hC, hcat, hmin]
  | _ => cases hw
end
end Lw
/-! ## Lm3 -/
/-! Lm3: the law's machine: a key, a row of keys. -/
namespace Lw
open PySem PySem.Spec PyProof.Rows L2 RZ Sm
theorem nodup_len : ∀ {l m : List Int}, l.Nodup → (∀ x ∈ l, x ∈ m) → l.length ≤ m.length
  | [], _, _, _ => Nat.zero_le _
  | a :: l, m, hn, h => by
    obtain ⟨n1, n2⟩ := List.nodup_cons.mp hn
    have ha := h a (by simp)
    have := nodup_len (l := l) (m := m.erase a) n2 fun x hx => (List.mem_erase_of_ne (show x ≠ a from fun e => n1 (e ▸ hx))).mpr (h x (by simp [hx]))
    rw [List.length_erase_of_mem ha] at this
    have hp : 0 < m.length := List.length_pos_of_mem ha
    rw [List.length_cons]; omega
theorem TR.len {ts : List Int} {M : PM} (T : TR ts M) : ts.length ≤ M.tabs.length := nodup_len T.nd fun x hx => (T.same x).mp hx
section
variable {S : Store} {j : Nat} {c0 : Int} {ts : List Int} {M : PM}
theorem ladd_many (h : LR S j c0 ts M) : LR (S.set j (O.dct (LD c0 ts { M with many := M.many + 1 } j))) j c0 ts { M with many := M.many + 1 } := by
  obtain ⟨h1, h2, h3⟩ := h
  exact ⟨by simp [h1], by simp [set_ne, h2], by simp [set_ne, h3]⟩
theorem lpress_spec (h : LR S j c0 ts M) (T : TR ts M) (I : M.In) (hf : M.fin ≤ 80) (F : M.Fit) (k : Key) (hk : k.ok) :
    ∃ ts' S', m__law_press [.obj j, k.d] S = .ok (M.press k).1 S' ∧ LR S' j c0 ts' (M.press k).2 ∧ TR ts' (M.press k).2 ∧ Fr S S' j := by
  have hl : ts.length < 63 := Nat.lt_of_le_of_lt T.len F.tl
  have step : ∀ {S1 : Store} {ts' : List Int} {M2 : PM}, LR S1 j c0 ts' M2 → TR ts' M2 → Fr S S1 j → LR (S1.set j (O.dct (LD c0 ts' ({ M2 with many := M2.many + 1 } : PM) j))) j c0 ts' { M2 with many := M2.many + 1 } ∧ TR ts' ({ M2 with many := M2.many + 1 } : PM) ∧ Fr S (S1.set j (O.dct (LD c0 ts' ({ M2 with many := M2.many + 1 } : PM) j))) j := fun r t f => ⟨ladd_many r, t.keep rfl, f.set (Nat.le_refl j)⟩
  unfold m__law_press g__law_press
  cases k with
  | sign c =>
    obtain ⟨S1, e, r, f⟩ := linkS_spec h F.dead F.marks hk F.ml F.rl
    have ht : (M.strike c).2.tabs = M.tabs := by
      unfold PM.strike; split
      · rfl
      · dsimp only; unfold PM.onward; split <;> rfl
    have st := step r (T.keep ht) f
    have h1 := r.dct
    show ∃ ts' S', _ = Res.ok (M.strike c).1 S' ∧ LR S' j c0 ts' { (M.strike c).2 with many := (M.strike c).2.many + 1 } ∧ _
    refine ⟨ts, ?_⟩
    simp [Key.d, inB_tup, flat_str, flats_cons, flats_nil, anyEq, eqv_str, e, h1]
    exact st
  | lift c =>
    obtain ⟨S1, e, r, f⟩ := linkL_spec h F.dead F.marks I.nodup hk F.ml F.rl
    have ht : (M.lift c).2.tabs = M.tabs := by
      unfold PM.lift; split
      · rfl
      · split <;> (dsimp only; unfold PM.onward; split <;> rfl)
    have st := step r (T.keep ht) f
    have h1 := r.dct
    show ∃ ts' S', _ = Res.ok (M.lift c).1 S' ∧ LR S' j c0 ts' { (M.lift c).2 with many := (M.lift c).2.many + 1 } ∧ _
    refine ⟨ts, ?_⟩
    simp [Key.d, inB_tup, flat_str, flats_cons, flats_nil, anyEq, eqv_str, e, h1]
    exact st
  | word w =>
    show ∃ ts' S', _ = Res.ok (M.word w).1 S' ∧ LR S' j c0 ts' { (M.word w).2 with many := (M.word w).2.many + 1 } ∧ _
    have q1 : inB S (.str w.t) (.tup [.str q_sign, .str q_lift]) = some false := by cases w <;> rfl
    cases hs : isSet w with
    | true =>
      obtain ⟨ts', S1, e, r, t, f⟩ := lturn_spec h T I (by omega) w hs
      have st := step r t f
      have h1 := r.dct
      have q2 : inB S (.str w.t) (.tup [.str q_left, .str q_right, .str q_set, .str q_clear, .str q_all, .str q_free, .str q_ribbon, .str q_caps]) = some true := by cases w <;> first | (cases hs; done) | rfl
      refine ⟨ts', ?_⟩
      simp [Key.d, q1, q2, e, h1]
      exact st
    | false =>
      obtain ⟨S1, e, r, f⟩ := lstep_spec h T I hf (by omega) F.rl w hs
      have ht : (M.word w).2.tabs = M.tabs := by
        have hb : M.back.2.tabs = M.tabs := by unfold PM.back; split <;> rfl
        have hr : ∀ r b, (M.rollTo r b).2.tabs = M.tabs := fun r b => by unfold PM.rollTo; split; rfl; split <;> rfl
        have hto : ∀ p, (M.to p).2.tabs = M.tabs := fun p => by unfold PM.to; split <;> rfl
        cases w <;> first | (cases hs; done) | exact hto _ | exact hb | exact hr _ _
      have st := step r (T.keep ht) f
      have h1 := r.dct
      have q2 : inB S (.str w.t) (.tup [.str q_left, .str q_right, .str q_set, .str q_clear, .str q_all, .str q_free, .str q_ribbon, .str q_caps]) = some false := by cases w <;> first | (cases hs; done) | rfl
      refine ⟨ts, ?_⟩
      simp [Key.d, q1, q2, e, h1]
      exact st
end
theorem lnew_spec (cols : Int) (dead : List Nat) (down : Int) (S : Store) :
    m__law_new [machD cols dead down, .tup []] S = .ok (.obj S.length) (S ++ [.dct (LD cols [] (PM.new cols dead down) S.length), .lst [], .lst []]) := by
  unfold m__law_new g__law_new
  have m7 : ∀ a b c d e f g : D, mergeD [] [(.str q_machine, a), (.str q_end, b), (.str q_row, c), (.str q_place, d), (.str q_low, e), (.str q_high, f), (.str q_tabs, g)] = [(.str q_machine, a), (.str q_end, b), (.str q_row, c), (.str q_place, d), (.str q_low, e), (.str q_high, f), (.str q_tabs, g)] := fun _ _ _ _ _ _ _ => rfl
  have m6 : ∀ a b c d e f : D, mergeD [] [(.str q_red, a), (.str q_caps, b), (.str q_free, c), (.str q_marks, d), (.str q_rings, e), (.str q_many, f)] = [(.str q_red, a), (.str q_caps, b), (.str q_free, c), (.str q_marks, d), (.str q_rings, e), (.str q_many, f)] := fun _ _ _ _ _ _ => rfl
  simp [machD, dPairs, m7, m6, set_last, get_last, List.append_assoc]
  rfl
theorem new_lr (cols : Int) (dead : List Nat) (down : Int) (S : Store) : LR (S ++ [.dct (LD cols [] (PM.new cols dead down) S.length), .lst [], .lst []]) S.length cols [] (PM.new cols dead down) :=
  ⟨get_last .., by rw [get_more]; rfl, by rw [get_more]; rfl⟩
theorem lkeys_go {c0 : Int} {ρ0 : Ev} {w : Wk} {j : Nat} {xs : List Key} (hcur : ∀ S i, w.cur S i = (xs.map Key.d)[i]?) (hfin : ∀ S, w.fin S = true)
    (h3 : ρ0[3]? = some (some (.obj j))) (h5 : 5 < ρ0.length) (hx : xs.length ≤ 16000000) :
    ∀ (ks : List Key) (i : Nat) (S : Store) (ts : List Int) (M : PM) (acc : List D), xs.drop i = ks → acc.length ≤ i → LR S j c0 ts M → TR ts M → M.In → M.fin ≤ 80 → FitN M ks.length → (∀ k ∈ ks, k.ok) → TabsOk M ks →
      ∃ ts' S', compM w (.nm 5) bYes (eCall m__law_press (aCons (eVar 3) (aCons (eVar 5) aNil))) ρ0 ks.length i S acc = .ok (acc ++ (M.run ks).1) S' ∧ LR S' j c0 ts' (M.run ks).2 ∧ TR ts' (M.run ks).2 ∧ Fr S S' j
  | [], i, S, ts, M, acc, e, ha, R, T, I, hf, F, hk, TO => ⟨ts, S, by rw [List.length_nil]; unfold compM; rw [if_pos (hfin S)]; simp [PM.run], R, T, .refl⟩
  | k :: ks, i, S, ts, M, acc, e, ha, R, T, I, hf, F, hk, TO => by
    have hi : i < xs.length := by
      rcases Nat.lt_or_ge i xs.length with h | h
      · exact h
      · rw [List.drop_of_length_le h] at e; cases e
    rw [List.drop_eq_getElem_cons hi] at e
    have ek : xs[i] = k := by injection e
    have er : xs.drop (i + 1) = ks := by injection e
    obtain ⟨t1, S1, e1, R1, T1, f1⟩ := lpress_spec R T I hf ⟨F.dead, F.marks, by have := F.ml; omega, by have := F.rl; omega, TO.1⟩ k (hk k (by simp))
    have hfin2 : (M.press k).2.fin = M.fin := (turn_fix M k).1
    obtain ⟨t2, S2, e2, R2, T2, f2⟩ := lkeys_go hcur hfin h3 h5 hx ks (i + 1) S1 t1 (M.press k).2 (acc ++ [(M.press k).1]) er (by simp; omega) R1 T1 (press_in I k) (by rw [hfin2]; exact hf) (press_fit (by simpa using F) k (hk k (by simp))) (fun x hx => hk x (by simp [hx])) TO.2
    refine ⟨t2, S2, ?_, R2, T2, f1.trans f2⟩
    rw [List.length_cons]
    unfold compM
    rw [hcur, List.getElem?_map, List.getElem?_eq_getElem hi, ek]
    have e5 : ρ0[5]? = some ρ0[5] := List.getElem?_eq_getElem h5
    simp only [Option.map_some, Tg.put]
    have eel : eCall m__law_press (aCons (eVar 3) (aCons (eVar 5) aNil)) (ρ0.set 5 (some k.d)) S = .ok (M.press k).1 S1 := by
      simp [set_ne, h3, h5, e5, e1]
    simp only [bYes, Res.nx, bind_ok, if_true, eel]
    rw [if_pos (by omega), e2]
    simp [PM.run]
theorem lworked_spec (cols : Int) (dead : List Nat) (down : Int) (ks : List Key) (h0 : 0 ≤ cols) (h1 : cols ≤ 40) (hd : low dead = true) (hk : ∀ k ∈ ks, k.ok) (hl : ks.length ≤ 16000000) (T : TabsOk (PM.new cols dead down) ks) (S : Store) :
    ∃ ts S', m__law_worked [machD cols dead down, .tup [], .tup (ks.map Key.d)] S = .ok (.tup [.obj S.length, .lst ((PM.new cols dead down).run ks).1]) S' ∧ LR S' S.length cols ts ((PM.new cols dead down).run ks).2 ∧ TR ts ((PM.new cols dead down).run ks).2 ∧ Fr S S' S.length := by
  unfold m__law_worked g__law_worked
  have e1 := lnew_spec cols dead down S
  have R := new_lr cols dead down S
  generalize hS1 : S ++ [O.dct (LD cols [] (PM.new cols dead down) S.length), .lst [], .lst []] = S1 at e1 R
  have f0 : Fr S S1 S.length := by rw [← hS1]; exact Fr.refl.app (Nat.le_refl _)
  obtain ⟨t, S2, e2, R2, T2, f2⟩ := lkeys_go (c0 := cols) (ρ0 := [some (machD cols dead down), some (.tup []), some (.tup (ks.map Key.d)), some (.obj S.length), none, none]) (w := wkL (ks.map Key.d)) (j := S.length) (xs := ks) (fun _ _ => rfl) (fun _ => rfl) rfl (by simp) hl ks 0 S1 _ _ [] rfl (by simp) R
    ⟨by simp, by simp [PM.new]⟩ (new_in h0 dead down) (by show 2 * cols ≤ 80; omega) ⟨hd, fun m h => by simp [PM.new] at h, by simp [PM.new]; omega, by simp [PM.new]; omega⟩ hk T
  generalize hC : fComp (wSeq (eVar 2)) (.nm 5) bYes (eCall m__law_press (aCons (eVar 3) (aCons (eVar 5) aNil))) [5] = C
  have hcomp : C [some (machD cols dead down), some (.tup []), some (.tup (ks.map Key.d)), some (.obj S.length), none, none] S1 = .ok ((PM.new cols dead down).run ks).1 S2 := by
    rw [← hC]
    unfold fComp
    simp only [wSeq, eVar, List.getElem?_cons_succ, List.getElem?_cons_zero, bind_ok, wkOf, giveW, wipeE, List.set_cons_succ, List.set_cons_zero]
    have : (wkL (ks.map Key.d)).n = ks.length := by simp [wkL]
    rw [this]
    rw [e2]
    simp
  refine ⟨t, S2, ?_, R2, T2, f0.trans f2⟩
  simp [e1, hcomp]
end Lw
/-! ## Lm4 -/
/-! Lm4: how the law's machine stands. -/
namespace Lw
open PySem PySem.Spec PyProof.Rows L2 RZ Sm
theorem sortI_tabs {ts : List Int} {M : PM} (T : TR ts M) (up : M.tabs.Pairwise (· < ·)) : sortI ts = M.tabs := by
  have hp := sortI_perm ts
  have hn : (sortI ts).Nodup := hp.nodup_iff.mpr T.nd
  have hs : (sortI ts).Pairwise (· < ·) := by
    refine ((sortI_sorted ts).and hn).imp fun {a b} hab => ?_
    obtain ⟨h1, h2⟩ := hab
    omega
  exact up_eq hs up fun k => by rw [hp.mem_iff, T.same]
theorem lstand_spec {S : Store} {j : Nat} {c0 : Int} {ts : List Int} {M : PM} (h : LR S j c0 ts M) (T : TR ts M) (up : M.tabs.Pairwise (· < ·)) : m__law_stand [.obj j] S = .ok (standD M) S := by
  unfold m__law_stand g__law_stand
  have h1 := h.dct
  have e : sortedD S [.lst (ts.map D.int)] = some (M.tabs.map D.int) := by
    show ((lstOf S (.lst (ts.map D.int))).bind intsOf).map _ = _
    simp only [lstOf, Option.bind_some, intsOf_ints, Option.map_some, sortI_tabs T up]
  cases cr : M.red <;> simp [-sortedD, h1, cr, e, standD, colD]
theorem Fr.get {S S' : Store} {j i : Nat} {o : O} (f : Fr S S' j) (h : i < j) (e : S[i]? = some o) : S'[i]? = some o := (f.keep i h).trans e
theorem LR.fr {S S' : Store} {j : Nat} {c0 : Int} {ts : List Int} {M : PM} (h : LR S j c0 ts M) (f : Fr S S' S.length) : LR S' j c0 ts M :=
  ⟨f.get (List.getElem?_eq_some_iff.mp h.dct).1 h.dct, f.get (List.getElem?_eq_some_iff.mp h.marks).1 h.marks, f.get (List.getElem?_eq_some_iff.mp h.rings).1 h.rings⟩
theorem ints_flat (l : List Int) (n : Nat) : D.flat (n + 1) (.lst (l.map D.int)) = true := by rw [flat_lst, flats_ints]
theorem stand_flat (M : PM) (n : Nat) : D.flat (n + 2) (standD M) = true := by
  unfold standD
  simp [flat_tup, flats_cons, flats_nil, flat_int, flat_bl, colD_flat, flats_ints]
end Lw
/-! ## Pm12 -/
/-! Pm12: marks in order; strikes. -/
namespace Sm
open PySem PySem.Spec PyProof.Rows L2 RZ SmT PyProof.Rows.G
theorem okT_map {α : Type} {l : List α} {g : α → D} {k : α → List Atm} (hi : ∀ a ∈ l, isTp (g a) = true) (hk : ∀ a ∈ l, keyT (g a) = k a) (hs : ∀ a ∈ l, ∀ b ∈ l, (k a).map isTxt = (k b).map isTxt)
    (hn : (∀ a ∈ l, lenT (g a) = (k a).length) ∨ (l.map k).Nodup) : okT (l.map g) = true := by
  unfold okT
  rw [Bool.and_eq_true, Bool.and_eq_true]
  refine ⟨⟨?_, ?_⟩, ?_⟩
  · rw [List.all_map]; exact List.all_eq_true.mpr hi
  · rw [List.all_map]
    refine List.all_eq_true.mpr fun a ha => ?_
    show (l.map g).all _ = true
    rw [List.all_map]
    refine List.all_eq_true.mpr fun b hb => decide_eq_true ?_
    rw [hk a ha, hk b hb]
    exact hs a ha b hb
  · rcases hn with hn | hn
    · rw [Bool.or_eq_true]
      left
      rw [List.all_map]
      exact List.all_eq_true.mpr fun a ha => decide_eq_true (by rw [hk a ha]; exact hn a ha)
    · rw [Bool.or_eq_true]
      right
      rw [List.map_map, show (keyT ∘ g) = fun a => keyT (g a) from rfl, List.map_congr_left hk]
      exact decide_eq_true hn
theorem sortA_mapg {α : Type} {l : List α} {g : α → D} {k : α → List Atm} (hk : ∀ a ∈ l, keyT (g a) = k a) : sortA ltT (l.map g) = (sortA (fun a b => lexLt itemOrd (k a) (k b)) l).map g := by
  rw [← sortA_map (f := g) (lt := ltT)]
  rw [sortA_congr (lt' := fun a b => lexLt itemOrd (k a) (k b)) fun a ha b hb => by show lexLt itemOrd (keyT (g a)) (keyT (g b)) = _; rw [hk a ha, hk b hb]]
theorem sortedT_map {α : Type} {l : List α} {g : α → D} {k : α → List Atm} (S : Store) (hi : ∀ a ∈ l, isTp (g a) = true) (hk : ∀ a ∈ l, keyT (g a) = k a) (hs : ∀ a ∈ l, ∀ b ∈ l, (k a).map isTxt = (k b).map isTxt)
    (hn : (∀ a ∈ l, lenT (g a) = (k a).length) ∨ (l.map k).Nodup) : sortedT S [.lst (l.map g)] = some ((sortA (fun a b => lexLt itemOrd (k a) (k b)) l).map g) := by
  show (if okT (l.map g) = true then some (sortA ltT (l.map g)) else none) = _
  rw [if_pos (okT_map hi hk hs hn), sortA_mapg hk]
@[simp] theorem put_2 (i j : Nat) (a b : D) (ρ : Ev) : (Tg.tup [.nm i, .nm j]).put (.tup [a, b]) ρ = some ((ρ.set i (some a)).set j (some b)) := put_tup2 i j a b ρ
end Sm
namespace Lw
open PySem PySem.Spec PyProof.Rows L2 RZ Sm SmT PyProof.Rows.G
def Mk.key (m : Mk) : List Atm := [.inl m.row, .inl m.place, .inl m.n]
def Mk.q (m : Mk) : D := .tup [.int m.row, .int m.place, .int m.n, .tup m.tail]
def Mk.q2 (m : Mk) : D := .tup [.int m.row, .int m.place, .int m.n, m.d]
abbrev ltM (a b : Mk) : Bool := lexLt itemOrd a.key b.key
def sortM (l : List Mk) : List Mk := sortA ltM l
theorem sortM_mem {l : List Mk} {m : Mk} : m ∈ sortM l ↔ m ∈ l := (sortA_perm ltM l).mem_iff
theorem sortM_len (l : List Mk) : (sortM l).length = l.length := (sortA_perm ltM l).length_eq
theorem keys_nodup {l : List Mk} (h : l.Pairwise (fun a b => a.n < b.n)) : (l.map Mk.key).Nodup := by
  refine List.pairwise_map.mpr (h.imp fun {a b} hab e => ?_)
  unfold Mk.key at e
  injection e with _ e
  injection e with _ e
  injection e with e _
  have := Sum.inl.inj e
  omega
theorem sorted_marks (S : Store) {l : List Mk} (h : l.Pairwise (fun a b => a.n < b.n)) : sortedT S [.lst (l.map Mk.q)] = some ((sortM l).map Mk.q) ∧ sortedT S [.lst (l.map Mk.q2)] = some ((sortM l).map Mk.q2) :=
  ⟨sortedT_map S (fun _ _ => rfl) (fun _ _ => rfl) (fun _ _ _ _ => rfl) (.inr (keys_nodup h)), sortedT_map S (fun _ _ => rfl) (fun _ _ => rfl) (fun _ _ _ _ => rfl) (.inr (keys_nodup h))⟩
theorem marks_comp {S : Store} {j t : Nat} {M : PM} (h : Rep S j t M) (hl : M.marks.length ≤ 16777216) (d0 d1 d4 : D) :
    fComp (wSeq (eFld 0 11 (eVar 3))) (.nm 5) bYes (eTup (aCons (eOp ixD (eVar 5) (eC (.int 1))) (aCons (eOp ixD (eVar 5) (eC (.int 2))) (aCons (eOp ixD (eVar 5) (eC (.int 0))) (aCons (eSl (eVar 5) (oSome (eC (.int 1))) oNone) aNil))))) [5] [some d0, some d1, none, some (.obj j), some d4, none, none, none, none] S = .ok (M.marks.map Mk.q) S := by
  have h1 := h.ins
  have h2 := h.marks
  unfold PM.fields at h1
  rw [fComp_MO (l := M.marks) (g := Mk.d) (b := fun _ => true) (f := Mk.q) (by simp [h1, h2]) h2 (fun m hm => ?_) hl, filter_true]
  exact ⟨[some d0, some d1, none, some (.obj j), some d4, some m.d, none, none, none], rfl, rfl, fun _ => by simp [Mk.d, Mk.tail, Mk.q]⟩
theorem press_ml (M : PM) (k : Key) : (M.press k).2.marks.length ≤ M.marks.length + 1 := by
  show ((M.turn k).2).marks.length ≤ _
  cases k with
  | sign c =>
    show ((M.strike c).2).marks.length ≤ _
    unfold PM.strike PM.onward
    split
    · simp
    · split <;> simp [PM.goOn]
  | lift c =>
    show ((M.lift c).2).marks.length ≤ _
    unfold PM.lift
    split
    · simp
    · split
      · rename_i k r e
        have := (offLast_sub _ _ _ _ e).2.1
        unfold PM.onward
        split
        · simp only; omega
        · simp only [PM.goOn]; omega
      · unfold PM.onward
        split <;> simp [PM.goOn]
  | word w =>
    show ((M.word w).2).marks.length ≤ _
    have hto : ∀ p, (M.to p).2.marks.length ≤ M.marks.length + 1 := fun p => by
      unfold PM.to
      split <;> simp [PM.goOn]
    have hr : ∀ r b, (M.rollTo r b).2.marks.length ≤ M.marks.length + 1 := fun r b => by
      unfold PM.rollTo
      split
      · simp
      · split <;> simp
    cases w
    case blank => exact hto _
    case half => exact hto _
    case tab => exact hto _
    case ret => exact hr _ _
    case up => exact hr _ _
    case down => exact hr _ _
    case back => show (M.back).2.marks.length ≤ _; unfold PM.back; split <;> simp
    case left => simp only [PM.word]; split <;> simp
    case right => simp only [PM.word]; split <;> simp
    case clear => simp only [PM.word]; split <;> simp
    all_goals simp [PM.word]
theorem run_ml : ∀ (ks : List Key) (M : PM), (M.run ks).2.marks.length ≤ M.marks.length + ks.length
  | [], _ => Nat.le_refl _
  | k :: ks, M => by
    have h1 := press_ml M k
    have h2 := run_ml ks (M.press k).2
    rw [PM.run, List.length_cons]
    dsimp only
    omega
theorem Made.ml {cols : Int} {dead : List Nat} {down : Int} {ks : List Key} (h : Made cols dead down ks) : (endOf cols dead down ks).marks.length ≤ 4000 := by
  have h1 := run_ml ks (PM.new cols dead down)
  have h2 := h.len
  unfold endOf
  rw [show (PM.new cols dead down).marks = [] from rfl, List.length_nil] at h1
  omega
theorem Made.in_ {cols : Int} {dead : List Nat} {down : Int} {ks : List Key} (h : Made cols dead down ks) : (endOf cols dead down ks).In := run_in ks (new_in (by have := h.m.c0; omega) dead down)
theorem q_back_ (l : List Mk) (hl : l.length ≤ 16777216) (S : Store) (d0 d1 d4 : D) (j : Nat) :
    fComp (wSeq (eVar 2)) (.tup [(.nm 6), (.nm 7), (.nm 8), (.nm 5)]) bYes (eOp addD (eTup (aCons (eVar 8) aNil)) (eVar 5)) [6, 7, 8, 5] [some d0, some d1, some (.lst (l.map Mk.q)), some (.obj j), some d4, none, none, none, none] S = .ok (l.map Mk.d) S := by
  rw [fComp_M (l := l) (g := Mk.q) (b := fun _ => true) (f := Mk.d) (by simp) (fun m hm => ?_) hl, filter_true]
  exact ⟨[some d0, some d1, some (.lst (l.map Mk.q)), some (.obj j), some d4, some (.tup m.tail), some (.int m.row), some (.int m.place), some (.int m.n)], rfl, rfl, fun _ => by simp [Mk.d, Mk.tail, Mk.q]⟩
theorem marks_of_spec {cols : Int} {dead : List Nat} {down : Int} {ks : List Key} (h : Made cols dead down ks) (S : Store) :
    ∃ S', m_marks_of [machD cols dead down, .tup (ks.map Key.d)] S = .ok (.lst ((sortM (endOf cols dead down ks).marks).map Mk.d)) S' ∧ Fr S S' S.length := by
  obtain ⟨t, S', e, R, f⟩ := h.worked S
  refine ⟨S', ?_, f⟩
  have hl := h.ml
  unfold m_marks_of g_marks_of
  have e1 := marks_comp R (by omega) (machD cols dead down) (.tup (ks.map Key.d)) (.lst (told cols dead down ks))
  have e2 := (sorted_marks S' h.in_.mp).1
  have e3 := q_back_ (sortM (endOf cols dead down ks).marks) (by rw [sortM_len]; omega) S' (machD cols dead down) (.tup (ks.map Key.d)) (.lst (told cols dead down ks)) S.length
  simp [-sortedT, -wSeq, e, e1, e2, e3]
theorem strikes_spec {cols : Int} {dead : List Nat} {down : Int} {ks : List Key} (h : Made cols dead down ks) (S : Store) :
    ∃ S', m_strikes [machD cols dead down, .tup (ks.map Key.d)] S = .ok (.lst ((sortM (endOf cols dead down ks).marks).map fun m => .tup m.tail)) S' ∧ Fr S S' S.length := by
  obtain ⟨S', e, f⟩ := marks_of_spec h S
  refine ⟨S', ?_, f⟩
  have hl := h.ml
  unfold m_strikes g_strikes
  have e2 : fComp (wSeq (eCall m_marks_of (aCons (eVar 0) (aCons (eVar 1) aNil)))) (.nm 2) bYes (eSl (eVar 2) (oSome (eC (.int 1))) oNone) [2] [some (machD cols dead down), some (.tup (ks.map Key.d)), none] S = .ok ((sortM (endOf cols dead down ks).marks).map fun m => .tup m.tail) S' := by
    unfold fComp
    have e4 : wSeq (eCall m_marks_of (aCons (eVar 0) (aCons (eVar 1) aNil))) [some (machD cols dead down), some (.tup (ks.map Key.d)), none] S = .ok (wkL ((sortM (endOf cols dead down ks).marks).map Mk.d)) S' := by simp [e]
    rw [e4, bind_ok]
    have e5 := fComp_M (fi := fun _ S => .ok (wkL ((sortM (endOf cols dead down ks).marks).map Mk.d)) S) (tg := .nm 2) (tt := bYes) (el := eSl (eVar 2) (oSome (eC (.int 1))) oNone) (own := [2]) (ρ := [some (machD cols dead down), some (.tup (ks.map Key.d)), none]) (S := S') (l := sortM (endOf cols dead down ks).marks) (g := Mk.d) (b := fun _ => true) (f := fun m => .tup m.tail) rfl (fun m _ => ⟨[some (machD cols dead down), some (.tup (ks.map Key.d)), some m.d], rfl, rfl, fun _ => by simp [Mk.d, Mk.tail]⟩) (by rw [sortM_len]; omega)
    rw [filter_true] at e5
    unfold fComp at e5
    exact e5
  simp [-wSeq, need_both_spec h.m h.sig h.len S, e2]
/-! ### the law's own -/
theorem lmarks_spec {S : Store} {j : Nat} {c0 : Int} {ts : List Int} {M : PM} (h : LR S j c0 ts M) (hl : M.marks.length ≤ 4000) (hp : M.marks.Pairwise (fun a b => a.n < b.n)) :
    m__law_marks [.obj j] S = .ok (.lst ((sortM M.marks).map Mk.d)) S := by
  have h1 := h.dct
  have h2 := h.marks
  unfold m__law_marks g__law_marks
  have e1 : fComp (wSeq (eOp dgetD (eVar 0) (eC (.str q_marks)))) (.nm 2) bYes (eTup (aCons (eOp ixD (eVar 2) (eC (.int 1))) (aCons (eOp ixD (eVar 2) (eC (.int 2))) (aCons (eOp ixD (eVar 2) (eC (.int 0))) (aCons (eVar 2) aNil))))) [2] [some (.obj j), none, none, none, none, none] S = .ok (M.marks.map Mk.q2) S := by
    rw [fComp_MO (l := M.marks) (g := Mk.d) (b := fun _ => true) (f := Mk.q2) (by simp [h1, h2]) h2 (fun m hm => ?_) (by omega), filter_true]
    exact ⟨[some (.obj j), none, some m.d, none, none, none], rfl, rfl, fun _ => by simp [Mk.d, Mk.tail, Mk.q2]⟩
  have e2 := (sorted_marks S hp).2
  have e3 : fComp (wSeq (eVar 1)) (.tup [(.nm 3), (.nm 4), (.nm 5), (.nm 2)]) bYes (eVar 2) [3, 4, 5, 2] [some (.obj j), some (.lst ((sortM M.marks).map Mk.q2)), none, none, none, none] S = .ok ((sortM M.marks).map Mk.d) S := by
    rw [fComp_M (l := sortM M.marks) (g := Mk.q2) (b := fun _ => true) (f := Mk.d) (by simp) (fun m hm => ?_) (by rw [sortM_len]; omega), filter_true]
    exact ⟨[some (.obj j), some (.lst ((sortM M.marks).map Mk.q2)), some m.d, some (.int m.row), some (.int m.place), some (.int m.n)], rfl, rfl, fun _ => by simp⟩
  simp [-sortedT, -wSeq, e1, e2, e3]
theorem lt_int3 (a b c a' b' c' : Int) (h1 : ¬ a < a') (h2 : ¬ b < b') (h3 : ¬ c < c') (e : a = a') : PyProof.Rows.lexLt itemOrd [.inl a, .inl b, .inl c] [.inl a', .inl b', .inl c'] = false := by
  subst e
  rw [lex_self]
  refine lex_false.mpr ⟨decide_eq_false h2, .inr ?_⟩
  exact lex_false.mpr ⟨decide_eq_false h3, .inr rfl⟩
/-- marks that stand in order already -/
theorem sortM_id {l : List Mk} (h : l.Pairwise (fun a b => a.row = b.row ∧ a.place ≤ b.place ∧ a.n < b.n)) : sortM l = l := by
  unfold sortM
  refine sortA_id (h.imp fun {a b} ⟨h1, h2, h3⟩ => ?_)
  exact lt_int3 _ _ _ _ _ _ (by omega) (by omega) (by omega) h1.symm
end Lw
/-! ## Dm1 -/
/-! Dm1: what a law draws. -/
namespace Lw
open PySem PySem.Spec PyProof.Rows L2 RZ Sm
/-- the list of what was drawn, at 0 -/
def Town (S : Store) (n : Nat) : Prop := ∃ l, S[0]? = some (.lst l) ∧ l.length ≤ n
/-- all but the town stands -/
structure Tw (S S' : Store) : Prop where
  len : S.length ≤ S'.length
  keep : ∀ i, 0 < i → i < S.length → S'[i]? = S[i]?
theorem Tw.refl {S : Store} : Tw S S := ⟨Nat.le_refl _, fun _ _ _ => rfl⟩
theorem Tw.trans {S S' S'' : Store} (a : Tw S S') (b : Tw S' S'') : Tw S S'' := ⟨Nat.le_trans a.len b.len, fun i h h' => (b.keep i h (Nat.lt_of_lt_of_le h' a.len)).trans (a.keep i h h')⟩
theorem Tw.app {S S' : Store} (a : Tw S S') (o : List O) : Tw S (S' ++ o) := ⟨by rw [List.length_append]; have := a.len; omega, fun i h h' => by rw [List.getElem?_append_left (by have := a.len; omega)]; exact a.keep i h h'⟩
theorem Tw.set0 {S S' : Store} (a : Tw S S') (o : O) : Tw S (S'.set 0 o) := ⟨by rw [List.length_set]; exact a.len, fun i h h' => by rw [List.getElem?_set_ne (by omega)]; exact a.keep i h h'⟩
theorem Tw.get {S S' : Store} (a : Tw S S') {i : Nat} {o : O} (h : 0 < i) (e : S[i]? = some o) : S'[i]? = some o := (a.keep i h (List.getElem?_eq_some_iff.mp e).1).trans e
theorem Town.mono {S : Store} {n m : Nat} (h : Town S n) (l : n ≤ m) : Town S m := let ⟨a, b, c⟩ := h; ⟨a, b, Nat.le_trans c l⟩
theorem Town.app {S : Store} {n : Nat} (h : Town S n) (o : List O) : Town (S ++ o) n := let ⟨a, b, c⟩ := h; ⟨a, get_app b o, c⟩
theorem Town.pos {S : Store} {n : Nat} (h : Town S n) : 0 < S.length := let ⟨a, b, c⟩ := h; (List.getElem?_eq_some_iff.mp b).1
abbrev scr (ns : List Int) : D := .src (ns.map D.int)
theorem eq_src_nil (S : Store) (ns : List Int) : eqD S (scr ns) (.lst []) = some (.bl ns.isEmpty) := by
  unfold eqD
  rw [if_pos (by
    simp only [deref]
    rw [show D.flat 64 (scr ns) = D.flats 63 (ns.map D.int) from rfl, flats_ints]; rfl)]
  cases ns <;> rfl
theorem cell_spec (ns : List Int) (k : Nat) (S : Store) : ∃ c, m__law_cell_at [scr ns, .int (k : Nat)] S = .ok (.int c) S := by
  unfold m__law_cell_at g__law_cell_at
  have ix : ∀ (i : Nat), ixD S (scr ns) (.int (i : Nat)) = (ns[i]?).map D.int := fun i => by
    show (match lstOf S (scr ns) with | some xs => L2.atI xs (i : Int) | none => none) = _
    simp [(atI_nat (ns.map D.int) i).2]
  by_cases h : k < ns.length
  · have e := ix k
    rw [List.getElem?_eq_getElem h] at e
    simp [scr] at e ⊢
    simp [h, e]
  · cases ns with
    | nil =>
      have e : eqD S (.src []) (.lst []) = some (.bl true) := eq_src_nil S []
      have hk : ¬ ((k : Int) < 0) := by omega
      exact ⟨0, by simp [scr, e, hk]⟩
    | cons a r =>
      have e : eqD S (scr (a :: r)) (.lst []) = some (.bl false) := eq_src_nil S (a :: r)
      have hm : k % (a :: r).length < (a :: r).length := Nat.mod_lt _ (by simp)
      have e2 := ix (k % (a :: r).length)
      rw [List.getElem?_eq_getElem hm] at e2
      have hfm : ((k : Int)).fmod ((r.length : Int) + 1) = ((k % (a :: r).length : Nat) : Int) := by
        rw [Int.fmod_eq_emod_of_nonneg _ (by omega)]; rfl
      have hz : ¬ ((r.length : Int) + 1 = 0) := by omega
      rw [List.length_cons] at h
      have hlt : ¬ ((k : Int) < (r.length : Int) + 1) := by omega
      simp only [scr, List.map_cons, List.length_cons] at e e2 hfm ⊢
      obtain ⟨z, e3⟩ : ∃ z : Int, ixD S (.src (.int a :: r.map D.int)) (.int ((k % (r.length + 1) : Nat) : Int)) = some (.int z) := ⟨_, e2⟩
      refine ⟨z * 31 + k, ?_⟩
      simp only [Int.natCast_emod, Int.natCast_add, Int.cast_ofNat_Int] at hfm e3
      simp [e, hlt, hz, hfm, e3]
theorem fmod_range (a : Int) {b : Int} (h : 0 < b) : 0 ≤ a.fmod b ∧ a.fmod b < b := ⟨Int.fmod_nonneg_of_pos _ h, Int.fmod_lt_of_pos _ h⟩
theorem mixed_spec (ns : List Int) (k : Nat) {many : Int} (hm : 0 < many) (S : Store) : ∃ v, m__law_mixed [scr ns, .int (k : Nat), .int many] S = .ok (.int v) S ∧ 0 ≤ v ∧ v < many := by
  unfold m__law_mixed g__law_mixed
  obtain ⟨c, ec⟩ := cell_spec ns k S
  have hr := fmod_range (c * 1103515245 + 7919 * (k : Int) + 12345) (b := 2147483647) (by decide)
  have hpow : ((c * 1103515245 + 7919 * (k : Int) + 12345).fmod 2147483647).natAbs < 18446744073709551616 := by omega
  have hne : ¬ many = 0 := by omega
  simp [ec, hpow, hne]
  exact fmod_range _ hm
theorem draw_spec (ns : List Int) {S : Store} {n : Nat} (T : Town S n) (hn : n < 16777215) {many : Int} (hm : 0 < many) :
    ∃ v S', m__law_draw [scr ns, .obj 0, .int many] S = .ok (.int v) S' ∧ 0 ≤ v ∧ v < many ∧ Town S' (n + 1) ∧ Tw S S' ∧ S'.length = S.length := by
  obtain ⟨l, h0, hl⟩ := T
  unfold m__law_draw g__law_draw
  have hl2 : l.length < 16777216 := by omega
  obtain ⟨v, e, v0, v1⟩ := mixed_spec ns (l.length + 1) hm (S.set 0 (.lst (l ++ [.int 0])))
  refine ⟨v, S.set 0 (.lst (l ++ [.int 0])), ?_, v0, v1, ⟨l ++ [.int 0], by simp [h0], by simp; omega⟩, Tw.refl.set0 _, by simp⟩
  simp only [Int.natCast_add, Int.cast_ofNat_Int] at e
  simp [onL, h0, hl2, e]
theorem pick_spec (ns : List Int) {S : Store} {n : Nat} (T : Town S n) (hn : n < 16777215) {l : List D} (hl : 0 < l.length) :
    ∃ d S', m__law_pick [scr ns, .obj 0, .lst l] S = .ok d S' ∧ d ∈ l ∧ Town S' (n + 1) ∧ Tw S S' ∧ S'.length = S.length := by
  obtain ⟨v, S', e, v0, v1, T', W, L⟩ := draw_spec ns T hn (many := l.length) (by omega)
  unfold m__law_pick g__law_pick
  have hv : v.toNat < l.length := by omega
  have e2 : L2.atI l v = some l[v.toNat] := by
    have := (atI_nat l v.toNat).2
    rw [show ((v.toNat : Nat) : Int) = v by omega, List.getElem?_eq_getElem hv] at this
    exact this
  refine ⟨l[v.toNat], S', ?_, List.getElem_mem hv, T', W, L⟩
  simp [e, e2]
theorem pickS_spec (ns : List Int) {S : Store} {n : Nat} (T : Town S n) (hn : n < 16777215) {l : List Nat} (hl : 0 < l.length) (hb : l.length < 1000) :
    ∃ c S', m__law_pick [scr ns, .obj 0, .str l] S = .ok (.str [c]) S' ∧ c ∈ l ∧ Town S' (n + 1) ∧ Tw S S' ∧ S'.length = S.length := by
  obtain ⟨v, S', e, v0, v1, T', W, L⟩ := draw_spec ns T hn (many := l.length) (by omega)
  unfold m__law_pick g__law_pick
  have hv : v.toNat < l.length := by omega
  have e2 : L2.atI l v = some l[v.toNat] := by
    have := (atI_nat l v.toNat).2
    rw [show ((v.toNat : Nat) : Int) = v by omega, List.getElem?_eq_getElem hv] at this
    exact this
  have hb2 : l.length ≤ 16777216 := by omega
  refine ⟨l[v.toNat], S', ?_, List.getElem_mem hv, T', W, L⟩
  simp [e, e2, hb2]
/-! ### a machine -/
theorem dead_comp (ns : List Int) : ∀ (xs : List Nat) (all : List Nat) (i n : Nat) (S : Store) (acc : List Nat) (c : D), all.drop i = xs → Town S n → n + xs.length < 16777215 → acc.length ≤ i → all.length < 1000 →
    ∃ sub S', compM (wkL (all.map fun c => .str [c])) (.nm 4) (bE (eOp eqD (eCall m__law_draw (aCons (eVar 0) (aCons (eVar 1) (aCons (eC (.int 2)) aNil)))) (eC (.int 0)))) (eVar 4) [some (scr ns), some (.obj 0), some c, none, none] xs.length i S (acc.map fun c => .str [c]) = .ok ((acc ++ sub).map fun c => .str [c]) S' ∧ sub.Sublist xs ∧ Town S' (n + xs.length) ∧ Tw S S' ∧ S'.length = S.length
  | [], all, i, n, S, acc, c, e, T, hn, ha, hb => ⟨[], S, by rw [List.length_nil]; unfold compM; rw [if_pos (show (wkL _).fin S = true from rfl)]; simp, .slnil, T, .refl, rfl⟩
  | x :: xs, all, i, n, S, acc, c, e, T, hn, ha, hb => by
    have hi : i < all.length := by
      rcases Nat.lt_or_ge i all.length with h | h
      · exact h
      · rw [List.drop_of_length_le h] at e; cases e
    rw [List.drop_eq_getElem_cons hi] at e
    have ek : all[i] = x := by injection e
    have er : all.drop (i + 1) = xs := by injection e
    rw [List.length_cons] at hn ⊢
    obtain ⟨v, S1, e1, v0, v1, T1, W1, L1⟩ := draw_spec ns T (by omega) (many := 2) (by decide)
    have hcur : (wkL (all.map fun c => D.str [c])).cur S i = some (.str [x]) := by
      show (all.map fun c => D.str [c])[i]? = _
      rw [List.getElem?_map, List.getElem?_eq_getElem hi, ek]; rfl
    unfold compM
    rw [hcur]
    simp only [Tg.put]
    have et : bE (eOp eqD (eCall m__law_draw (aCons (eVar 0) (aCons (eVar 1) (aCons (eC (.int 2)) aNil)))) (eC (.int 0))) ([some (scr ns), some (.obj 0), some c, none, none].set 4 (some (.str [x]))) S = .ok (v == 0) S1 := by
      simp [e1]
    rw [et]
    simp only [Res.nx, bind_ok]
    by_cases hv : v = 0
    · obtain ⟨sub, S2, e2, s2, T2, W2, L2'⟩ := dead_comp ns xs all (i + 1) (n + 1) S1 (acc ++ [x]) c er T1 (by omega) (by simp; omega) hb
      refine ⟨x :: sub, S2, ?_, s2.cons₂ x, by rw [show n + (xs.length + 1) = n + 1 + xs.length by omega]; exact T2, W1.trans W2, L2'.trans L1⟩
      rw [if_pos (by simp [hv])]
      simp only [List.set_cons_succ, List.set_cons_zero, eVar, List.getElem?_cons_succ, List.getElem?_cons_zero, Res.nx, bind_ok, List.length_map]
      rw [if_pos (by omega)]
      simp only [List.map_append, List.map_cons, List.map_nil] at e2 ⊢
      rw [e2]
      simp
    · obtain ⟨sub, S2, e2, s2, T2, W2, L2'⟩ := dead_comp ns xs all (i + 1) (n + 1) S1 acc c er T1 (by omega) (by omega) hb
      refine ⟨sub, S2, ?_, s2.cons x, by rw [show n + (xs.length + 1) = n + 1 + xs.length by omega]; exact T2, W1.trans W2, L2'.trans L1⟩
      rw [if_neg (by simp [hv]), e2]
theorem machine_spec (ns : List Int) {S : Store} {n : Nat} (T : Town S n) (hn : n < 16777000) :
    ∃ cols dead down S', m__law_machine [scr ns, .obj 0] S = .ok (machD cols dead down) S' ∧ Mok cols dead down ∧ cols ∈ ([8, 9, 10, 12, 20, 40] : List Int) ∧ Town S' (n + 5) ∧ Tw S S' ∧ S'.length = S.length := by
  unfold m__law_machine g__law_machine
  obtain ⟨d, S1, e1, m1, T1, W1, L1⟩ := pick_spec ns T (by omega) (l := [.int 8, .int 9, .int 10, .int 12, .int 20, .int 40]) (by simp)
  have hc : ∃ cols : Int, d = .int cols ∧ cols ∈ ([8, 9, 10, 12, 20, 40] : List Int) := by
    have : d ∈ ([8, 9, 10, 12, 20, 40] : List Int).map D.int := m1
    obtain ⟨c, h1, h2⟩ := List.mem_map.mp this
    exact ⟨c, h2.symm, h1⟩
  obtain ⟨cols, rfl, hcols⟩ := hc
  obtain ⟨sub, S2, e2, s2, T2, W2, L2'⟩ := dead_comp ns [39, 94, 126] [39, 94, 126] 0 (n + 1) S1 [] (.int cols) rfl T1 (by simp; omega) (by simp) (by simp)
  obtain ⟨v, S3, e3, v0, v1, T3, W3, L3⟩ := draw_spec ns T2 (by simp; omega) (many := 3) (by decide)
  generalize hC : fComp (wSeq (eTup (aCons (eC (.str q_x27)) (aCons (eC (.str q_x5e)) (aCons (eC (.str q_x7e)) aNil))))) (.nm 4) (bE (eOp eqD (eCall m__law_draw (aCons (eVar 0) (aCons (eVar 1) (aCons (eC (.int 2)) aNil)))) (eC (.int 0)))) (eVar 4) [4] = C
  have hcomp : C [some (scr ns), some (.obj 0), some (.int cols), none, none] S1 = .ok (sub.map fun c => .str [c]) S2 := by
    rw [← hC]
    unfold fComp
    simp only [wSeq, eTup, aCons, aNil, eC, bind_ok, wkOf, giveW, wipeE, List.set_cons_succ, List.set_cons_zero, big, List.length_cons, List.length_nil]
    simp only [List.map_cons, List.map_nil, List.nil_append, List.length_cons, List.length_nil] at e2
    exact e2
  refine ⟨cols, sub, 2 + v, S3, ?_, ⟨by simp at hcols; omega, by simp at hcols; omega, s2, by omega, by omega⟩, hcols, T3.mono (by simp), (W1.trans W2).trans W3, L3.trans (L2'.trans L1)⟩
  simp [e1, hcomp, e3, machD]
/-! ### behind calls -/
theorem Fr.town {S S' : Store} {n : Nat} (f : Fr S S' S.length) (T : Town S n) : Town S' n := let ⟨l, a, b⟩ := T; ⟨l, (f.keep 0 (List.getElem?_eq_some_iff.mp a).1).trans a, b⟩
theorem Fr.up {S S' S'' : Store} (f : Fr S S' S.length) (g : Fr S' S'' S'.length) : Fr S S'' S.length := ⟨Nat.le_trans f.len g.len, fun i h => (g.keep i (Nat.lt_of_lt_of_le h f.len)).trans (f.keep i h)⟩
end Lw
/-! ## Dm2 -/
/-! Dm2: drawn keys. -/
namespace Lw
open PySem PySem.Spec PyProof.Rows L2 RZ Sm
abbrev qKS : List Nat := q_x61_62_63_7a_7a_30_31_39_2e_2c_2d_27_5e_7e_16
theorem qKS_sig : ∀ c ∈ qKS, c ∈ qSIG := by decide +kernel
def wdAt (m : Nat) : Wd := ([.blank, .blank, .half, .back, .back, .tab, .tab, .ret, .up, .down, .left, .right, .set, .set, .clear, .all, .free, .ribbon, .caps] : List Wd).getD m .blank
theorem key_spec (ns : List Int) {S : Store} {n : Nat} (T : Town S n) (hn : n < 16777000) :
    ∃ k S', m__law_key [scr ns, .obj 0] S = .ok (Key.d k) S' ∧ k.sig ∧ Town S' (n + 2) ∧ Tw S S' := by
  unfold m__law_key g__law_key
  obtain ⟨v, S1, e1, v0, v1, T1, W1, L1⟩ := draw_spec ns T (by omega) (many := 26) (by decide)
  obtain ⟨c, S2, e2, hc, T2, W2, L2'⟩ := pickS_spec ns T1 (by omega) (l := qKS) (by simp) (by simp)
  have hcs := qKS_sig c hc
  generalize hws : ([.str q_blank, .str q_blank, .str q_half, .str q_back, .str q_back, .str q_tab, .str q_tab, .str q_return, .str q_up, .str q_down, .str q_left, .str q_right, .str q_set, .str q_set, .str q_clear, .str q_all, .str q_free, .str q_ribbon, .str q_caps] : List D) = ws
  have hlen : ws.length = 19 := by rw [← hws]; rfl
  have hwd : ∀ m, m < 19 → ws[m]? = some (.str (wdAt m).t) := by
    intro m hm
    rw [← hws]
    have : ∀ m < 19, (([q_blank, q_blank, q_half, q_back, q_back, q_tab, q_tab, q_return, q_up, q_down, q_left, q_right, q_set, q_set, q_clear, q_all, q_free, q_ribbon, q_caps] : List (List Nat))[m]? = some (wdAt m).t) := by decide +kernel
    have h2 := this m hm
    have h3 : (([q_blank, q_blank, q_half, q_back, q_back, q_tab, q_tab, q_return, q_up, q_down, q_left, q_right, q_set, q_set, q_clear, q_all, q_free, q_ribbon, q_caps] : List (List Nat)).map D.str)[m]? = some (.str (wdAt m).t) := by rw [List.getElem?_map, h2]; rfl
    exact h3
  have W : Tw S (S2 ++ [O.lst ws]) := (W1.trans W2).app _
  have T3 : Town (S2 ++ [O.lst ws]) (n + 2) := T2.app _
  have hset : (S2 ++ [O.lst ([.str q_blank, .str q_blank, .str q_half, .str q_back, .str q_back, .str q_tab, .str q_tab, .str q_return, .str q_up, .str q_down, .str q_left, .str q_right] : List D)]).set S2.length (O.lst ws) = S2 ++ [O.lst ws] := set_last S2 _ _ []
  by_cases h5 : v < 5
  · refine ⟨.sign c, S2 ++ [O.lst ws], ?_, hcs, T3, W⟩
    simp only [qKS] at e2
    simp [e1, e2, h5, onL, hws, set_last, Key.d]
  · by_cases h7 : v < 7
    · refine ⟨.lift c, S2 ++ [O.lst ws], ?_, hcs, T3, W⟩
      simp only [qKS] at e2
      simp [e1, e2, h5, h7, onL, hws, set_last, Key.d]
    · refine ⟨.word (wdAt (v - 7).toNat), S2 ++ [O.lst ws], ?_, trivial, T3, W⟩
      have hix : ixD (S2 ++ [O.lst ws]) (.obj S2.length) (.int (v - 7)) = some (.str (wdAt (v - 7).toNat).t) := by
        show (match lstOf (S2 ++ [O.lst ws]) (.obj S2.length) with | some xs => L2.atI xs (v - 7) | none => none) = _
        have h2 := hwd (v - 7).toNat (by omega)
        have h3 := (atI_nat ws (v - 7).toNat).2
        rw [show (((v - 7).toNat : Nat) : Int) = v - 7 by omega, h2] at h3
        simp [h3]
      simp only [qKS] at e2
      simp [e1, e2, h5, h7, onL, hws, set_last, Key.d, hix]
/-! ### a row of keys -/
structure TwT (t : Nat) (S S' : Store) : Prop where
  len : S.length ≤ S'.length
  keep : ∀ i, 0 < i → i < t → S'[i]? = S[i]?
theorem TwT.trans {t : Nat} {S S' S'' : Store} (a : TwT t S S') (b : TwT t S' S'') : TwT t S S'' := ⟨Nat.le_trans a.len b.len, fun i h h' => (b.keep i h h').trans (a.keep i h h')⟩
theorem Tw.at_ {t : Nat} {S S' : Store} (a : Tw S S') (h : t ≤ S.length) : TwT t S S' := ⟨a.len, fun i h1 h2 => a.keep i h1 (by omega)⟩
def kbody : SM := (sSeq (sSet 5 (eCall m__law_key (aCons (eVar 0) (aCons (eVar 1) aNil))))
    (sExpr (eMm extendM (eVar 3) (aCons (eOp mulD (eFrz (fLst (aCons (eVar 5) aNil))) (eOp addD (eC (.int 1)) (eCall m__law_draw (aCons (eVar 0) (aCons (eVar 1) (aCons (eCall m__law_pick (aCons (eVar 0) (aCons (eVar 1) (aCons (eFrz (fLst (aCons (eC (.int 1)) (aCons (eC (.int 1)) (aCons (eC (.int 1)) (aCons (eC (.int 4)) aNil)))))) aNil)))) aNil)))))) aNil))))
theorem rep_flat {α : Type} (n : Nat) (x : α) : (List.replicate n [x]).flatten = List.replicate n x := by
  induction n with
  | zero => rfl
  | succ n ih => rw [List.replicate_succ, List.flatten_cons, ih]; rfl
theorem kbody_spec (ns : List Int) {S : Store} {n t : Nat} (T : Town S n) (hn : n < 16770000) (ht : 0 < t) (ks : List Key) (hS : S[t]? = some (.lst (ks.map Key.d))) (hl : ks.length < 16000000) (most : Int) (a4 a5 : Option D) :
    ∃ k m S', kbody [some (scr ns), some (.obj 0), some (.int most), some (.obj t), a4, a5] S = .nx [some (scr ns), some (.obj 0), some (.int most), some (.obj t), a4, some (Key.d k)] S' ∧ k.sig ∧ m ≤ 4 ∧
      S'[t]? = some (.lst ((ks ++ List.replicate m k).map Key.d)) ∧ Town S' (n + 4) ∧ TwT t S S' := by
  have htl : t < S.length := (List.getElem?_eq_some_iff.mp hS).1
  obtain ⟨k, S1, e1, hk, T1, W1⟩ := key_spec ns T (by omega)
  obtain ⟨d, S2, e2, m2, T2, W2, L2'⟩ := pick_spec ns T1 (by omega) (l := [.int 1, .int 1, .int 1, .int 4]) (by simp)
  have hd : ∃ q : Int, d = .int q ∧ 1 ≤ q ∧ q ≤ 4 := by
    have : d ∈ ([1, 1, 1, 4] : List Int).map D.int := m2
    obtain ⟨c, h1, h2⟩ := List.mem_map.mp this
    refine ⟨c, h2.symm, ?_, ?_⟩ <;> (simp at h1; omega)
  obtain ⟨q, rfl, q1, q4⟩ := hd
  obtain ⟨v, S3, e3, v0, v1, T3, W3, L3⟩ := draw_spec ns T2 (by omega) (many := q) (by omega)
  have hS3 : S3[t]? = some (.lst (ks.map Key.d)) := ((W1.trans W2).trans W3).get ht hS
  have hmul : mulD S3 (.lst [Key.d k]) (.int (1 + v)) = some (.lst (List.replicate (1 + v).toNat (Key.d k))) := by
    show (match lstT S3 (.lst [Key.d k]) with
      | some a => if (in63 (1 + v) && big (a.length * (1 + v).toNat)) = true then some (D.lst (List.replicate (1 + v).toNat a).flatten) else none
      | none => none) = _
    have h63 : in63 (1 + v) = true := by unfold in63; rw [Bool.and_eq_true]; exact ⟨decide_eq_true (by omega), decide_eq_true (by omega)⟩
    have hb : big (([Key.d k] : List D).length * (1 + v).toNat) = true := by unfold big; exact decide_eq_true (by simp; omega)
    simp only [lstT, h63, hb, Bool.and_self, if_true, rep_flat]
  have hext : extendM S3 (.obj t) [.lst (List.replicate (1 + v).toNat (Key.d k))] = some (.non, S3.set t (.lst ((ks ++ List.replicate (1 + v).toNat k).map Key.d))) := by
    unfold extendM
    have hb : big ((ks.map Key.d).length + (List.replicate (1 + v).toNat (Key.d k)).length) = true := by unfold big; exact decide_eq_true (by simp; omega)
    simp only [lstT, onL, hS3, hb, if_true, Option.map_some, List.map_append, List.map_replicate]
  refine ⟨k, (1 + v).toNat, S3.set t (.lst ((ks ++ List.replicate (1 + v).toNat k).map Key.d)), ?_, hk, by omega, by rw [set_at, hS3]; rfl, ?_, ?_⟩
  · unfold kbody
    have hS1 : S1[t]? = some (.lst (ks.map Key.d)) := W1.get ht hS
    simp only [List.map_append, List.map_replicate] at hext
    simp [-extendM, e1, e2, e3, hmul, hext, hS1]
  · obtain ⟨l, h0, hl⟩ := T3
    exact ⟨l, by rw [List.getElem?_set_ne (by omega)]; exact h0, by omega⟩
  · refine (((W1.trans W2).trans W3).at_ (by omega)).trans ⟨by simp, fun i h1 h2 => by rw [List.getElem?_set_ne (by omega)]⟩
theorem kloop (ns : List Int) (w : Wk) (hcur : ∀ S i, i < w.n → ∃ d, w.cur S i = some d) (hfin : ∀ S, w.fin S = true) (most : Int) {t : Nat} (ht : 0 < t) :
    ∀ (k i : Nat) (S : Store) (n : Nat) (ks : List Key) (a4 a5 : Option D), i + k = w.n → Town S n → n + 4 * k < 16770000 → ks.length + 4 * k < 16000000 → S[t]? = some (.lst (ks.map Key.d)) → (∀ x ∈ ks, x.sig) →
      ∃ (ks' : List Key) (S' : Store) (b4 b5 : Option D), Sm.forM w (.nm 4) kbody k i [some (scr ns), some (.obj 0), some (.int most), some (.obj t), a4, a5] S = .nx [some (scr ns), some (.obj 0), some (.int most), some (.obj t), b4, b5] S' ∧
        S'[t]? = some (.lst (ks'.map Key.d)) ∧ (∀ x ∈ ks', x.sig) ∧ ks'.length ≤ ks.length + 4 * k ∧ Town S' (n + 4 * k) ∧ TwT t S S'
  | 0, i, S, n, ks, a4, a5, e, T, hn, hl, hS, hk => ⟨ks, S, a4, a5, by unfold Sm.forM; rw [if_pos (hfin S)], hS, hk, by omega, T, ⟨Nat.le_refl _, fun _ _ _ => rfl⟩⟩
  | k + 1, i, S, n, ks, a4, a5, e, T, hn, hl, hS, hk => by
    obtain ⟨d, hd⟩ := hcur S i (by omega)
    obtain ⟨q, m, S1, e1, hq, hm, hS1, T1, W1⟩ := kbody_spec ns T (by omega) ht ks hS (by omega) most (some d) a5
    obtain ⟨ks', S2, b4, b5, e2, hS2, hk2, hl2, T2, W2⟩ := kloop ns w hcur hfin most ht k (i + 1) S1 (n + 4) (ks ++ List.replicate m q) (some d) (some (Key.d q)) (by omega) T1 (by omega) (by simp; omega) hS1 (fun x hx => by
      rcases List.mem_append.mp hx with h | h
      · exact hk x h
      · rw [(List.mem_replicate.mp h).2]; exact hq)
    refine ⟨ks', S2, b4, b5, ?_, hS2, hk2, by rw [List.length_append, List.length_replicate] at hl2; omega, by rw [show n + 4 * (k + 1) = n + 4 + 4 * k by omega]; exact T2, W1.trans W2⟩
    unfold Sm.forM
    rw [hd]
    simp only [Tg.put, List.set_cons_succ, List.set_cons_zero]
    rw [e1]
    exact e2
theorem keys_spec (ns : List Int) {S : Store} {n : Nat} (T : Town S n) (most : Nat) (hm : most ≤ 4000) (hn : n < 16700000) :
    ∃ (ks : List Key) (S' : Store), m__law_keys [scr ns, .obj 0, .int (most : Nat)] S = .ok (.tup (ks.map Key.d)) S' ∧ (∀ k ∈ ks, k.sig) ∧ ks.length ≤ most ∧ Town S' (n + 1 + 4 * most) ∧ Tw S S' := by
  unfold m__law_keys g__law_keys
  have hp := T.pos
  obtain ⟨v, S1, e1, v0, v1, T1, W1, L1⟩ := draw_spec ns (T.app [O.lst []]) (by omega) (many := (most : Int) + 1) (by omega)
  have hS1 : S1[S.length]? = some (.lst (([] : List Key).map Key.d)) := W1.get hp (get_len S _)
  have hlen : (rngL 0 v.toNat).length = v.toNat := by simp [rngL]
  have hwn : (wkL (rngL 0 v.toNat)).n = v.toNat := hlen
  have hvm : v.toNat ≤ most := by omega
  obtain ⟨ks, S2, b4, b5, e2, hS2, hk2, hl2, T2, W2⟩ := kloop ns (wkL (rngL 0 v.toNat)) (fun S i hi => ⟨_, List.getElem?_eq_getElem hi⟩) (fun _ => rfl) most hp (wkL (rngL 0 v.toNat)).n 0 S1 (n + 1) [] none none (by omega) T1 (by rw [hwn]; omega) (by rw [hwn]; simp; omega) hS1 (by simp)
  rw [hwn] at e2 T2
  have hcut : cutD (ks.map Key.d) none (some ((most : Nat) : Int)) = (ks.take most).map Key.d := by rw [cut_to, List.map_take]
  refine ⟨ks.take most, S2, ?_, fun k hk => hk2 k (List.mem_of_mem_take hk), by simp; omega, T2.mono (by omega), ?_⟩
  · have hb : in63 v = true := by unfold in63; rw [Bool.and_eq_true]; exact ⟨decide_eq_true (by omega), decide_eq_true (by omega)⟩
    have hR : Sm.inR v = true := by unfold Sm.inR; rw [Bool.and_eq_true]; exact ⟨decide_eq_true (by omega), decide_eq_true (by omega)⟩
    have hw : wkR1 (.int v) = some (wkL (rngL 0 v.toNat)) := by show (if Sm.inR v = true then some (wkL (rngL 0 v.toNat)) else none) = _; rw [if_pos hR]
    have hfor : sFor (wR1 (eCall m__law_draw (aCons (eVar 0) (aCons (eVar 1) (aCons (eOp addD (eVar 2) (eC (.int 1))) aNil))))) (.nm 4) kbody [some (scr ns), some (.obj 0), some (.int ((most : Nat) : Int)), some (.obj S.length), none, none] (S ++ [O.lst []]) = .nx [some (scr ns), some (.obj 0), some (.int ((most : Nat) : Int)), some (.obj S.length), b4, b5] S2 := by
      unfold sFor
      simp only [wR1, eCall, aCons, eVar, aNil, eOp, eC, List.getElem?_cons_succ, List.getElem?_cons_zero, bind_ok, addD_int, give, e1, hw, giveW, sb_ok, hwn, e2]
    have hsl : slD S2 (.obj S.length) none (some ((most : Nat) : Int)) = some (.lst ((ks.take most).map Key.d)) := by
      show (lstOf S2 (.obj S.length)).map _ = _
      simp only [lstOf, hS2, Option.map_some, hcut]
    unfold kbody at hfor
    simp [hfor, hsl]
  · refine ⟨by have := W1.len; have := W2.len; simp at *; omega, fun i h1 h2 => ?_⟩
    rw [W2.keep i h1 h2, W1.keep i h1 (by simp; omega), List.getElem?_append_left h2]
end Lw
/-! ## Pm13 -/
/-! Pm13: keys out of numbers and texts. -/
namespace Sm
theorem set_last (S : Store) (x y : O) : (S ++ [x]).set S.length y = S ++ [y] := by
  rw [List.set_append_right _ _ (Nat.le_refl _)]; simp
end Sm
namespace Lw
open PySem PySem.Spec PyProof.Rows L2 RZ Sm
/-! ### on by so many half steps -/
def toK (m : Nat) : List Key := List.replicate (m / 2) (.word .blank) ++ List.replicate (m % 2) (.word .half)
theorem toK_len (m : Nat) : (toK m).length ≤ m / 2 + 1 := by unfold toK; simp; omega
theorem toK_sig (m : Nat) : ∀ k ∈ toK m, k.sig := fun k hk => by
  unfold toK at hk
  rcases List.mem_append.mp hk with h | h <;> (rw [(List.mem_replicate.mp h).2]; trivial)
theorem toK_sets (m : Nat) : (toK m).countP isSetK = 0 := by
  unfold toK
  rw [List.countP_append, List.countP_replicate, List.countP_replicate]; rfl
theorem rep_lst (S : Store) (d : D) (k : Nat) (h : k ≤ 16000000) : mulD S (.lst [d]) (.int (k : Int)) = some (.lst (List.replicate k d)) := by
  show (match lstT S (.lst [d]) with
    | some a => if (in63 (k : Int) && big (a.length * (k : Int).toNat)) = true then some (D.lst (List.replicate (k : Int).toNat a).flatten) else none
    | none => none) = _
  have h63 : in63 (k : Int) = true := by unfold in63; rw [Bool.and_eq_true]; exact ⟨decide_eq_true (by omega), decide_eq_true (by omega)⟩
  have hb : big (([d] : List D).length * k) = true := by unfold big; exact decide_eq_true (by simp; omega)
  simp only [lstT, Int.toNat_natCast, h63, hb, Bool.and_self, if_true, rep_flat]
theorem lcat (S : Store) (a b : List D) (h : a.length + b.length ≤ 16777216) : addD S (.lst a) (.lst b) = some (.lst (a ++ b)) := by
  rw [addD_lst]
  unfold cat big
  rw [if_pos (decide_eq_true h)]
theorem tcat (S : Store) (a b : List D) (h : a.length + b.length ≤ 16777216) : addD S (.tup a) (.tup b) = some (.tup (a ++ b)) := by
  rw [addD_tup]
  unfold cat big
  rw [if_pos (decide_eq_true h)]
theorem to_2 (m : Nat) : ((m : Int)).fmod 2 = ((m % 2 : Nat) : Int) := by rw [Int.fmod_eq_emod_of_nonneg _ (by omega)]; rfl
theorem to_1 (m : Nat) : ((m : Int)).fdiv 2 = ((m / 2 : Nat) : Int) := by rw [Int.fdiv_eq_ediv_of_nonneg _ (by omega)]; rfl
theorem to_3 (S : Store) (m : Nat) : modD S (.int (m : Int)) (.int 2) = some (.int ((m % 2 : Nat) : Int)) := by simp [to_2]
theorem to_4 (S : Store) (m : Nat) : divD S (.int (m : Int)) (.int 2) = some (.int ((m / 2 : Nat) : Int)) := by simp [to_1]
theorem toK_d (m : Nat) : (toK m).map Key.d = List.replicate (m / 2) (.tup [.str q_blank]) ++ List.replicate (m % 2) (.tup [.str q_half]) := by
  unfold toK
  rw [List.map_append, List.map_replicate, List.map_replicate]; rfl
theorem eop {op : Store → D → D → Option D} {f g : EM} {ρ : Ev} {S S1 S2 : Store} {a b c : D} (hf : f ρ S = .ok a S1) (hg : g ρ S1 = .ok b S2) (hc : op S2 a b = some c) : eOp op f g ρ S = .ok c S2 := by
  unfold eOp
  rw [hf, bind_ok, hg, bind_ok, hc]; rfl
def toE (i : Nat) : EM := (eOp addD (eOp mulD (eFrz (fLst (aCons (eTup (aCons (eC (.str q_blank)) aNil)) aNil))) (eOp divD (eVar i) (eC (.int 2)))) (eOp mulD (eFrz (fLst (aCons (eTup (aCons (eC (.str q_half)) aNil)) aNil))) (eOp modD (eVar i) (eC (.int 2)))))
theorem toE_spec {i m : Nat} {ρ : Ev} (h : ρ[i]? = some (some (.int (m : Int)))) (hm : m ≤ 100000) (S : Store) : toE i ρ S = .ok (.lst ((toK m).map Key.d)) S := by
  have v : eVar i ρ S = .ok (.int (m : Int)) S := by simp [h]
  rw [toK_d]
  refine eop (eop (a := .lst [.tup [.str q_blank]]) (by simp) (eop v rfl (to_4 S m)) (rep_lst S _ _ (by omega))) (eop (a := .lst [.tup [.str q_half]]) (by simp) (eop v rfl (to_3 S m)) (rep_lst S _ _ (by omega))) (lcat S _ _ ?_)
  rw [List.length_replicate, List.length_replicate]; omega
theorem on_spec (m : Nat) (hm : m ≤ 100000) (S : Store) : m_on [.int (m : Int)] S = .ok (.lst ((toK m).map Key.d)) S := by
  have e := toE_spec (i := 0) (ρ := [some (.int (m : Int))]) rfl hm S
  unfold m_on
  rw [callD1]
  show (sRet (toE 0) [some (.int (m : Int))] S).out = _
  unfold sRet
  rw [e]; rfl
/-! ### the keys of a text -/
def sgK (c : Nat) : List Key := if c = 32 then [.word .blank] else if 65 ≤ c ∧ c ≤ 90 then [.word .caps, .sign (c + 32), .word .caps] else [.sign c]
def keysT (s : List Nat) : List Key := s.flatMap sgK
theorem keysT_nil : keysT [] = [] := rfl
theorem keysT_cons (c : Nat) (s : List Nat) : keysT (c :: s) = sgK c ++ keysT s := rfl
theorem keysT_app (s t : List Nat) : keysT (s ++ t) = keysT s ++ keysT t := List.flatMap_append ..
theorem sgK_len (c : Nat) : (sgK c).length ≤ 3 := by unfold sgK; (repeat' split) <;> simp
theorem keysT_len : ∀ s : List Nat, (keysT s).length ≤ 3 * s.length
  | [] => Nat.le_refl _
  | c :: s => by
    rw [keysT_cons, List.length_append, List.length_cons]
    have := keysT_len s
    have := sgK_len c
    omega
abbrev qLET' : List Nat := q_x61_62_63_64_65_66_67_68_69_6a_6b_6c_6d_6e_26
abbrev qGRT' : List Nat := q_x41_42_43_44_45_46_47_48_49_4a_4b_4c_4d_4e_26
theorem grt_mem : ∀ c < 128, (c ∈ qGRT') = (65 ≤ c ∧ c ≤ 90) := fun c h => propext ((by decide : ∀ c < 128, (c ∈ qGRT') ↔ (65 ≤ c ∧ c ≤ 90)) c h)
theorem key_for_spec : ∀ {c : Nat}, c < 128 → (S : Store) → m_key_for [.str [c]] S = .ok (Key.sign (if 65 ≤ c ∧ c ≤ 90 then c + 32 else c)).d S := by
  intro c hc S
  unfold m_key_for g_key_for
  by_cases h : c ∈ qGRT'
  · have h2 := h
    rw [grt_mem c hc] at h2
    rw [if_pos h2]
    have hi : idxOf qGRT' [c] = some (c - 65) := (by decide +kernel : ∀ c < 128, 65 ≤ c ∧ c ≤ 90 → idxOf qGRT' [c] = some (c - 65)) c hc h2
    have hx : L2.atI qLET' ((c - 65 : Nat) : Int) = some (c + 32) := (by decide : ∀ c < 128, 65 ≤ c ∧ c ≤ 90 → L2.atI qLET' ((c - 65 : Nat) : Int) = some (c + 32)) c hc h2
    simp only [qGRT', qLET'] at h hi hx
    simp [-idxOf, inB_str, h, hi, hx, Key.d]
  · have h2 := h
    rw [grt_mem c hc] at h2
    rw [if_neg h2]
    simp only [qGRT'] at h
    simp [inB_str, h, Key.d]
def kbd : SM := (sIf (bE (eOp eqD (eVar 2) (eC (.str q_x20)))) (sExpr (eMm appendM (eVar 1) (aCons (eTup (aCons (eC (.str q_blank)) aNil)) aNil))) (sIf (bE (eOp inD (eVar 2) (eC (.str q_x41_42_43_44_45_46_47_48_49_4a_4b_4c_4d_4e_26)))) (sExpr (eMm extendM (eVar 1) (aCons (eFrz (fLst (aCons (eTup (aCons (eC (.str q_caps)) aNil)) (aCons (eCall m_key_for (aCons (eVar 2) aNil)) (aCons (eTup (aCons (eC (.str q_caps)) aNil)) aNil))))) aNil))) (sExpr (eMm appendM (eVar 1) (aCons (eTup (aCons (eC (.str q_sign)) (aCons (eVar 2) aNil))) aNil)))))
theorem app_spec {S : Store} {t : Nat} {ks : List Key} (hS : S[t]? = some (.lst (ks.map Key.d))) (hl : ks.length < 16000000) (k : Key) : appendM S (.obj t) [k.d] = some (.non, S.set t (.lst ((ks ++ [k]).map Key.d))) := by
  unfold appendM
  simp only [onL, hS]
  rw [if_pos (by simp; omega)]
  simp
theorem ext_spec {S : Store} {t : Nat} {ks : List Key} (hS : S[t]? = some (.lst (ks.map Key.d))) (ls : List Key) (hl : ks.length + ls.length < 16000000) : extendM S (.obj t) [.lst (ls.map Key.d)] = some (.non, S.set t (.lst ((ks ++ ls).map Key.d))) := by
  unfold extendM
  have hb : big ((ks.map Key.d).length + (ls.map Key.d).length) = true := by unfold big; exact decide_eq_true (by simp; omega)
  simp only [lstT, onL, hS, hb, if_true, Option.map_some, List.map_append (l₁ := ks)]
theorem low1 {c : Nat} (h : c < 128) : Sm.low [c] = true := by unfold Sm.low; simp; omega
theorem kbd_spec {s : List Nat} {c : Nat} (hc : c < 128) {S : Store} {t : Nat} {ks : List Key} (hS : S[t]? = some (.lst (ks.map Key.d))) (hl : ks.length < 15999990) :
    kbd [some (.str s), some (.obj t), some (.str [c])] S = .nx [some (.str s), some (.obj t), some (.str [c])] (S.set t (.lst ((ks ++ sgK c).map Key.d))) := by
  unfold kbd sgK
  have hq := eqD_str S (low1 hc) (show Sm.low q_x20 = true from rfl)
  simp only [q_x20] at hq
  by_cases h1 : c = 32
  · have e := app_spec hS (by omega) (.word .blank)
    simp only [Key.d, Wd.t, q_blank] at e
    subst h1
    simp [-appendM, hq, e, hS, if_pos]
  · rw [if_neg h1]
    by_cases h : c ∈ qGRT'
    · have h2 := h
      rw [grt_mem c hc] at h2
      have e := ext_spec hS [.word .caps, .sign (c + 32), .word .caps] (by simp; omega)
      have ek := key_for_spec hc S
      rw [if_pos h2] at ek
      simp only [Key.d, Wd.t, List.map_cons, List.map_nil, q_caps, q_sign] at e ek
      simp only [qGRT'] at h
      simp [-extendM, hq, e, hS, h1, h2, h, ek, inB_str]
    · have h2 := h
      rw [grt_mem c hc] at h2
      have e := app_spec hS (by omega) (.sign c)
      simp only [Key.d, q_sign] at e
      simp only [qGRT'] at h
      simp [-appendM, hq, e, hS, h1, h2, h, inB_str]
theorem keysT_snoc (s : List Nat) (i : Nat) (h : i < s.length) : keysT (s.take (i + 1)) = keysT (s.take i) ++ sgK s[i] := by
  rw [List.take_succ_eq_append_getElem h, keysT_app, keysT_cons, keysT_nil, List.append_nil]
theorem keys_of_spec {s : List Nat} (hs : ∀ c ∈ s, c < 128) (hl : s.length ≤ 4000) (S : Store) : m_keys_of [.str s] S = .ok (.obj S.length) (S ++ [.lst ((keysT s).map Key.d)]) := by
  have hw : wSeq (eVar 0) [some (.str s), some (.obj S.length), none] (S ++ [.lst []]) = .ok (wkL (s.map fun c => .str [c])) (S ++ [.lst []]) := by simp
  obtain ⟨ρ', S', e, ⟨x, hρ⟩, hS'⟩ := sFor_inv (tg := .nm 2) (body := kbd) hw (fun i ρ S' => (∃ x, ρ = [some (.str s), some (.obj S.length), x]) ∧ S' = S ++ [.lst ((keysT (s.take i)).map Key.d)]) ⟨⟨none, rfl⟩, by simp [keysT_nil]⟩
    (fun i ρ S' hi ⟨⟨x, h1⟩, h2⟩ => by
      have hi' : i < s.length := by simpa [wkL] using hi
      have hk := keysT_len (s.take i)
      rw [List.length_take] at hk
      have hc := hs _ (List.getElem_mem hi')
      have hS : S'[S.length]? = some (.lst ((keysT (s.take i)).map Key.d)) := by rw [h2]; exact get_len S _
      have e := kbd_spec (s := s) hc hS (by omega)
      refine ⟨.str [s[i]], [some (.str s), some (.obj S.length), some (.str [s[i]])], _, _, ?_, by rw [put_nm, h1]; rfl, e, ⟨_, rfl⟩, ?_⟩
      · show (s.map fun c => D.str [c])[i]? = _
        rw [List.getElem?_map, List.getElem?_eq_getElem hi']; rfl
      · rw [h2, set_last, ← keysT_snoc s i hi'])
    (fun _ _ _ => rfl)
  have hn : (wkL (s.map fun c => .str [c])).n = s.length := by simp [wkL]
  rw [hn, List.take_length] at hS'
  unfold m_keys_of g_keys_of
  have e1 : sSet 1 (eNew (fLst aNil)) [some (.str s), none, none] S = .nx [some (.str s), some (.obj S.length), none] (S ++ [.lst []]) := by simp
  rw [callD1, rep_2, sSeq_eq, e1, seq_nx, sSeq_eq]
  show ((sFor (wSeq (eVar 0)) (.nm 2) kbd _ _).seq _).out = _
  rw [e, seq_nx, hρ, hS']
  simp
/-! ### the law's keys of a text -/
theorem lo1_ (c : Nat) (h : c < 128) : PyProof.Rows.lo1 c = if 65 ≤ c ∧ c ≤ 90 then c + 32 else c := (by decide : ∀ c < 128, PyProof.Rows.lo1 c = if 65 ≤ c ∧ c ≤ 90 then c + 32 else c) c h
theorem lt_A (c : Nat) (h : c < 128) : decide ([c] < [65]) = decide (c < 65) := (by decide : ∀ c < 128, decide ([c] < [65]) = decide (c < 65)) c h
theorem lt_Z (c : Nat) (h : c < 128) : decide ([90] < [c]) = decide (90 < c) := (by decide : ∀ c < 128, decide ([90] < [c]) = decide (90 < c)) c h
theorem le_Ac (S : Store) (c : Nat) (h : c < 128) : leD S (.str [65]) (.str [c]) = some (.bl (!decide (c < 65))) := by
  have := lt_A c h
  show some (D.bl (!decide ([c] < [65]))) = _
  rw [this]
theorem le_cZ (S : Store) (c : Nat) (h : c < 128) : leD S (.str [c]) (.str [90]) = some (.bl (!decide (90 < c))) := by
  have := lt_Z c h
  show some (D.bl (!decide ([90] < [c]))) = _
  rw [this]
def lkbd : SM := (sSeq (sSet 3 (eTup (aCons (eC (.str q_sign)) (aCons (eMs lowerS (eVar 2) aNil) aNil))))
    (sExpr (eMm extendM (eVar 1) (aCons (eIf (bE (eOp eqD (eVar 2) (eC (.str q_x20)))) (eFrz (fLst (aCons (eTup (aCons (eC (.str q_blank)) aNil)) aNil))) (eIf (bE (eChain leD leD (eC (.str q_A)) (eVar 2) (eC (.str q_Z)))) (eFrz (fLst (aCons (eTup (aCons (eC (.str q_caps)) aNil)) (aCons (eVar 3) (aCons (eTup (aCons (eC (.str q_caps)) aNil)) aNil))))) (eFrz (fLst (aCons (eVar 3) aNil))))) aNil))))
theorem lkbd_spec {s : List Nat} {c : Nat} (hc : c < 128) {S : Store} {t : Nat} {ks : List Key} (hS : S[t]? = some (.lst (ks.map Key.d))) (hl : ks.length < 15999990) (x : Option D) :
    ∃ y, lkbd [some (.str s), some (.obj t), some (.str [c]), x] S = .nx [some (.str s), some (.obj t), some (.str [c]), y] (S.set t (.lst ((ks ++ sgK c).map Key.d))) := by
  unfold lkbd sgK
  have hq := eqD_str S (low1 hc) (show Sm.low q_x20 = true from rfl)
  simp only [q_x20] at hq
  have hlo := lo1_ c hc
  have a1 := fun S => le_Ac S c hc
  have a2 := fun S => le_cZ S c hc
  refine ⟨some (Key.sign (if 65 ≤ c ∧ c ≤ 90 then c + 32 else c)).d, ?_⟩
  by_cases h1 : c = 32
  · have e := ext_spec hS [.word .blank] (by simp; omega)
    simp only [Key.d, Wd.t, q_blank, List.map_cons, List.map_nil] at e
    subst h1
    simp [-extendM, hq, e, hS, Key.d, hlo]
  · rw [if_neg h1]
    by_cases h2 : 65 ≤ c ∧ c ≤ 90
    · have e := ext_spec hS [.word .caps, .sign (c + 32), .word .caps] (by simp; omega)
      simp only [Key.d, Wd.t, List.map_cons, List.map_nil, q_caps, q_sign] at e
      have b1 : decide (c < 65) = false := decide_eq_false (by omega)
      have b2 : decide (90 < c) = false := decide_eq_false (by omega)
      simp only [b1, Bool.not_false] at a1
      simp only [b2, Bool.not_false] at a2
      rw [if_pos h2] at hlo
      simp [-extendM, -leD_int, hq, e, hS, h1, h2, hlo, a1, a2, Key.d, hc]
    · have e := ext_spec hS [.sign c] (by simp; omega)
      simp only [Key.d, List.map_cons, List.map_nil, q_sign] at e
      rw [if_neg h2] at hlo
      by_cases b1 : c < 65
      · simp only [decide_eq_true b1, Bool.not_true] at a1
        simp [-extendM, -leD_int, hq, e, hS, h1, h2, hlo, a1, Key.d, hc]
      · have b2 : 90 < c := by omega
        simp only [decide_eq_true b2, Bool.not_true] at a2
        simp only [decide_eq_false b1, Bool.not_false] at a1
        simp [-extendM, -leD_int, hq, e, hS, h1, h2, hlo, a1, a2, Key.d, hc]
theorem lkeys_of_spec {s : List Nat} (hs : ∀ c ∈ s, c < 128) (hl : s.length ≤ 4000) (S : Store) : m__law_keys_of [.str s] S = .ok (.obj S.length) (S ++ [.lst ((keysT s).map Key.d)]) := by
  have hw : wSeq (eVar 0) [some (.str s), some (.obj S.length), none, none] (S ++ [.lst []]) = .ok (wkL (s.map fun c => .str [c])) (S ++ [.lst []]) := by simp
  obtain ⟨ρ', S', e, ⟨x, y, hρ⟩, hS'⟩ := sFor_inv (tg := .nm 2) (body := lkbd) hw (fun i ρ S' => (∃ x y, ρ = [some (.str s), some (.obj S.length), x, y]) ∧ S' = S ++ [.lst ((keysT (s.take i)).map Key.d)]) ⟨⟨none, none, rfl⟩, by simp [keysT_nil]⟩
    (fun i ρ S' hi ⟨⟨x, y, h1⟩, h2⟩ => by
      have hi' : i < s.length := by simpa [wkL] using hi
      have hk := keysT_len (s.take i)
      rw [List.length_take] at hk
      have hc := hs _ (List.getElem_mem hi')
      have hS : S'[S.length]? = some (.lst ((keysT (s.take i)).map Key.d)) := by rw [h2]; exact get_len S _
      obtain ⟨z, e⟩ := lkbd_spec (s := s) hc hS (by omega) y
      refine ⟨.str [s[i]], [some (.str s), some (.obj S.length), some (.str [s[i]]), y], _, _, ?_, by rw [put_nm, h1]; rfl, e, ⟨_, _, rfl⟩, ?_⟩
      · show (s.map fun c => D.str [c])[i]? = _
        rw [List.getElem?_map, List.getElem?_eq_getElem hi']; rfl
      · rw [h2, set_last, ← keysT_snoc s i hi'])
    (fun _ _ _ => rfl)
  have hn : (wkL (s.map fun c => .str [c])).n = s.length := by simp [wkL]
  rw [hn, List.take_length] at hS'
  unfold m__law_keys_of g__law_keys_of
  have e1 : sSet 1 (eNew (fLst aNil)) [some (.str s), none, none, none] S = .nx [some (.str s), some (.obj S.length), none, none] (S ++ [.lst []]) := by simp
  rw [callD1, rep_3, sSeq_eq, e1, seq_nx, sSeq_eq]
  show ((sFor (wSeq (eVar 0)) (.nm 2) lkbd _ _).seq _).out = _
  rw [e, seq_nx, hρ, hS']
  simp
/-! ### the law's margins -/
def mgK (l r : Nat) : List Key := toK r ++ [.word .right, .word .ret] ++ (toK l ++ [Key.word .left])
theorem margins_spec (l r : Nat) (hl : l ≤ 100000) (hr : r ≤ 100000) (S : Store) : ∃ S', m__law_margins [.int (l : Int), .int (r : Int)] S = .ok (.tup ((mgK l r).map Key.d)) S' ∧ Fr S S' S.length := by
  have e1 := toE_spec (i := 1) (ρ := [some (.int (l : Int)), some (.int (r : Int)), none]) rfl hr S
  let S1 : Store := S ++ [.lst ((toK r ++ [Key.word .right, Key.word .ret]).map Key.d)]
  have e2 := toE_spec (i := 0) (ρ := [some (.int (l : Int)), some (.int (r : Int)), some (.obj S.length)]) rfl hl S1
  have n1 := toK_len r
  have n2 := toK_len l
  have x1 : catL S (.lst ((toK r).map Key.d)) (.lst [.tup [.str q_right], .tup [.str q_return]]) = some ((toK r ++ [Key.word .right, Key.word .ret]).map Key.d) := by
    unfold catL
    simp only [lstT]
    rw [if_pos (by unfold big; exact decide_eq_true (by simp; omega)), List.map_append]; rfl
  have x2 := lcat S1 ((toK l).map Key.d) [.tup [.str q_left]] (by simp; omega)
  have x3 := ext_spec (S := S1) (t := S.length) (get_len S _) (toK l ++ [Key.word .left]) (by simp; omega)
  have hk : (toK l ++ [Key.word .left]).map Key.d = (toK l).map Key.d ++ [.tup [.str q_left]] := by rw [List.map_append]; rfl
  rw [hk] at x3
  refine ⟨S ++ [.lst ((mgK l r).map Key.d)], ?_, Fr.refl.app (Nat.le_refl _)⟩
  unfold m__law_margins g__law_margins
  have s1 : sSet 2 (eNew (fOp catL (toE 1) (eFrz (fLst (aCons (eTup (aCons (eC (.str q_right)) aNil)) (aCons (eTup (aCons (eC (.str q_return)) aNil)) aNil)))))) [some (.int (l : Int)), some (.int (r : Int)), none] S = .nx [some (.int (l : Int)), some (.int (r : Int)), some (.obj S.length)] S1 := by
    simp [-catL, e1, x1, S1]
  have s2 : sExpr (eMm extendM (eVar 2) (aCons (eOp addD (toE 0) (eFrz (fLst (aCons (eTup (aCons (eC (.str q_left)) aNil)) aNil)))) aNil)) [some (.int (l : Int)), some (.int (r : Int)), some (.obj S.length)] S1 = .nx [some (.int (l : Int)), some (.int (r : Int)), some (.obj S.length)] (S ++ [.lst ((mgK l r).map Key.d)]) := by
    have hS1 : S1[S.length]? = some (.lst ((toK r ++ [Key.word .right, Key.word .ret]).map Key.d)) := get_len S _
    simp only [q_left] at x2 x3
    simp [-extendM, -List.map_append, e2, x2, x3, hS1, -addD_lst]
    simp only [S1, set_last, mgK]
    simp [-List.map_append]
  rw [callD2, rep_1, sSeq_eq]
  show ((sSet 2 (eNew (fOp catL (toE 1) (eFrz (fLst (aCons (eTup (aCons (eC (.str q_right)) aNil)) (aCons (eTup (aCons (eC (.str q_return)) aNil)) aNil)))))) _ _).seq (sSeq (sExpr (eMm extendM (eVar 2) (aCons (eOp addD (toE 0) (eFrz (fLst (aCons (eTup (aCons (eC (.str q_left)) aNil)) aNil)))) aNil))) _)).out = _
  rw [s1, seq_nx, sSeq_eq, s2, seq_nx]
  simp [-List.map_append]
end Lw
/-! ## Pm14 -/
/-! Pm14: margins, lines: what is refused. -/
namespace Lw
open PySem PySem.Spec PyProof.Rows L2 RZ Sm SmT
/-- data that are no addresses -/
def plainD : D → Bool
  | .obj _ => false
  | .src _ => false
  | _ => true
def wholeB (d : D) (lo hi : Int) : Bool := match d with
  | .int i => decide (lo ≤ i) && decide (i ≤ hi)
  | _ => false
theorem is_whole_D {d : D} (h : plainD d = true) (lo hi : Int) (S : Store) : m_is_whole [d, .int lo, .int hi] S = .ok (.bl (wholeB d lo hi)) S := by
  unfold m_is_whole g_is_whole
  cases d with
  | int i =>
    by_cases h1 : lo ≤ i <;> simp [wholeB, isTy, h1]
  | obj j => cases h
  | src j => cases h
  | _ => simp [wholeB, isTy]
section
variable {cols : Int} {dead : List Nat} {down : Int}
theorem margins_ok (l r : Int) (h0 : 0 ≤ l) (h1 : l < r) (h2 : r ≤ 2 * cols) (S : Store) : m_need_margins [machD cols dead down, .int l, .int r] S = .ok .non S := by
  unfold m_need_margins g_need_margins
  have a1 := is_whole_spec l 0 (2 * cols) S
  have a2 := is_whole_spec r 0 (2 * cols) S
  rw [decide_eq_true h0, decide_eq_true (show l ≤ 2 * cols by omega)] at a1
  rw [decide_eq_true (show 0 ≤ r by omega), decide_eq_true h2] at a2
  have h3 : ¬ r ≤ l := by omega
  simp [end_of_spec, a1, a2, h3]
/-- margins that are none -/
def BadM (cols : Int) (l r : D) : Prop := wholeB l 0 (2 * cols) = false ∨ wholeB r 0 (2 * cols) = false ∨ ∃ a b, l = .int a ∧ r = .int b ∧ b ≤ a
theorem margins_bad {l r : D} (hl : plainD l = true) (hr : plainD r = true) (h : BadM cols l r) (S : Store) : m_need_margins [machD cols dead down, l, r] S = .exc 4 S := by
  unfold m_need_margins g_need_margins
  have a1 := is_whole_D hl 0 (2 * cols) S
  have a2 := is_whole_D hr 0 (2 * cols) S
  cases c1 : wholeB l 0 (2 * cols) with
  | false => rw [c1] at a1; simp [end_of_spec, a1]
  | true =>
    rw [c1] at a1
    cases c2 : wholeB r 0 (2 * cols) with
    | false => rw [c2] at a2; simp [end_of_spec, a1, a2]
    | true =>
      rw [c2] at a2
      rcases h with h | h | ⟨a, b, rfl, rfl, hab⟩
      · rw [c1] at h; cases h
      · rw [c2] at h; cases h
      · simp [end_of_spec, a1, a2, hab]
/-! ### lines -/
theorem all_map {α : Type} (l : List α) (b : α → Bool) (S : Store) : allD S [.lst (l.map fun a => D.bl (b a))] = some (.bl (l.all b)) := by
  have e : l.map (fun a => D.bl (b a)) = (l.map b).map D.bl := by simp [Function.comp_def]
  have e2 : lstBls S (.lst (l.map fun a => D.bl (b a))) = some (l.map b) := by
    show blsOf (l.map fun a => D.bl (b a)) = _
    rw [e, blsOf_bls]
  simp only [allD, e2]
  simp [List.all_map, Function.comp_def]
def signB (dead more : List Nat) (c : Nat) : Bool := decide (c ∈ qSIG ++ qGRT' ++ more) && !decide (c ∈ dead)
def lineB (dead more s : List Nat) : Bool := decide (1 ≤ s.length) && decide (s.length ≤ 40) && s.all (signB dead more)
theorem line_sign (hd : low dead = true) (more : List Nat) (hm : more.length ≤ 1000) {c : Nat} (hc : c < 128) (s : List Nat) (S : Store) :
    eAnd (eOp inD (eVar 3) (eOp addD (eOp addD (eC (.str q_x61_62_63_64_65_66_67_68_69_6a_6b_6c_6d_6e_42)) (eC (.str q_x41_42_43_44_45_46_47_48_49_4a_4b_4c_4d_4e_26))) (eVar 2))) (eOp notInD (eVar 3) (eOp ixD (eVar 0) (eC (.int 1)))) [some (machD cols dead down), some (.str s), some (.str more), some (.str [c])] S = .ok (.bl (signB dead more c)) S := by
  have e1 : eOp addD (eOp addD (eC (.str q_x61_62_63_64_65_66_67_68_69_6a_6b_6c_6d_6e_42)) (eC (.str q_x41_42_43_44_45_46_47_48_49_4a_4b_4c_4d_4e_26))) (eVar 2) [some (machD cols dead down), some (.str s), some (.str more), some (.str [c])] S = .ok (.str (qSIG ++ qGRT' ++ more)) S := by
    refine eop (eop rfl rfl (c := .str (qSIG ++ qGRT')) rfl) rfl ?_
    rw [addD_str]
    exact if_pos (by unfold big; exact decide_eq_true (by simp; omega))
  have e2 : inD S (.str [c]) (.str (qSIG ++ qGRT' ++ more)) = some (.bl (decide (c ∈ qSIG ++ qGRT' ++ more))) := by
    show (inB S (.str [c]) (.str (qSIG ++ qGRT' ++ more))).map D.bl = _
    rw [inB_str]; rfl
  have e3 : notInD S (.str [c]) (.tup (dead.map fun c => .str [c])) = some (.bl !decide (c ∈ dead)) := by
    show (inB S (.str [c]) (.tup (dead.map fun c => .str [c]))).map (fun b => D.bl !b) = _
    rw [inB_tup, anyEq_signs, if_pos (by rw [flats_signs 0 hd, flat_str]; simp; omega)]; rfl
  have e4 : eOp inD (eVar 3) (eOp addD (eOp addD (eC (.str q_x61_62_63_64_65_66_67_68_69_6a_6b_6c_6d_6e_42)) (eC (.str q_x41_42_43_44_45_46_47_48_49_4a_4b_4c_4d_4e_26))) (eVar 2)) [some (machD cols dead down), some (.str s), some (.str more), some (.str [c])] S = .ok (.bl (decide (c ∈ qSIG ++ qGRT' ++ more))) S := eop rfl e1 e2
  have e5 : eOp notInD (eVar 3) (eOp ixD (eVar 0) (eC (.int 1))) [some (machD cols dead down), some (.str s), some (.str more), some (.str [c])] S = .ok (.bl !decide (c ∈ dead)) S := eop rfl (eop rfl rfl (by unfold machD; simp)) e3
  unfold eAnd
  rw [e4]
  unfold signB
  cases decide (c ∈ qSIG ++ qGRT' ++ more)
  · simp
  · simp [-eOp, -eVar, -List.mem_append, e5]
theorem is_line_spec (hd : low dead = true) {more s : List Nat} (hm : more.length ≤ 1000) (hs : ∀ c ∈ s, c < 128) (hl : s.length ≤ 1000) (S : Store) : m_is_line [machD cols dead down, .str s, .str more] S = .ok (.bl (lineB dead more s)) S := by
  have e1 := fComp_M (fi := wSeq (eVar 1)) (tg := .nm 3) (tt := bYes) (el := eAnd (eOp inD (eVar 3) (eOp addD (eOp addD (eC (.str q_x61_62_63_64_65_66_67_68_69_6a_6b_6c_6d_6e_42)) (eC (.str q_x41_42_43_44_45_46_47_48_49_4a_4b_4c_4d_4e_26))) (eVar 2))) (eOp notInD (eVar 3) (eOp ixD (eVar 0) (eC (.int 1))))) (own := [3]) (ρ := [some (machD cols dead down), some (.str s), some (.str more), none]) (S := S) (l := s) (g := fun c => .str [c]) (b := fun _ => true) (f := fun c => .bl (signB dead more c))
    (by simp) (fun c hc => ⟨[some (machD cols dead down), some (.str s), some (.str more), some (.str [c])], rfl, rfl, fun _ => line_sign hd more hm (hs c hc) s S⟩) (by omega)
  rw [filter_true] at e1
  have e2 := all_map s (signB dead more) S
  have hb : s.length ≤ 16777216 := by omega
  unfold m_is_line g_is_line lineB
  by_cases h1 : 1 ≤ s.length
  · have h1' : (1 : Int) ≤ (s.length : Int) := by omega
    by_cases h2 : s.length ≤ 40
    · have h2' : (s.length : Int) ≤ 40 := by omega
      simp [-eAnd, -allD, -wSeq, isTy, hb, h1, h2, h1', h2', e1, e2]
    · have h2' : ¬ (s.length : Int) ≤ 40 := by omega
      simp [-eAnd, -allD, -wSeq, isTy, hb, h1, h2, h1', h2']
  · have h1' : ¬ (1 : Int) ≤ (s.length : Int) := by omega
    simp [-eAnd, -allD, -wSeq, isTy, hb, h1, h1']
/-- no text -/
def notStr : D → Bool
  | .str _ => false
  | .obj _ => false
  | .src _ => false
  | _ => true
theorem is_line_non {d : D} (h : notStr d = true) (more : List Nat) (S : Store) : m_is_line [machD cols dead down, d, .str more] S = .ok (.bl false) S := by
  unfold m_is_line g_is_line
  cases d with
  | str s => cases h
  | obj j => cases h
  | src j => cases h
  | _ => simp [isTy]
theorem lcatO {S : Store} {j : Nat} {b : List D} (h : S[j]? = some (.lst b)) (a : List D) (hl : a.length + b.length ≤ 16777216) : addD S (.lst a) (.obj j) = some (.lst (a ++ b)) := by
  have e : addD S (.lst a) (.obj j) = (match lstT S (.lst a), lstT S (.obj j) with
    | some a, some b => cat a b .lst
    | _, _ => none) := rfl
  rw [e]
  simp only [lstT, h]
  unfold cat big
  rw [if_pos (decide_eq_true hl)]
/-! ### centred, flush -/
/-- what is asked of margins and a text -/
theorem cen_margins {l r t : D} (m : Mok cols dead down) (hl : plainD l = true) (hr : plainD r = true) (h : BadM cols l r) (S : Store) : m_centred [machD cols dead down, l, r, t] S = .exc 4 S ∧ m_flush [machD cols dead down, l, r, t] S = .exc 4 S := by
  have e1 := need_machine_spec m S
  have e2 := margins_bad (dead := dead) (down := down) hl hr h S
  unfold m_centred g_centred m_flush g_flush
  simp [e1, e2]
theorem cen_line {l r : Int} {t : D} (m : Mok cols dead down) (h0 : 0 ≤ l) (h1 : l < r) (h2 : r ≤ 2 * cols) (S : Store) (ht : m_is_line [machD cols dead down, t, .str q_x20] S = .ok (.bl false) S) :
    m_centred [machD cols dead down, .int l, .int r, t] S = .exc 7 S ∧ m_flush [machD cols dead down, .int l, .int r, t] S = .exc 7 S := by
  have e1 := need_machine_spec m S
  have e2 := margins_ok (dead := dead) (down := down) l r h0 h1 h2 S
  simp only [q_x20] at ht
  unfold m_centred g_centred m_flush g_flush
  simp [e1, e2, ht]
/-- a line: the text that a law asks for -/
structure Ln (dead : List Nat) (s : List Nat) : Prop where
  one : 1 ≤ s.length
  most : s.length ≤ 40
  all : s.all (signB dead q_x20) = true
theorem Ln.low {s : List Nat} (h : Ln dead s) : ∀ c ∈ s, c < 128 := fun c hc => by
  have := List.all_eq_true.mp h.all c hc
  unfold signB at this
  have := of_decide_eq_true (Bool.and_eq_true_iff.mp this).1
  exact (by decide : ∀ c ∈ qSIG ++ qGRT' ++ q_x20, c < 128) c this
theorem Ln.line {s : List Nat} (h : Ln dead s) (hd : Sm.low dead = true) (S : Store) : m_is_line [machD cols dead down, .str s, .str q_x20] S = .ok (.bl true) S := by
  rw [is_line_spec hd (by simp) h.low (by have := h.most; omega) S]
  unfold lineB
  rw [decide_eq_true h.one, decide_eq_true h.most, h.all]; rfl
theorem mul2 (S : Store) (n : Nat) (h : n ≤ 1000000) : mulD S (.int 2) (.int (n : Int)) = some (.int (2 * (n : Int))) := by
  rw [mulD_int]
  exact if_pos (by rw [Bool.or_eq_true]; left; rfl)
theorem cen_wide {l r : Int} {s : List Nat} (m : Mok cols dead down) (h0 : 0 ≤ l) (h1 : l < r) (h2 : r ≤ 2 * cols) (hs : Ln dead s) (hw : r - l < 2 * (s.length : Int)) (S : Store) :
    m_centred [machD cols dead down, .int l, .int r, .str s] S = .exc 9 S ∧ m_flush [machD cols dead down, .int l, .int r, .str s] S = .exc 9 S := by
  have e1 := need_machine_spec m S
  have e2 := margins_ok (dead := dead) (down := down) l r h0 h1 h2 S
  have e3 := hs.line (cols := cols) (down := down) m.low S
  have hb : s.length ≤ 16777216 := by have := hs.most; omega
  have e4 := mul2 S s.length (by have := hs.most; omega)
  simp only [q_x20] at e3
  have e5 : r - l - 2 * (s.length : Int) < 0 := by omega
  unfold m_centred g_centred m_flush g_flush
  simp [-mulD_int, e1, e2, e3, e4, e5, hb]
theorem cen_ok {l r : Int} {s : List Nat} (m : Mok cols dead down) (h0 : 0 ≤ l) (h1 : l < r) (h2 : r ≤ 2 * cols) (hs : Ln dead s) (n : Nat) (hw : r - l = 2 * (s.length : Int) + (n : Int)) (S : Store) :
    (∃ S', m_centred [machD cols dead down, .int l, .int r, .str s] S = .ok (.tup ((toK (n / 2) ++ keysT s).map Key.d)) S' ∧ Fr S S' S.length) ∧ (∃ S', m_flush [machD cols dead down, .int l, .int r, .str s] S = .ok (.tup ((toK n ++ keysT s).map Key.d)) S' ∧ Fr S S' S.length) := by
  have e1 := need_machine_spec m S
  have e2 := margins_ok (dead := dead) (down := down) l r h0 h1 h2 S
  have e3 := hs.line (cols := cols) (down := down) m.low S
  have hb : s.length ≤ 16777216 := by have := hs.most; omega
  have e4 := mul2 S s.length (by have := hs.most; omega)
  simp only [q_x20] at e3
  have e5 : r - l - 2 * (s.length : Int) = (n : Int) := by omega
  have hn : n ≤ 80 := by have := m.c1; omega
  have e6 : ¬ ((n : Int) < 0) := by omega
  have e7 := keys_of_spec hs.low (by have := hs.most; omega) S
  have e8 := on_spec (n / 2) (by omega) S
  have e8' := on_spec n (by omega) S
  have e9 := to_4 S n
  have hk : ∀ q, q ≤ 80 → addD (S ++ [.lst ((keysT s).map Key.d)]) (.lst ((toK q).map Key.d)) (.obj S.length) = some (.lst ((toK q ++ keysT s).map Key.d)) := fun q hq => by
    have n1 := toK_len q
    have n2 := keysT_len s
    have n3 := hs.most
    have hg : (S ++ [O.lst ((keysT s).map Key.d)])[S.length]? = some (.lst ((keysT s).map Key.d)) := get_len S _
    exact lcatO hg _ (by rw [List.length_map, List.length_map]; omega) |>.trans (by rw [List.map_append])
  refine ⟨⟨S ++ [O.lst ((keysT s).map Key.d)], ?_, Fr.refl.app (Nat.le_refl _)⟩, ⟨S ++ [O.lst ((keysT s).map Key.d)], ?_, Fr.refl.app (Nat.le_refl _)⟩⟩
  · have hk2 := hk (n / 2) (by omega)
    generalize n / 2 = q at e8 e9 hk2
    unfold m_centred g_centred
    simp [-mulD_int, -divD_int, -List.map_append, hk2, e1, e2, e3, e4, e5, e6, e7, e8, e9, hb]
  · unfold m_flush g_flush
    simp [-mulD_int, -divD_int, -List.map_append, e1, e2, e3, e4, e5, e6, e7, e8', e9, hb, hk n (by omega)]
/-! ### asked, refused -/
abbrev refD (k : Int) : D := .tup [.str q_refused, .int k]
theorem ask_exc {l r t : D} {c : Nat} {S S' : Store} (h1 : 1 ≤ c) (h2 : c ≤ 10) (e : m_centred [machD cols dead down, l, r, t] S = .exc c S') : m__law_ask [machD cols dead down, l, r, t] S = .ok (refD ((c - 1 : Nat) : Int)) S' := by
  unfold m__law_ask g__law_ask
  have hc : 1 ≤ c ∧ c ≤ 10 ∧ 4 < 5 := ⟨h1, h2, by omega⟩
  simp [sTry, e, h1, h2, tagD, tagS]
theorem ask_ok {l r t d : D} {S S' : Store} (e : m_centred [machD cols dead down, l, r, t] S = .ok d S') : m__law_ask [machD cols dead down, l, r, t] S = .ok d S' := by
  unfold m__law_ask g__law_ask
  simp [sTry, e]
theorem ask1_exc {l r t : D} {c : Nat} {S S' : Store} (h1 : 1 ≤ c) (h2 : c ≤ 10) (e : m_flush [machD cols dead down, l, r, t] S = .exc c S') : m__law_ask_v1 [.int 0, machD cols dead down, l, r, t] S = .ok (refD ((c - 1 : Nat) : Int)) S' := by
  unfold m__law_ask_v1 g__law_ask_v1
  simp [sTry, e, h1, h2, tagD, tagS]
theorem ask1_ok {l r t d : D} {S S' : Store} (e : m_flush [machD cols dead down, l, r, t] S = .ok d S') : m__law_ask_v1 [.int 0, machD cols dead down, l, r, t] S = .ok d S' := by
  unfold m__law_ask_v1 g__law_ask_v1
  simp [sTry, e]
theorem ask1_okC {l r t d : D} {S S' : Store} (e : m_centred [machD cols dead down, l, r, t] S = .ok d S') : m__law_ask_v1 [.int 1, machD cols dead down, l, r, t] S = .ok d S' := by
  unfold m__law_ask_v1 g__law_ask_v1
  simp [sTry, e]
theorem ref_eq (S : Store) (j k : Int) : eqD S (refD j) (refD k) = some (.bl (j == k)) := by
  unfold eqD
  rw [if_pos (by simp [deref, flat_tup, flats_cons, flats_nil, flat_str, flat_int])]
  simp [deref, eqv_tup, eqvs_cons, eqvs_nil, eqv_str, eqv_int]
theorem ref_ne (S : Store) (j k : Int) : neD S (refD j) (refD k) = some (.bl (!(j == k))) := by
  unfold neD
  rw [if_pos (by simp [deref, flat_tup, flats_cons, flats_nil, flat_str, flat_int])]
  simp [deref, eqv_tup, eqvs_cons, eqvs_nil, eqv_str, eqv_int]
/-- what is no text of a machine -/
def oddL (dead : List Nat) : List D := [.non, .str [], .int 1, .lst [.str q_a], .str (List.replicate 41 97), .str q_a_b, .str q_x61_a] ++ dead.map fun c => .str (98 :: [c])
theorem odd_line (m : Mok cols dead down) {d : D} (h : d ∈ oddL dead) (S : Store) : m_is_line [machD cols dead down, d, .str q_x20] S = .ok (.bl false) S := by
  have key : ∀ s : List Nat, (∀ c ∈ s, c < 128) → s.length ≤ 1000 → lineB dead q_x20 s = false → m_is_line [machD cols dead down, .str s, .str q_x20] S = .ok (.bl false) S := fun s h1 h2 h3 => by
    rw [is_line_spec m.low (by simp) h1 h2, h3]
  unfold oddL at h
  rcases List.mem_append.mp h with h | h
  · simp only [List.mem_cons, List.not_mem_nil, or_false] at h
    rcases h with rfl | rfl | rfl | rfl | rfl | rfl | rfl
    · exact is_line_non rfl _ S
    · exact key [] (by simp) (by simp) rfl
    · exact is_line_non rfl _ S
    · exact is_line_non rfl _ S
    · exact key _ (by decide) (by decide) (by unfold lineB; rfl)
    · exact key _ (by decide) (by decide) (by unfold lineB signB; simp)
    · exact key _ (by decide) (by decide) (by unfold lineB signB; simp)
  · obtain ⟨c, hc, rfl⟩ := List.mem_map.mp h
    have hq : c < 128 := (by decide : ∀ c ∈ qDEAD, c < 128) c (m.dead.subset hc)
    refine key [98, c] (by simp [hq]) (by simp) ?_
    unfold lineB signB
    simp [hc]
theorem ask_odd {l r : Int} {d : D} (m : Mok cols dead down) (h0 : 0 ≤ l) (h1 : l < r) (h2 : r ≤ 2 * cols) (h : d ∈ oddL dead) (S : Store) : m__law_ask [machD cols dead down, .int l, .int r, d] S = .ok (refD 6) S :=
  ask_exc (c := 7) (by omega) (by omega) (cen_line m h0 h1 h2 S (odd_line m h S)).1
theorem ask1_odd {l r : Int} {d : D} (m : Mok cols dead down) (h0 : 0 ≤ l) (h1 : l < r) (h2 : r ≤ 2 * cols) (h : d ∈ oddL dead) (S : Store) : m__law_ask_v1 [.int 0, machD cols dead down, .int l, .int r, d] S = .ok (refD 6) S :=
  ask1_exc (c := 7) (by omega) (by omega) (cen_line m h0 h1 h2 S (odd_line m h S)).2
theorem ask_bad {l r d : D} (m : Mok cols dead down) (hl : plainD l = true) (hr : plainD r = true) (h : BadM cols l r) (S : Store) : m__law_ask [machD cols dead down, l, r, d] S = .ok (refD 3) S :=
  ask_exc (c := 4) (by omega) (by omega) (cen_margins m hl hr h S).1
theorem ask1_bad {l r d : D} (m : Mok cols dead down) (hl : plainD l = true) (hr : plainD r = true) (h : BadM cols l r) (S : Store) : m__law_ask_v1 [.int 0, machD cols dead down, l, r, d] S = .ok (refD 3) S :=
  ask1_exc (c := 4) (by omega) (by omega) (cen_margins m hl hr h S).2
/-- pairs that are no margins -/
def badL (cols l r : Int) : List D := [.tup [.int (-1), .int r], .tup [.int l, .int (2 * cols + 1)], .tup [.int r, .int l], .tup [.non, .int r], .tup [.int l, .non], .tup [.bl true, .int r], .tup [.str q_x30, .int r]]
theorem bad_pair {l r : Int} (h1 : l ≤ r) {d : D} (h : d ∈ badL cols l r) : ∃ a b, d = .tup [a, b] ∧ plainD a = true ∧ plainD b = true ∧ BadM cols a b := by
  unfold badL at h
  simp only [List.mem_cons, List.not_mem_nil, or_false] at h
  rcases h with rfl | rfl | rfl | rfl | rfl | rfl | rfl
  · exact ⟨_, _, rfl, rfl, rfl, .inl (by unfold wholeB; simp)⟩
  · exact ⟨_, _, rfl, rfl, rfl, .inr (.inl (by unfold wholeB; simp; omega))⟩
  · exact ⟨_, _, rfl, rfl, rfl, .inr (.inr ⟨_, _, rfl, rfl, h1⟩)⟩
  · exact ⟨_, _, rfl, rfl, rfl, .inl rfl⟩
  · exact ⟨_, _, rfl, rfl, rfl, .inr (.inl rfl)⟩
  · exact ⟨_, _, rfl, rfl, rfl, .inl rfl⟩
  · exact ⟨_, _, rfl, rfl, rfl, .inl rfl⟩
end
end Lw
/-! ## Pm15 -/
/-! Pm15: margins and a text as they are struck. -/
namespace Lw
open PySem PySem.Spec PyProof.Rows L2 RZ Sm
def Mk.core (m : Mk) : Mk := { m with n := 0 }
/-- how it stands, black, not free -/
structure St (M : PM) (row place lo hi fin down : Int) (dead : List Nat) (caps : Bool) (ms : List Mk) : Prop where
  row : M.row = row
  place : M.place = place
  lo : M.lo = lo
  hi : M.hi = hi
  fin : M.fin = fin
  down : M.down = down
  dead : M.dead = dead
  caps : M.caps = caps
  free : M.free = false
  red : M.red = false
  ms : M.marks.map Mk.core = ms
def noLk (L : List D) : Prop := ∀ d ∈ L, D.eqv d lockedD = false
structure Go (M : PM) (ks : List Key) (M' : PM) : Prop where
  to : (M.run ks).2 = M'
  no : noLk (M.run ks).1
theorem Go.app {M M1 M2 : PM} {a b : List Key} (x : Go M a M1) (y : Go M1 b M2) : Go M (a ++ b) M2 := by
  have e := run_app a b M
  refine ⟨by rw [e]; show ((M.run a).2.run b).2 = M2; rw [x.to]; exact y.to, ?_⟩
  rw [e]
  intro d hd
  rcases List.mem_append.mp hd with h | h
  · exact x.no d h
  · rw [x.to] at h; exact y.no d h
theorem Go.nil (M : PM) : Go M [] M := ⟨rfl, fun d hd => by cases hd⟩
theorem Go.one {M : PM} {k : Key} (h : D.eqv (M.turn k).1 lockedD = false) : Go M [k] (M.press k).2 :=
  ⟨rfl, fun d hd => by
    rw [show (M.run [k]).1 = [(M.turn k).1] from rfl] at hd
    rw [List.mem_singleton.mp hd]; exact h⟩
theorem lk_moved (r p : Int) : D.eqv (movedD r p) lockedD = false := rfl
theorem lk_done : D.eqv doneD lockedD = false := rfl
section
variable {M : PM} {row place lo hi fin down : Int} {dead : List Nat} {caps : Bool} {ms : List Mk}
theorem St.many (h : St M row place lo hi fin down dead caps ms) (n : Int) : St { M with many := n } row place lo hi fin down dead caps ms := ⟨h.row, h.place, h.lo, h.hi, h.fin, h.down, h.dead, h.caps, h.free, h.red, h.ms⟩
theorem St.unlocked (h : St M row place lo hi fin down dead caps ms) {p : Int} (h1 : p ≤ hi) (h2 : hi ≤ fin) : M.locked p = false := by
  unfold PM.locked
  rw [h.fin, h.hi, decide_eq_false (by omega), decide_eq_false (by omega)]; simp
theorem St.goOn (h : St M row place lo hi fin down dead caps ms) (p : Int) : St (M.goOn p) row p lo hi fin down dead caps ms := ⟨h.row, rfl, h.lo, h.hi, h.fin, h.down, h.dead, h.caps, h.free, h.red, h.ms⟩
theorem go_to (h : St M row place lo hi fin down dead caps ms) {k : Key} {p : Int} (hk : M.turn k = M.to p) (h1 : p ≤ hi) (h2 : hi ≤ fin) : ∃ M', Go M [k] M' ∧ St M' row p lo hi fin down dead caps ms := by
  have hu := h.unlocked h1 h2
  have e : M.turn k = (movedD M.row p, M.goOn p) := by rw [hk]; unfold PM.to; rw [hu]; simp
  refine ⟨_, Go.one (by rw [e]; rfl), ?_⟩
  show St { (M.turn k).2 with many := _ } _ _ _ _ _ _ _ _ _
  rw [e]
  exact (h.goOn p).many _
theorem go_blanks (h2 : hi ≤ fin) : ∀ (n : Nat) {M : PM} {place : Int}, St M row place lo hi fin down dead caps ms → place + 2 * (n : Int) ≤ hi → ∃ M', Go M (List.replicate n (.word .blank)) M' ∧ St M' row (place + 2 * (n : Int)) lo hi fin down dead caps ms
  | 0, M, place, h, _ => ⟨M, Go.nil M, by simpa using h⟩
  | n + 1, M, place, h, hp => by
    obtain ⟨M1, g1, s1⟩ := go_to h (k := .word .blank) (p := M.place + 2) rfl (by rw [h.place]; omega) h2
    rw [h.place] at s1
    obtain ⟨M2, g2, s2⟩ := go_blanks h2 n s1 (by omega)
    refine ⟨M2, ?_, ?_⟩
    · rw [List.replicate_succ]; exact g1.app g2
    · rw [show place + 2 * ((n + 1 : Nat) : Int) = place + 2 + 2 * (n : Int) by omega]; exact s2
theorem go_halves (h2 : hi ≤ fin) : ∀ (n : Nat) {M : PM} {place : Int}, St M row place lo hi fin down dead caps ms → place + (n : Int) ≤ hi → ∃ M', Go M (List.replicate n (.word .half)) M' ∧ St M' row (place + (n : Int)) lo hi fin down dead caps ms
  | 0, M, place, h, _ => ⟨M, Go.nil M, by simpa using h⟩
  | n + 1, M, place, h, hp => by
    obtain ⟨M1, g1, s1⟩ := go_to h (k := .word .half) (p := M.place + 1) rfl (by rw [h.place]; omega) h2
    rw [h.place] at s1
    obtain ⟨M2, g2, s2⟩ := go_halves h2 n s1 (by omega)
    refine ⟨M2, ?_, ?_⟩
    · rw [List.replicate_succ]; exact g1.app g2
    · rw [show place + ((n + 1 : Nat) : Int) = place + 1 + (n : Int) by omega]; exact s2
theorem go_toK (h : St M row place lo hi fin down dead caps ms) (h2 : hi ≤ fin) (n : Nat) (hp : place + (n : Int) ≤ hi) : ∃ M', Go M (toK n) M' ∧ St M' row (place + (n : Int)) lo hi fin down dead caps ms := by
  obtain ⟨M1, g1, s1⟩ := go_blanks h2 (n / 2) h (by omega)
  obtain ⟨M2, g2, s2⟩ := go_halves h2 (n % 2) s1 (by omega)
  refine ⟨M2, g1.app g2, ?_⟩
  rw [show place + (n : Int) = place + 2 * ((n / 2 : Nat) : Int) + ((n % 2 : Nat) : Int) by omega]; exact s2
theorem go_right (h : St M row place lo hi fin down dead caps ms) (h1 : lo < place) : ∃ M', Go M [.word .right] M' ∧ St M' row place lo place fin down dead caps ms := by
  have e : M.turn (.word .right) = (doneD, { M with hi := M.place }) := by
    show (if M.lo < M.place then (doneD, { M with hi := M.place }) else (lockedD, M)) = _
    rw [if_pos (by rw [h.lo, h.place]; exact h1)]
  refine ⟨_, Go.one (by rw [e]; rfl), ?_⟩
  show St { (M.turn (.word .right)).2 with many := _ } _ _ _ _ _ _ _ _ _
  rw [e]
  exact ⟨h.row, h.place, h.lo, h.place, h.fin, h.down, h.dead, h.caps, h.free, h.red, h.ms⟩
theorem go_left (h : St M row place lo hi fin down dead caps ms) (h1 : place < hi) : ∃ M', Go M [.word .left] M' ∧ St M' row place place hi fin down dead caps ms := by
  have e : M.turn (.word .left) = (doneD, { M with lo := M.place }) := by
    show (if M.place < M.hi then (doneD, { M with lo := M.place }) else (lockedD, M)) = _
    rw [if_pos (by rw [h.hi, h.place]; exact h1)]
  refine ⟨_, Go.one (by rw [e]; rfl), ?_⟩
  show St { (M.turn (.word .left)).2 with many := _ } _ _ _ _ _ _ _ _ _
  rw [e]
  exact ⟨h.row, h.place, h.place, h.hi, h.fin, h.down, h.dead, h.caps, h.free, h.red, h.ms⟩
theorem go_ret (h : St M row place lo hi fin down dead caps ms) (h0 : 0 ≤ row + down) (h1 : row + down ≤ 60) : ∃ M', Go M [.word .ret] M' ∧ St M' (row + down) lo lo hi fin down dead caps ms := by
  have e : M.turn (.word .ret) = (movedD (M.row + M.down) M.lo, { M with row := M.row + M.down, place := M.lo, free := false }) := by
    show M.rollTo (M.row + M.down) true = _
    unfold PM.rollTo
    rw [if_neg (by rw [h.row, h.down]; exact fun z => z ⟨h0, h1⟩), if_pos rfl]
  refine ⟨_, Go.one (by rw [e]; rfl), ?_⟩
  show St { (M.turn (.word .ret)).2 with many := _ } _ _ _ _ _ _ _ _ _
  rw [e]
  exact ⟨by show M.row + M.down = _; rw [h.row, h.down], h.lo, h.lo, h.hi, h.fin, h.down, h.dead, h.caps, rfl, h.red, h.ms⟩
theorem go_caps (h : St M row place lo hi fin down dead caps ms) : ∃ M', Go M [.word .caps] M' ∧ St M' row place lo hi fin down dead (!caps) ms := by
  refine ⟨_, Go.one rfl, ?_⟩
  show St { (M.turn (.word .caps)).2 with many := _ } _ _ _ _ _ _ _ _ _
  exact ⟨h.row, h.place, h.lo, h.hi, h.fin, h.down, h.dead, by show (!M.caps) = _; rw [h.caps], h.free, h.red, h.ms⟩
theorem go_sign (h : St M row place lo hi fin down dead caps ms) (h2 : hi ≤ fin) {c : Nat} (hc : c ∉ dead) (hp : place + 2 ≤ hi) : ∃ M', Go M [.sign c] M' ∧ St M' row (place + 2) lo hi fin down dead caps (ms ++ [⟨0, row, place, up c caps, false⟩]) := by
  have hu : M.locked (M.place + 2) = false := h.unlocked (by rw [h.place]; exact hp) h2
  have e : M.turn (.sign c) = (.tup (.str q_struck :: (M.mark c).tail), ({ M with marks := M.marks ++ [M.mark c] } : PM).goOn (M.place + 2)) := by
    show M.strike c = _
    unfold PM.strike PM.onward
    rw [hu]
    have hc' : c ∉ M.dead := by rw [h.dead]; exact hc
    simp [hc']
  refine ⟨_, Go.one (by rw [e]; rfl), ?_⟩
  show St { (M.turn (.sign c)).2 with many := _ } _ _ _ _ _ _ _ _ _
  rw [e]
  refine ⟨h.row, by show M.place + 2 = _; rw [h.place], h.lo, h.hi, h.fin, h.down, h.dead, h.caps, h.free, h.red, ?_⟩
  show (M.marks ++ [M.mark c]).map Mk.core = _
  rw [List.map_append, h.ms]
  simp [Mk.core, PM.mark, h.row, h.place, h.caps, h.red]
/-- the marks of a text -/
def marksT (row : Int) : Int → List Nat → List Mk
  | _, [] => []
  | place, c :: s => (if c = 32 then [] else [⟨0, row, place, c, false⟩]) ++ marksT row (place + 2) s
/-- signs of a line -/
def lnS (dead : List Nat) (c : Nat) : Prop := signB dead q_x20 c = true
theorem go_sg (h : St M row place lo hi fin down dead false ms) (h2 : hi ≤ fin) (hd : dead.Sublist qDEAD) {c : Nat} (hc : lnS dead c) (hp : place + 2 ≤ hi) :
    ∃ M', Go M (sgK c) M' ∧ St M' row (place + 2) lo hi fin down dead false (ms ++ (if c = 32 then [] else [⟨0, row, place, c, false⟩])) := by
  have hn : c ∉ dead := by
    unfold lnS signB at hc
    have := (Bool.and_eq_true_iff.mp hc).2
    simpa using this
  unfold sgK
  by_cases h32 : c = 32
  · rw [if_pos h32, if_pos h32, List.append_nil]
    obtain ⟨M1, g1, s1⟩ := go_to h (k := .word .blank) (p := M.place + 2) rfl (by rw [h.place]; exact hp) h2
    rw [h.place] at s1
    exact ⟨M1, g1, s1⟩
  · rw [if_neg h32, if_neg h32]
    by_cases hg : 65 ≤ c ∧ c ≤ 90
    · rw [if_pos hg]
      have hn2 : c + 32 ∉ dead := fun z => by
        have := hd.subset z
        simp at this
        omega
      obtain ⟨M1, g1, s1⟩ := go_caps h
      obtain ⟨M2, g2, s2⟩ := go_sign s1 h2 hn2 hp
      obtain ⟨M3, g3, s3⟩ := go_caps s2
      have hup : up (c + 32) (!false) = c := by unfold up; rw [if_pos ⟨rfl, by omega, by omega⟩]; omega
      rw [hup] at s3
      exact ⟨M3, (g1.app g2).app g3, s3⟩
    · rw [if_neg hg]
      obtain ⟨M2, g2, s2⟩ := go_sign h h2 hn hp
      have hup : up c false = c := by unfold up; rw [if_neg (fun z => by cases z.1)]
      rw [hup] at s2
      exact ⟨M2, g2, s2⟩
theorem go_text (h2 : hi ≤ fin) (hd : dead.Sublist qDEAD) : ∀ (s : List Nat) {M : PM} {place : Int} {ms : List Mk}, St M row place lo hi fin down dead false ms → (∀ c ∈ s, lnS dead c) → place + 2 * (s.length : Int) ≤ hi →
    ∃ M', Go M (keysT s) M' ∧ St M' row (place + 2 * (s.length : Int)) lo hi fin down dead false (ms ++ marksT row place s)
  | [], M, place, ms, h, _, _ => ⟨M, Go.nil M, by simpa [marksT] using h⟩
  | c :: s, M, place, ms, h, hs, hp => by
    rw [List.length_cons] at hp
    obtain ⟨M1, g1, s1⟩ := go_sg h h2 hd (hs c (by simp)) (by omega)
    obtain ⟨M2, g2, s2⟩ := go_text h2 hd s s1 (fun x hx => hs x (by simp [hx])) (by omega)
    refine ⟨M2, g1.app g2, ?_⟩
    rw [List.length_cons, show place + 2 * ((s.length + 1 : Nat) : Int) = place + 2 + 2 * (s.length : Int) by omega, marksT, ← List.append_assoc]
    exact s2
end
theorem go_margins {cols : Int} {dead : List Nat} {down : Int} (m : Mok cols dead down) {l r : Nat} (h1 : l < r) (h2 : (r : Int) ≤ 2 * cols) :
    ∃ M', Go (PM.new cols dead down) (mgK l r) M' ∧ St M' down l l r (2 * cols) down dead false [] := by
  have s0 : St (PM.new cols dead down) 0 0 0 (2 * cols) (2 * cols) down dead false [] := ⟨rfl, rfl, rfl, rfl, rfl, rfl, rfl, rfl, rfl, rfl, rfl⟩
  have d0 := m.d0
  have d1 := m.d1
  obtain ⟨M1, g1, s1⟩ := go_toK s0 (Int.le_refl _) r (by omega)
  obtain ⟨M2, g2, s2⟩ := go_right s1 (by omega)
  obtain ⟨M3, g3, s3⟩ := go_ret s2 (by omega) (by omega)
  obtain ⟨M4, g4, s4⟩ := go_toK s3 (by omega) l (by omega)
  obtain ⟨M5, g5, s5⟩ := go_left s4 (by omega)
  refine ⟨M5, (g1.app (g2.app g3)).app (g4.app g5), ?_⟩
  simpa using s5
/-- margins, on by n, a text -/
theorem go_line {cols : Int} {dead : List Nat} {down : Int} (m : Mok cols dead down) {l r : Nat} (h1 : l < r) (h2 : (r : Int) ≤ 2 * cols) {s : List Nat} (hs : ∀ c ∈ s, lnS dead c) (n : Nat) (hn : (l : Int) + n + 2 * (s.length : Int) ≤ r) :
    ∃ M', Go (PM.new cols dead down) (mgK l r ++ (toK n ++ keysT s)) M' ∧ St M' down ((l : Int) + n + 2 * (s.length : Int)) l r (2 * cols) down dead false (marksT down ((l : Int) + n) s) := by
  obtain ⟨M1, g1, s1⟩ := go_margins m h1 h2
  obtain ⟨M2, g2, s2⟩ := go_toK s1 h2 n (by omega)
  obtain ⟨M3, g3, s3⟩ := go_text h2 m.dead s s2 hs hn
  exact ⟨M3, g1.app (g2.app g3), s3⟩
/-! ### such keys may be pressed -/
theorem sgK_sig {dead : List Nat} {c : Nat} (hc : lnS dead c) : ∀ k ∈ sgK c, k.sig := by
  unfold lnS signB at hc
  have hm : c ∈ qSIG ++ qGRT' ++ q_x20 := of_decide_eq_true (Bool.and_eq_true_iff.mp hc).1
  have hl : c < 128 := (by decide : ∀ c ∈ qSIG ++ qGRT' ++ q_x20, c < 128) c hm
  unfold sgK
  by_cases h32 : c = 32
  · rw [if_pos h32]; intro k hk; rw [List.mem_singleton.mp hk]; trivial
  · rw [if_neg h32]
    by_cases hg : 65 ≤ c ∧ c ≤ 90
    · rw [if_pos hg]
      intro k hk
      simp only [List.mem_cons, List.not_mem_nil, or_false] at hk
      rcases hk with rfl | rfl | rfl
      · trivial
      · exact (by decide : ∀ c < 128, 65 ≤ c ∧ c ≤ 90 → c + 32 ∈ qSIG) c hl hg
      · trivial
    · rw [if_neg hg]
      intro k hk
      rw [List.mem_singleton.mp hk]
      exact (by decide : ∀ c ∈ qSIG ++ qGRT' ++ q_x20, c ≠ 32 → ¬ (65 ≤ c ∧ c ≤ 90) → c ∈ qSIG) c hm h32 hg
theorem keysT_sig {dead : List Nat} {s : List Nat} (hs : ∀ c ∈ s, lnS dead c) : ∀ k ∈ keysT s, k.sig := fun k hk => by
  obtain ⟨c, hc, h⟩ := List.mem_flatMap.mp hk
  exact sgK_sig (hs c hc) k h
theorem sgK_sets (c : Nat) : (sgK c).countP isSetK = 0 := by unfold sgK; (repeat' split) <;> rfl
theorem keysT_sets : ∀ s : List Nat, (keysT s).countP isSetK = 0
  | [] => rfl
  | c :: s => by rw [keysT_cons, List.countP_append, sgK_sets, keysT_sets s]
theorem mgK_sig (l r : Nat) : ∀ k ∈ mgK l r, k.sig := fun k hk => by
  unfold mgK at hk
  simp only [List.mem_append, List.mem_cons, List.not_mem_nil, or_false] at hk
  rcases hk with (h | rfl | rfl) | h | rfl
  · exact toK_sig r k h
  · trivial
  · trivial
  · exact toK_sig l k h
  · trivial
theorem mgK_sets (l r : Nat) : (mgK l r).countP isSetK = 0 := by
  unfold mgK
  simp only [List.countP_append, toK_sets]; rfl
theorem mgK_len (l r : Nat) : (mgK l r).length ≤ r / 2 + l / 2 + 5 := by
  unfold mgK
  have := toK_len r
  have := toK_len l
  simp; omega
theorem made_of {cols : Int} {dead : List Nat} {down : Int} (m : Mok cols dead down) {ks : List Key} (h1 : ∀ k ∈ ks, k.sig) (h2 : ks.length ≤ 4000) (h3 : ks.countP isSetK < 63) : Made cols dead down ks :=
  ⟨m, h1, h2, tabs_sets ks _ (by simp [PM.new]; exact h3)⟩
theorem line_made {cols : Int} {dead : List Nat} {down : Int} (m : Mok cols dead down) {l r n : Nat} (hl : l ≤ 80) (hr : r ≤ 80) (hn : n ≤ 80) {s : List Nat} (hs : ∀ c ∈ s, lnS dead c) (h40 : s.length ≤ 40) : Made cols dead down (mgK l r ++ (toK n ++ keysT s)) := by
  refine made_of m (fun k hk => ?_) ?_ ?_
  · rcases List.mem_append.mp hk with h | h
    · exact mgK_sig l r k h
    · rcases List.mem_append.mp h with h | h
      · exact toK_sig n k h
      · exact keysT_sig hs k h
  · have := mgK_len l r
    have := toK_len n
    have := keysT_len s
    simp only [List.length_append]; omega
  · simp only [List.countP_append, mgK_sets, toK_sets, keysT_sets]; decide
/-! ### in order -/
theorem marksT_low (row : Int) : ∀ (s : List Nat) (place : Int), ∀ m ∈ marksT row place s, m.row = row ∧ place ≤ m.place
  | [], _, m, h => by cases h
  | c :: s, place, m, h => by
    rw [marksT] at h
    rcases List.mem_append.mp h with h | h
    · split at h
      · cases h
      · rw [List.mem_singleton.mp h]; exact ⟨rfl, Int.le_refl _⟩
    · have := marksT_low row s (place + 2) m h
      exact ⟨this.1, by omega⟩
theorem marksT_pw (row : Int) : ∀ (s : List Nat) (place : Int), (marksT row place s).Pairwise (fun a b => a.row = b.row ∧ a.place ≤ b.place)
  | [], _ => List.Pairwise.nil
  | c :: s, place => by
    rw [marksT]
    refine List.pairwise_append.mpr ⟨by split <;> simp, marksT_pw row s (place + 2), fun a ha b hb => ?_⟩
    split at ha
    · cases ha
    · rw [List.mem_singleton.mp ha]
      have := marksT_low row s (place + 2) b hb
      exact ⟨this.1.symm, by show place ≤ b.place; omega⟩
theorem sort_core {l : List Mk} (h : (l.map Mk.core).Pairwise (fun a b => a.row = b.row ∧ a.place ≤ b.place)) (hp : l.Pairwise (fun a b => a.n < b.n)) : sortM l = l := by
  have h2 := List.pairwise_map.mp h
  exact sortM_id ((h2.and hp).imp fun {a b} ⟨⟨x, y⟩, z⟩ => ⟨x, y, z⟩)
theorem core_tail (m : Mk) : m.core.tail = m.tail := rfl
theorem tails_core (l : List Mk) : l.map (fun m => D.tup m.tail) = (l.map Mk.core).map fun m => D.tup m.tail := by rw [List.map_map]; rfl
/-! ### nothing locked -/
theorem noLk_in {S : Store} {L : List D} (h : noLk L) (hf : D.flats 63 L = true) : inB S (.tup [.str q_locked]) (.lst L) = some false := by
  show inB S lockedD (.lst L) = _
  have e : inB S lockedD (.lst L) = if (D.flat 64 lockedD && D.flats 63 L) = true then some (anyEq lockedD L) else none := rfl
  rw [e, hf, if_pos (by decide)]
  have : anyEq lockedD L = false := by
    clear e hf
    induction L with
    | nil => rfl
    | cons d L ih =>
      show (D.eqv d lockedD || anyEq lockedD L) = false
      rw [h d (by simp), ih (fun x hx => h x (by simp [hx]))]; rfl
  rw [this]
end Lw
/-! ## Dm3 -/
/-! Dm3: texts that a law draws. -/
namespace Lw
open PySem PySem.Spec PyProof.Rows L2 RZ Sm SmT
section
variable {f : FM} {g1 g2 g3 g4 g5 : EM} {ρ : Ev} {S S1 S2 S3 S4 S5 : Store} {a b c d e : D} {r : Res D}
theorem call1 (h1 : g1 ρ S = .ok a S1) (h : f [a] S1 = r) : eCall f (aCons g1 aNil) ρ S = r := by
  simp only [eCall, aCons, aNil, h1, bind_ok, h]
theorem call2 (h1 : g1 ρ S = .ok a S1) (h2 : g2 ρ S1 = .ok b S2) (h : f [a, b] S2 = r) : eCall f (aCons g1 (aCons g2 aNil)) ρ S = r := by
  simp only [eCall, aCons, aNil, h1, h2, bind_ok, h]
theorem call3 (h1 : g1 ρ S = .ok a S1) (h2 : g2 ρ S1 = .ok b S2) (h3 : g3 ρ S2 = .ok c S3) (h : f [a, b, c] S3 = r) : eCall f (aCons g1 (aCons g2 (aCons g3 aNil))) ρ S = r := by
  simp only [eCall, aCons, aNil, h1, h2, h3, bind_ok, h]
theorem call4 (h1 : g1 ρ S = .ok a S1) (h2 : g2 ρ S1 = .ok b S2) (h3 : g3 ρ S2 = .ok c S3) (h4 : g4 ρ S3 = .ok d S4) (h : f [a, b, c, d] S4 = r) : eCall f (aCons g1 (aCons g2 (aCons g3 (aCons g4 aNil)))) ρ S = r := by
  simp only [eCall, aCons, aNil, h1, h2, h3, h4, bind_ok, h]
theorem call5 (h1 : g1 ρ S = .ok a S1) (h2 : g2 ρ S1 = .ok b S2) (h3 : g3 ρ S2 = .ok c S3) (h4 : g4 ρ S3 = .ok d S4) (h5 : g5 ρ S4 = .ok e S5) (h : f [a, b, c, d, e] S5 = r) : eCall f (aCons g1 (aCons g2 (aCons g3 (aCons g4 (aCons g5 aNil))))) ρ S = r := by
  simp only [eCall, aCons, aNil, h1, h2, h3, h4, h5, bind_ok, h]
@[simp] theorem rep_20 : List.replicate 20 (none : Option D) = [none, none, none, none, none, none, none, none, none, none, none, none, none, none, none, none, none, none, none, none] := rfl
theorem sl_1 {xs : List D} (h : g1 ρ S = .ok (.tup (a :: xs)) S1) : eSl g1 (oSome (eC (.int 1))) oNone ρ S = .ok (.tup xs) S1 := by
  simp only [eSl, h, bind_ok, oSome, oNone, eC, slD_tup, cut_1, give]
theorem mx1 {g : Store → List Nat → List D → Option D} {t : List Nat} (h1 : g1 ρ S = .ok (.str t) S1) (h2 : g2 ρ S1 = .ok a S2) (h : g S2 t [a] = some d) : eMx g g1 (aCons g2 aNil) ρ S = .ok d S2 := by
  simp only [eMx, aCons, aNil, h1, bind_ok, onS, h2, h, give]
theorem frz_e {h1 : Ev → Store → Res (List D)} {xs : List D} (h : h1 ρ S = .ok xs S1) : eFrz h1 ρ S = .ok (.lst xs) S1 := by
  simp only [eFrz, h, bind_ok]
theorem set_e {i : Nat} (h : g1 ρ S = .ok d S1) : sSet i g1 ρ S = .nx (ρ.set i (some d)) S1 := by
  simp only [sSet, h, sb_ok]
end
theorem wkR1_int {v : Int} (h0 : 0 ≤ v) (h1 : v < 1000000) : wkR1 (.int v) = some (wkL (rngL 0 v.toNat)) := by
  have hR : Sm.inR v = true := by unfold Sm.inR; rw [Bool.and_eq_true]; exact ⟨decide_eq_true (by omega), decide_eq_true (by omega)⟩
  show (if Sm.inR v = true then some (wkL (rngL 0 v.toNat)) else none) = _
  rw [if_pos hR]
theorem rngL_n (n : Nat) : (wkL (rngL 0 n)).n = n := by simp [wkL, rngL]
/-- ''.join([pick(script, town, l) for .. in range(k)]) -/
theorem text_comp (ns : List Int) {S : Store} {n : Nat} (T : Town S n) {l : List Nat} (hl : 0 < l.length) (hb : l.length < 1000) (k : Nat) (hk : n + k < 16777215) {i : Nat} {fl : EM} {fi : WM} {ρ : Ev} (hfi : fi ρ S = .ok (wkL (rngL 0 k)) S)
    (h : ∀ d : D, ((wipeE ρ [i]).set i (some d))[0]? = some (some (scr ns)) ∧ ((wipeE ρ [i]).set i (some d))[1]? = some (some (.obj 0)) ∧ ∀ S, fl ((wipeE ρ [i]).set i (some d)) S = .ok (.str l) S) :
    ∃ (s : List Nat) (S' : Store), fComp fi (.nm i) bYes (eCall m__law_pick (aCons (eVar 0) (aCons (eVar 1) (aCons fl aNil)))) [i] ρ S = .ok (s.map fun c => .str [c]) S' ∧ s.length = k ∧ (∀ c ∈ s, c ∈ l) ∧ Town S' (n + k) ∧ Tw S S' ∧ S'.length = S.length := by
  have hn : (wkL (rngL 0 k)).n = k := rngL_n k
  obtain ⟨acc, S', e, s, h1, h2, h3, h4, h5, h6⟩ := fComp_inv (tg := .nm i) (tt := bYes) (el := eCall m__law_pick (aCons (eVar 0) (aCons (eVar 1) (aCons fl aNil)))) (own := [i]) hfi
    (fun j acc S' => ∃ s : List Nat, acc = s.map (fun c => .str [c]) ∧ s.length = j ∧ (∀ c ∈ s, c ∈ l) ∧ Town S' (n + j) ∧ Tw S S' ∧ S'.length = S.length)
    ⟨[], rfl, rfl, by simp, T, .refl, rfl⟩
    (fun j acc S1 hj ⟨s, h1, h2, h3, h4, h5, h6⟩ => by
      rw [hn] at hj
      obtain ⟨c, S2, e2, hc, T2, W2, L2'⟩ := pickS_spec ns h4 (by omega) hl hb
      have hcur : (wkL (rngL 0 k)).cur S1 j = some (.int ((0 : Int) + (j : Int))) := by
        show (rngL 0 k)[j]? = _
        unfold rngL
        rw [List.getElem?_map, List.getElem?_range hj]; rfl
      obtain ⟨a0, a1, a2⟩ := h (.int ((0 : Int) + (j : Int)))
      refine ⟨_, _, true, S1, hcur, put_nm _ _ _, rfl, fun _ => ⟨.str [c], S2, ?_, ?_, s ++ [c], ?_, ?_, ?_, T2, h5.trans W2, by omega⟩, fun z => by cases z⟩
      · simp only [eCall, aCons, aNil, eVar, a0, a1, a2, bind_ok, e2]
      · rw [h1, List.length_map]; omega
      · rw [h1, List.map_append]; rfl
      · rw [List.length_append, h2]; rfl
      · intro x hx
        rcases List.mem_append.mp hx with z | z
        · exact h3 x z
        · rw [List.mem_singleton.mp z]; exact hc)
    (fun _ _ _ => rfl)
  rw [hn] at h2 h4
  exact ⟨s, S', by rw [e, h1], h2, h3, h4, h5, h6⟩
theorem strs_singles : ∀ s : List Nat, strsOf (s.map fun c => D.str [c]) = some (s.map fun c => [c])
  | [] => rfl
  | c :: s => by
    rw [List.map_cons]
    show (strsOf (s.map fun c => D.str [c])).map _ = _
    rw [strs_singles s]; rfl
theorem join_ones : ∀ s : List Nat, joinL [] (s.map fun c => [c]) = s
  | [] => rfl
  | [c] => rfl
  | c :: d :: s => by
    show [c] ++ [] ++ joinL [] ((d :: s).map fun c => [c]) = _
    rw [join_ones (d :: s)]; rfl
theorem sum_ones : ∀ s : List Nat, ((s.map fun c => [c]).map (·.length)).sum = s.length
  | [] => rfl
  | c :: s => by
    rw [List.map_cons, List.map_cons, List.sum_cons, sum_ones s, List.length_cons]; simp; omega
theorem join_singles (S : Store) (s : List Nat) (h : s.length ≤ 100000) : joinX S [] [.lst (s.map fun c => .str [c])] = some (.str s) := by
  have e : seqOf S (.lst (s.map fun c => D.str [c])) = some (s.map fun c => D.str [c]) := rfl
  simp only [joinX]
  rw [e, Option.bind_some, strs_singles, Option.bind_some, sum_ones, join_ones]
  rw [if_pos (by simp; omega)]
/-- two ints in order -/
theorem sort2 (S : Store) (a b : Int) : ∃ x y, sortedD S [.lst [.int a, .int b]] = some [.int x, .int y] ∧ ((x = a ∧ y = b) ∨ (x = b ∧ y = a)) ∧ x ≤ y := by
  by_cases h : a ≤ b
  · exact ⟨a, b, by simp [lstInts, intsOf, sortI, insI, h], .inl ⟨rfl, rfl⟩, h⟩
  · exact ⟨b, a, by simp [lstInts, intsOf, sortI, insI, h], .inr ⟨rfl, rfl⟩, by omega⟩
theorem key_flat {k : Key} (h : k.ok) (n : Nat) : D.flat (n + 1) k.d = true := by
  cases k with
  | sign c =>
    have : c < 128 := h
    simp [Key.d, flat_tup, flats_cons, flats_nil, flat_str]; omega
  | lift c =>
    have : c < 128 := h
    simp [Key.d, flat_tup, flats_cons, flats_nil, flat_str]; omega
  | word w => cases w <;> simp [Key.d, Wd.t, flat_tup, flats_cons, flats_nil, flat_str]
theorem keys_flats : ∀ {ks : List Key}, (∀ k ∈ ks, k.ok) → ∀ n : Nat, D.flats (n + 1) (ks.map Key.d) = true
  | [], _, _ => rfl
  | k :: ks, h, n => by rw [List.map_cons, flats_cons, key_flat (h k (by simp)), keys_flats (fun x hx => h x (by simp [hx])) n]; rfl
theorem keys_ne {ks : List Key} (h : ∀ k ∈ ks, k.ok) (S : Store) : neD S (.tup (ks.map Key.d)) (.tup (ks.map Key.d)) = some (.bl false) :=
  neD_self S rfl (by show D.flat 64 (.tup (ks.map Key.d)) = true; rw [flat_tup]; exact keys_flats h 62)
/-- what is no text, as a law writes it -/
theorem odd_comp {cols : Int} {dead : List Nat} {down : Int} (m : Mok cols dead down) {ρ : Ev} {i : Nat} (S : Store) (h1 : eOp ixD (eVar 2) (eC (.int 1)) ρ S = .ok (.tup (dead.map fun c => .str [c])) S) (h2 : ∀ d : D, ((wipeE ρ [i]).set i (some d))[i]? = some (some d)) :
    eOp addD (eFrz (fLst (aCons (eC .non) (aCons (eC (.str q_x)) (aCons (eC (.int 1)) (aCons (eFrz (fLst (aCons (eC (.str q_a)) aNil))) (aCons (eOp mulS (eC (.str q_a)) (eC (.int 41))) (aCons (eC (.str q_a_b)) (aCons (eC (.str q_x61_a)) aNil))))))))) (eFrz (fComp (wSeq (eOp ixD (eVar 2) (eC (.int 1)))) (.nm i) bYes (eOp addD (eC (.str q_b)) (eVar i)) [i])) ρ S = .ok (.lst (oddL dead)) S := by
  have e1 : eFrz (fLst (aCons (eC .non) (aCons (eC (.str q_x)) (aCons (eC (.int 1)) (aCons (eFrz (fLst (aCons (eC (.str q_a)) aNil))) (aCons (eOp mulS (eC (.str q_a)) (eC (.int 41))) (aCons (eC (.str q_a_b)) (aCons (eC (.str q_x61_a)) aNil)))))))) ρ S = .ok (.lst [.non, .str [], .int 1, .lst [.str q_a], .str (List.replicate 41 97), .str q_a_b, .str q_x61_a]) S := by
    have e0 : mulS S (.str q_a) (.int 41) = some (.str (List.replicate 41 97)) := rfl
    simp only [q_a] at e0
    simp [-mulS, e0]
  have e2 : eFrz (fComp (wSeq (eOp ixD (eVar 2) (eC (.int 1)))) (.nm i) bYes (eOp addD (eC (.str q_b)) (eVar i)) [i]) ρ S = .ok (.lst (dead.map fun c => .str (98 :: [c]))) S := by
    have hs := m.dead.length_le
    have e := fComp_M (fi := wSeq (eOp ixD (eVar 2) (eC (.int 1)))) (tg := .nm i) (tt := bYes) (el := eOp addD (eC (.str q_b)) (eVar i)) (own := [i]) (ρ := ρ) (S := S) (l := dead) (g := fun c => .str [c]) (b := fun _ => true) (f := fun c => .str (98 :: [c]))
      (by unfold wSeq; rw [h1]; rfl) (fun c _ => ⟨_, put_nm _ _ _, rfl, fun _ => eop rfl (by unfold eVar; rw [h2]) rfl⟩) (by simp at hs; omega)
    rw [filter_true] at e
    unfold eFrz
    rw [e]; rfl
  refine eop e1 e2 (lcat S _ _ ?_)
  have hs := m.dead.length_le
  simp at hs ⊢
  omega
theorem odd_pos (dead : List Nat) : 0 < (oddL dead).length := by unfold oddL; simp
end Lw
/-! ## Dm4 -/
/-! Dm4: more draws. -/
namespace Lw
open PySem PySem.Spec PyProof.Rows L2 RZ Sm SmT
theorem pickL_spec (ns : List Int) {S : Store} {n w : Nat} (T : Town S n) (hn : n < 16777215) (hw : 0 < w) {l : List D} (hS : S[w]? = some (.lst l)) (hl : 0 < l.length) :
    ∃ d S', m__law_pick [scr ns, .obj 0, .obj w] S = .ok d S' ∧ d ∈ l ∧ Town S' (n + 1) ∧ Tw S S' ∧ S'.length = S.length := by
  obtain ⟨v, S', e, v0, v1, T', W, L⟩ := draw_spec ns T hn (many := l.length) (by omega)
  have hS' := W.get hw hS
  unfold m__law_pick g__law_pick
  have hv : v.toNat < l.length := by omega
  have e2 : L2.atI l v = some l[v.toNat] := by
    have := (atI_nat l v.toNat).2
    rw [show ((v.toNat : Nat) : Int) = v by omega, List.getElem?_eq_getElem hv] at this
    exact this
  have e3 : ixD S' (.obj w) (.int v) = some l[v.toNat] := by
    show (match lstOf S' (.obj w) with | some xs => L2.atI xs v | none => none) = _
    simp only [lstOf, hS', e2]
  refine ⟨l[v.toNat], S', ?_, List.getElem_mem hv, T', W, L⟩
  simp [hS, e, e3]
/-- draw(script, town, pick(script, town, [..])) -/
theorem dpick (ns : List Int) {S : Store} {n : Nat} (T : Town S n) (hn : n < 16777000) {L : List Int} (hL : 0 < L.length) (hp : ∀ q ∈ L, 0 < q) {fl : EM} {ρ : Ev} (hfl : fl ρ S = .ok (.lst (L.map D.int)) S) (h0 : eVar 0 ρ S = .ok (scr ns) S) (h1 : eVar 1 ρ S = .ok (.obj 0) S) :
    ∃ v S', eCall m__law_draw (aCons (eVar 0) (aCons (eVar 1) (aCons (eCall m__law_pick (aCons (eVar 0) (aCons (eVar 1) (aCons fl aNil)))) aNil))) ρ S = .ok (.int v) S' ∧ 0 ≤ v ∧ (∃ q ∈ L, v < q) ∧ Town S' (n + 2) ∧ Tw S S' ∧ S'.length = S.length := by
  obtain ⟨d, S1, e1, m1, T1, W1, L1⟩ := pick_spec ns T (by omega) (l := L.map D.int) (by rw [List.length_map]; exact hL)
  obtain ⟨q, hq, rfl⟩ := List.mem_map.mp m1
  obtain ⟨v, S2, e2, a2, b2, T2, W2, L2'⟩ := draw_spec ns T1 (by omega) (many := q) (hp q hq)
  exact ⟨v, S2, call3 h0 h1 (call3 h0 h1 hfl e1) e2, a2, ⟨q, hq, b2⟩, T2, W1.trans W2, by omega⟩
theorem appD {S : Store} {t : Nat} {l : List D} (hS : S[t]? = some (.lst l)) (hl : l.length < 16000000) (d : D) : appendM S (.obj t) [d] = some (.non, S.set t (.lst (l ++ [d]))) := by
  unfold appendM
  simp only [onL, hS]
  rw [if_pos (by omega)]
  simp
theorem Town.set {S : Store} {n t : Nat} (h : Town S n) (ht : 0 < t) (o : O) : Town (S.set t o) n := by
  obtain ⟨l, h0, hl⟩ := h
  exact ⟨l, by rw [List.getElem?_set_ne (by omega)]; exact h0, hl⟩
theorem cut_take (l : List Nat) (a : Nat) : cutD (l.map fun c => D.str [c]) none (some (a : Int)) = (l.take a).map fun c => .str [c] := by rw [cut_to, List.map_take]
theorem cut_drop {α : Type} (l : List α) (a : Nat) (h : a ≤ l.length) : Sm.cutD l (some (a : Int)) none = l.drop a := by
  unfold Sm.cutD HT.sIx
  simp only
  rw [if_neg (by omega), Int.toNat_natCast, Nat.min_eq_left h, List.take_of_length_le (by rw [List.length_drop]; exact Nat.le_refl _)]
theorem sExp_mm {g : Store → D → List D → Option (D × Store)} {g1 g2 : EM} {ρ : Ev} {S S1 S2 S3 : Store} {j : Nat} {a d : D} (h1 : g1 ρ S = .ok (.obj j) S1) (hL : isL S1 (.obj j) = true) (h2 : g2 ρ S1 = .ok a S2) (h : g S2 (.obj j) [a] = some (d, S3)) : sExpr (eMm g g1 (aCons g2 aNil)) ρ S = .nx ρ S3 := by
  simp only [sExpr, eMm, h1, bind_ok, hL, if_true, aCons, h2, aNil, h, give2, sb_ok]
theorem sl_13 {g1 : EM} {ρ : Ev} {S S1 : Store} {a b c d e : D} (h : g1 ρ S = .ok (.tup [a, b, c, d, e]) S1) : eSl g1 (oSome (eC (.int 1))) (oSome (eC (.int 3))) ρ S = .ok (.tup [b, c]) S1 := by
  simp only [eSl, h, bind_ok, oSome, eC, slD_tup, cut_13, give]
theorem isL_of {S : Store} {j : Nat} {l : List D} (h : S[j]? = some (.lst l)) : isL S (.obj j) = true := by simp [isL, lstOf, h]
theorem if_f {c : BM} {g1 g2 : SM} {ρ : Ev} {S S1 : Store} (h : c ρ S = .ok false S1) : sIf c g1 g2 ρ S = g2 ρ S1 := by
  simp only [sIf, h, sb_ok, Bool.false_eq_true, if_false]
theorem if_t {c : BM} {g1 g2 : SM} {ρ : Ev} {S S1 : Store} (h : c ρ S = .ok true S1) : sIf c g1 g2 ρ S = g1 ρ S1 := by
  simp only [sIf, h, sb_ok, if_true]
theorem bE_ {g : EM} {ρ : Ev} {S S1 : Store} {b : Bool} (h : g ρ S = .ok (.bl b) S1) : bE g ρ S = .ok b S1 := by
  simp only [bE, h, bind_ok, bOf]
theorem bNot_ {g : BM} {ρ : Ev} {S S1 : Store} {b : Bool} (h : g ρ S = .ok b S1) : bNot g ρ S = .ok (!b) S1 := by
  simp only [bNot, h, bind_ok]
theorem bOr_f {g g' : BM} {ρ : Ev} {S S1 : Store} {r : Res Bool} (h : g ρ S = .ok false S1) (h' : g' ρ S1 = r) : bOr g g' ρ S = r := by
  simp only [bOr, h, bind_ok, Bool.false_eq_true, if_false, h']
theorem bOr_t {g g' : BM} {ρ : Ev} {S S1 : Store} (h : g ρ S = .ok true S1) : bOr g g' ρ S = .ok true S1 := by
  simp only [bOr, h, bind_ok, if_true]
theorem ret_e {g : EM} {ρ : Ev} {S S1 : Store} {d : D} (h : g ρ S = .ok d S1) : sRet g ρ S = .rt d S1 := by
  simp only [sRet, h, sb_ok]
theorem eB1 {g : Store → List D → Option D} {g1 : EM} {ρ : Ev} {S S1 : Store} {a d : D} (h1 : g1 ρ S = .ok a S1) (h : g S1 [a] = some d) : eB g (aCons g1 aNil) ρ S = .ok d S1 := by
  simp only [eB, aCons, h1, bind_ok, aNil, h, give]
theorem asg_e {tg : Tg} {g : EM} {ρ ρ1 : Ev} {S S1 : Store} {d : D} (h : g ρ S = .ok d S1) (hp : tg.put d ρ = some ρ1) : sAsg tg g ρ S = .nx ρ1 S1 := by
  simp only [sAsg, h, sb_ok, hp]
end Lw
/-! ## Pm24 -/
/-! Pm24: the look of a sheet. -/
namespace Sm
open PySem PySem.Spec PyProof.Rows L2 RZ SmT SrtO PyProof.Rows.G
def addC (l : List D) (d : D) : D := match d with
  | .tup xs => .tup (xs ++ [.int ((l.countP fun x => D.eqv x d : Nat) : Int)])
  | d => d
/-- each kind once, in order, with how many there are -/
def lookL (l : List D) : List D := (sortA ltT (dedK l)).map (addC l)
/-! ### told by how many there are -/
theorem dedK_perm {l l' : List D} (p : l.Perm l') (h1 : ∀ d ∈ l, isTp d = true ∧ lenT d = (keyT d).length) : sortA ltT (dedK l) = sortA ltT (dedK l') := by
  have e : (sortA ltT (dedK l)).map keyT = (sortA ltT (dedK l')).map keyT := by
    refine keys_uniq (List.pairwise_map.mpr (sortA_srtd (swo_key keyT) _)) (List.pairwise_map.mpr (sortA_srtd (swo_key keyT) _)) (((sortA_perm ltT _).map keyT).nodup_iff.mpr (dedK_nd l)) (((sortA_perm ltT _).map keyT).nodup_iff.mpr (dedK_nd l')) fun k => ?_
    rw [((sortA_perm ltT _).map keyT).mem_iff, ((sortA_perm ltT _).map keyT).mem_iff, dedK_mem, dedK_mem, (p.map keyT).mem_iff]
  have m1 : ∀ d ∈ sortA ltT (dedK l), d ∈ l := fun d hd => dedK_sub ((sortA_perm ltT _).mem_iff.mp hd)
  have m2 : ∀ d ∈ sortA ltT (dedK l'), d ∈ l := fun d hd => p.mem_iff.mpr (dedK_sub ((sortA_perm ltT _).mem_iff.mp hd))
  generalize sortA ltT (dedK l) = a at e m1
  generalize sortA ltT (dedK l') = b at e m2
  induction a generalizing b with
  | nil =>
    cases b with
    | nil => rfl
    | cons _ _ => cases e
  | cons x a ih =>
    cases b with
    | nil => cases e
    | cons y b =>
      rw [List.map_cons, List.map_cons] at e
      injection e with e1 e2
      have hx := h1 x (m1 x List.mem_cons_self)
      have hy := h1 y (m2 y List.mem_cons_self)
      rw [keyT_inj hx.1 hy.1 hx.2 hy.2 e1, ih (fun d hd => m1 d (List.mem_cons_of_mem _ hd)) b e2 fun d hd => m2 d (List.mem_cons_of_mem _ hd)]
theorem lookL_perm {l l' : List D} (p : l.Perm l') (h1 : ∀ d ∈ l, isTp d = true ∧ lenT d = (keyT d).length) : lookL l = lookL l' := by
  unfold lookL
  rw [dedK_perm p h1]
  refine List.map_congr_left fun d hd => ?_
  unfold addC
  cases d <;> try rfl
  rw [p.countP_eq]
end Sm
namespace Lw
open PySem PySem.Spec PyProof.Rows L2 RZ Sm SmT SrtO PyProof.Rows.G
theorem mm_e {g : Store → D → List D → Option (D × Store)} {g1 g2 : EM} {ρ : Ev} {S S1 S2 S3 : Store} {x a d : D} (h1 : g1 ρ S = .ok x S1) (hL : isL S1 x = true) (h2 : g2 ρ S1 = .ok a S2) (h : g S2 x [a] = some (d, S3)) : eMm g g1 (aCons g2 aNil) ρ S = .ok d S3 := by
  simp only [eMm, h1, bind_ok, hL, if_true, aCons, h2, aNil, h, give2]
theorem tup_1 {g1 : EM} {ρ : Ev} {S S1 : Store} {a : D} (h1 : g1 ρ S = .ok a S1) : eTup (aCons g1 aNil) ρ S = .ok (.tup [a]) S1 := by
  simp [eTup, aCons, aNil, h1]
theorem looks_comp {ρ : Ev} {i k : Nat} {S : Store} {l : List D} (h1 : ρ[i]? = some (some (.lst l))) (hk : k < ρ.length) (hik : i ≠ k) (ok : okU l = true) (hf : ∀ n, D.flats (n + 1) l = true) (hs : ∀ d ∈ l, ∃ xs, d = .tup xs ∧ xs.length < 1000) :
    fComp (wSeq (eFrz (fSortSetD (eVar i)))) (.nm k) bYes (eOp addD (eVar k) (eTup (aCons (eMm countM (eVar i) (aCons (eVar k) aNil)) aNil))) [k] ρ S = .ok (lookL l) S := by
  have hl : l.length ≤ 76 := by
    unfold okU at ok
    rw [Bool.and_eq_true] at ok
    exact of_decide_eq_true ok.2
  have hle : (sortA ltT (dedK l)).length ≤ 76 := by
    rw [(sortA_perm ltT (dedK l)).length_eq]
    have : ∀ l : List D, (dedK l).length ≤ l.length := by
      intro l
      induction l with
      | nil => exact Nat.le_refl _
      | cons d r ih => unfold dedK; split <;> simp <;> omega
    have := this l
    omega
  have h1e : eVar i ρ S = .ok (.lst l) S := by unfold eVar; rw [h1]
  have e1 : eFrz (fSortSetD (eVar i)) ρ S = .ok (.lst (sortA ltT (dedK l))) S := by
    unfold eFrz fSortSetD
    rw [h1e]
    simp [ok]
  have hfe : ∀ n, ∀ d ∈ l, D.flat (n + 1) d = true := by
    intro n d hd
    have : ∀ l : List D, D.flats (n + 1) l = true → ∀ d ∈ l, D.flat (n + 1) d = true := by
      intro l
      induction l with
      | nil => intro _ d hd; cases hd
      | cons x r ih =>
        intro h d hd
        rw [flats_cons, Bool.and_eq_true] at h
        rcases List.mem_cons.mp hd with e | e
        · rw [e]; exact h.1
        · exact ih h.2 d e
    exact this l (hf n) d hd
  have e2 := fComp_M (fi := wSeq (eFrz (fSortSetD (eVar i)))) (tg := .nm k) (tt := bYes) (el := eOp addD (eVar k) (eTup (aCons (eMm countM (eVar i) (aCons (eVar k) aNil)) aNil))) (own := [k]) (ρ := ρ) (S := S) (l := sortA ltT (dedK l)) (g := fun d => d) (b := fun _ => true) (f := addC l)
    (by unfold wSeq; rw [e1]; simp [wkOf, wkL]) (fun d hd => ?_) (by omega)
  · rw [filter_true] at e2
    exact e2
  · have hdl : d ∈ l := dedK_sub ((sortA_perm ltT (dedK l)).mem_iff.mp hd)
    obtain ⟨xs, rfl, hxl⟩ := hs d hdl
    refine ⟨(wipeE ρ [k]).set k (some (.tup xs)), put_nm _ _ _, rfl, fun _ => ?_⟩
    have ek : ((wipeE ρ [k]).set k (some (.tup xs)))[k]? = some (some (.tup xs)) := by
      rw [List.getElem?_set_self]
      unfold wipeE wipeE
      rw [List.length_set]
      exact hk
    have ei : ((wipeE ρ [k]).set k (some (.tup xs)))[i]? = some (some (.lst l)) := by
      rw [List.getElem?_set_ne (Ne.symm hik)]
      unfold wipeE wipeE
      rw [List.getElem?_set_ne (Ne.symm hik)]
      exact h1
    have v1 : eVar k ((wipeE ρ [k]).set k (some (.tup xs))) S = .ok (.tup xs) S := by unfold eVar; rw [ek]
    have v2 : eVar i ((wipeE ρ [k]).set k (some (.tup xs))) S = .ok (.lst l) S := by unfold eVar; rw [ei]
    have f2 : D.flat 64 (.tup xs) = true := hfe 63 _ hdl
    have hf := hf 62
    have v3 : eMm countM (eVar i) (aCons (eVar k) aNil) ((wipeE ρ [k]).set k (some (.tup xs))) S = .ok (.int ((l.countP fun x => D.eqv x (.tup xs) : Nat) : Int)) S := by
      refine mm_e v2 rfl v1 ?_
      simp only [countM, lstOf, Option.bind_some, hf, f2, Bool.and_self, if_true]
    have v4 := tup_1 v3
    refine eop v1 v4 ?_
    show cat xs _ .tup = _
    unfold cat
    have hb : big (xs.length + 1) = true := decide_eq_true (by omega)
    exact if_pos hb
theorem tails_flat9 {l : List Mk} (h : ∀ m ∈ l, m.sign < 128) (n : Nat) : D.flats (n + 1) (l.map fun m => .tup m.tail) = true := by
  induction l with
  | nil => rfl
  | cons m l ih => rw [List.map_cons, flats_cons, flat_tup, tail_flat (h m (by simp)) n, ih (fun x hx => h x (by simp [hx]))]; rfl
abbrev tlD (m : Mk) : D := .tup m.tail
def skKey (m : Mk) : List Atm := [.inl m.row, .inl m.place, .inr [m.sign], .inr (if m.red = true then q_red else q_black)]
theorem tl_key (m : Mk) : keyT (tlD m) = skKey m := rfl
theorem tl_tp (m : Mk) : isTp (tlD m) = true ∧ lenT (tlD m) = (keyT (tlD m)).length := ⟨rfl, rfl⟩
theorem okU_tails {l : List Mk} (h : l.length ≤ 76) : okU (l.map tlD) = true := by
  unfold okU
  rw [Bool.and_eq_true, Bool.and_eq_true, Bool.and_eq_true]
  refine ⟨⟨⟨?_, ?_⟩, ?_⟩, decide_eq_true (by rw [List.length_map]; exact h)⟩
  · rw [List.all_map]
    exact List.all_eq_true.mpr fun m _ => rfl
  · rw [List.all_map]
    refine List.all_eq_true.mpr fun m _ => ?_
    show (l.map tlD).all _ = true
    rw [List.all_map]
    exact List.all_eq_true.mpr fun m' _ => decide_eq_true (show (keyT (tlD m)).map isTxt = (keyT (tlD m')).map isTxt from rfl)
  · rw [List.all_map]
    exact List.all_eq_true.mpr fun m _ => decide_eq_true (show lenT (tlD m) = (keyT (tlD m)).length from rfl)
/-- the look of some marks -/
def lookM (l : List Mk) : List D := lookL (l.map tlD)
theorem lookM_perm {l l' : List Mk} (p : (l.map tlD).Perm (l'.map tlD)) : lookM l = lookM l' :=
  lookL_perm p fun d hd => by obtain ⟨m, _, rfl⟩ := List.mem_map.mp hd; exact tl_tp m
theorem lookM_sort (l : List Mk) : lookM (sortM l) = lookM l := lookM_perm ((sortA_perm ltM l).map tlD)
theorem lookM_comp {ρ : Ev} {i k : Nat} {S : Store} {l : List Mk} (h1 : ρ[i]? = some (some (.lst (l.map tlD)))) (hk : k < ρ.length) (hik : i ≠ k) (hl : l.length ≤ 76) (hs : ∀ m ∈ l, m.sign < 128) :
    fComp (wSeq (eFrz (fSortSetD (eVar i)))) (.nm k) bYes (eOp addD (eVar k) (eTup (aCons (eMm countM (eVar i) (aCons (eVar k) aNil)) aNil))) [k] ρ S = .ok (lookM l) S :=
  looks_comp h1 hk hik (okU_tails hl) (fun n => tails_flat9 hs n) fun d hd => by
    obtain ⟨m, _, rfl⟩ := List.mem_map.mp hd
    exact ⟨m.tail, rfl, by simp [Mk.tail]⟩
section
variable {cols : Int} {dead : List Nat} {down : Int} {ks : List Key}
theorem run_fitN : ∀ (ks : List Key) (M : PM) (n : Nat), FitN M (n + ks.length) → (∀ k ∈ ks, k.ok) → FitN (M.run ks).2 n
  | [], _, _, F, _ => F
  | k :: ks, M, n, F, hk => run_fitN ks (M.press k).2 n (press_fit (n := n + ks.length) (by rw [List.length_cons] at F; exact F) k (hk k List.mem_cons_self)) fun x hx => hk x (List.mem_cons_of_mem _ hx)
theorem Made.signs (h : Made cols dead down ks) : ∀ m ∈ (endOf cols dead down ks).marks, m.sign < 128 := (run_fitN ks _ 0 (by rw [Nat.zero_add]; exact h.fit) h.ok).marks
theorem look_of_spec (h : Made cols dead down ks) (hl : ks.length ≤ 76) (S : Store) :
    ∃ S', m_look_of [machD cols dead down, .tup (ks.map Key.d)] S = .ok (.lst (lookM (endOf cols dead down ks).marks)) S' ∧ Fr S S' S.length := by
  obtain ⟨S', e, f⟩ := marks_of_spec h S
  refine ⟨S', ?_, f⟩
  have hm : (sortM (endOf cols dead down ks).marks).length ≤ 76 := by
    have := run_ml ks (PM.new cols dead down)
    rw [sortM_len]
    unfold endOf
    rw [show (PM.new cols dead down).marks = [] from rfl, List.length_nil] at this
    omega
  have hs : ∀ m ∈ sortM (endOf cols dead down ks).marks, m.sign < 128 := fun m hm => h.signs m (sortM_mem.mp hm)
  unfold m_look_of g_look_of
  have e1 : fComp (wSeq (eCall m_marks_of (aCons (eVar 0) (aCons (eVar 1) aNil)))) (.nm 3) bYes (eSl (eVar 3) (oSome (eC (.int 1))) oNone) [3] [some (machD cols dead down), some (.tup (ks.map Key.d)), none, none, none] S = .ok ((sortM (endOf cols dead down ks).marks).map tlD) S' := by
    unfold fComp
    have e4 : wSeq (eCall m_marks_of (aCons (eVar 0) (aCons (eVar 1) aNil))) [some (machD cols dead down), some (.tup (ks.map Key.d)), none, none, none] S = .ok (wkL ((sortM (endOf cols dead down ks).marks).map Mk.d)) S' := by simp [e]
    rw [e4, bind_ok]
    have e5 := fComp_M (fi := fun _ S => .ok (wkL ((sortM (endOf cols dead down ks).marks).map Mk.d)) S) (tg := .nm 3) (tt := bYes) (el := eSl (eVar 3) (oSome (eC (.int 1))) oNone) (own := [3]) (ρ := [some (machD cols dead down), some (.tup (ks.map Key.d)), none, none, none]) (S := S') (l := sortM (endOf cols dead down ks).marks) (g := Mk.d) (b := fun _ => true) (f := tlD) rfl (fun m _ => ⟨[some (machD cols dead down), some (.tup (ks.map Key.d)), none, some m.d, none], rfl, rfl, fun _ => by simp [Mk.d, Mk.tail]⟩) (by omega)
    rw [filter_true] at e5
    unfold fComp at e5
    exact e5
  have s1 : sSet 2 (eFrz (fComp (wSeq (eCall m_marks_of (aCons (eVar 0) (aCons (eVar 1) aNil)))) (.nm 3) bYes (eSl (eVar 3) (oSome (eC (.int 1))) oNone) [3])) [some (machD cols dead down), some (.tup (ks.map Key.d)), none, none, none] S = .nx [some (machD cols dead down), some (.tup (ks.map Key.d)), some (.lst ((sortM (endOf cols dead down ks).marks).map tlD)), none, none] S' := by
    exact set_e (frz_e e1)
  have e2 := lookM_comp (ρ := [some (machD cols dead down), some (.tup (ks.map Key.d)), some (.lst ((sortM (endOf cols dead down ks).marks).map tlD)), none, none]) (i := 2) (k := 4) (S := S') (l := sortM (endOf cols dead down ks).marks) rfl (Nat.le_refl 5) (by decide) hm hs
  rw [lookM_sort] at e2
  have s2 : sRet (eFrz (fComp (wSeq (eFrz (fSortSetD (eVar 2)))) (.nm 4) bYes (eOp addD (eVar 4) (eTup (aCons (eMm countM (eVar 2) (aCons (eVar 4) aNil)) aNil))) [4])) [some (machD cols dead down), some (.tup (ks.map Key.d)), some (.lst ((sortM (endOf cols dead down ks).marks).map tlD)), none, none] S' = .rt (.lst (lookM (endOf cols dead down ks).marks)) S' := by
    exact ret_e (frz_e e2)
  rw [callD2]
  show (sSeq _ _ [some (machD cols dead down), some (.tup (ks.map Key.d)), none, none, none] S).out = _
  rw [sSeq_eq, s1, seq_nx, s2]
  rfl
theorem look_spec (h : Made cols dead down ks) (hl : ks.length ≤ 76) (S : Store) :
    ∃ S', m_look [machD cols dead down, .tup (ks.map Key.d)] S = .ok (.lst (lookM (endOf cols dead down ks).marks)) S' ∧ Fr S S' S.length := by
  obtain ⟨S', e, f⟩ := look_of_spec h hl S
  refine ⟨S', ?_, f⟩
  unfold m_look g_look
  simp [need_both_spec h.m h.sig h.len S, e]
end
end Lw
/-! ## Pm25 -/
/-! Pm25: machines alike but for their counts. -/
namespace Lw
open PySem PySem.Spec PyProof.Rows L2 RZ Sm SmT
def Mk.er (m : Mk) : Mk := { m with n := 0 }
def PM.er (M : PM) : PM := { M with many := 0, rings := [], marks := M.marks.map Mk.er }
theorem er_tail (m : Mk) : m.er.tail = m.tail := rfl
theorem er_tails (l : List Mk) : (l.map Mk.er).map tlD = l.map tlD := by rw [List.map_map]; rfl
theorem offLast_er (q : Mk → Bool) (hq : ∀ m, q m.er = q m) : ∀ l : List Mk, offLast q (l.map Mk.er) = (offLast q l).map fun p => (p.1.er, p.2.map Mk.er)
  | [] => rfl
  | m :: l => by
    rw [List.map_cons]
    unfold offLast
    rw [offLast_er q hq l]
    cases h : offLast q l with
    | some p => rfl
    | none =>
      simp only [Option.map_none, hq]
      split <;> rfl
theorem onward_er (M : PM) (c : Nat) : (M.onward c).er = (M.er.onward c).er := by
  unfold PM.onward
  rw [show M.er.dead = M.dead from rfl]
  split
  · unfold PM.er; simp [Mk.er]
  · unfold PM.goOn PM.er; simp [Mk.er]
theorem er_er (M : PM) : M.er.er = M.er := by unfold PM.er; simp [Mk.er]
theorem strike_er (M : PM) (c : Nat) : (M.strike c).1 = (M.er.strike c).1 ∧ (M.strike c).2.er = (M.er.strike c).2.er := by
  unfold PM.strike
  rw [show M.er.locked (M.er.place + 2) = M.locked (M.place + 2) from rfl]
  split
  · exact ⟨rfl, (er_er M).symm⟩
  · refine ⟨rfl, ?_⟩
    rw [onward_er, onward_er ({ M.er with marks := M.er.marks ++ [M.er.mark c] })]
    congr 2
    unfold PM.er PM.mark
    simp [Mk.er]
theorem lift_er (M : PM) (c : Nat) : (M.lift c).1 = (M.er.lift c).1 ∧ (M.lift c).2.er = (M.er.lift c).2.er := by
  unfold PM.lift
  rw [show M.er.locked (M.er.place + 2) = M.locked (M.place + 2) from rfl]
  split
  · exact ⟨rfl, (er_er M).symm⟩
  · have e : offLast (M.er.mark c).at_ M.er.marks = (offLast (M.mark c).at_ M.marks).map fun p => (p.1.er, p.2.map Mk.er) :=
      offLast_er (M.mark c).at_ (fun m => rfl) M.marks
    rw [e]
    cases h : offLast (M.mark c).at_ M.marks with
    | some p =>
      refine ⟨rfl, ?_⟩
      dsimp only [Option.map_some]
      rw [onward_er, onward_er ({ M.er with marks := p.2.map Mk.er })]
      congr 2
      unfold PM.er
      simp [Mk.er]
    | none => exact ⟨rfl, onward_er M c⟩
theorem to_er (M : PM) (p : Int) : (M.to p).1 = (M.er.to p).1 ∧ (M.to p).2.er = (M.er.to p).2.er := by
  unfold PM.to
  rw [show M.er.locked p = M.locked p from rfl]
  split
  · exact ⟨rfl, (er_er M).symm⟩
  · exact ⟨rfl, by unfold PM.goOn PM.er; simp [Mk.er]⟩
theorem roll_er (M : PM) (r : Int) (b : Bool) : (M.rollTo r b).1 = (M.er.rollTo r b).1 ∧ (M.rollTo r b).2.er = (M.er.rollTo r b).2.er := by
  unfold PM.rollTo
  split
  · exact ⟨rfl, (er_er M).symm⟩
  · split
    · exact ⟨rfl, by unfold PM.er; simp [Mk.er]⟩
    · exact ⟨rfl, by unfold PM.er; simp [Mk.er]⟩
theorem word_er (M : PM) (w : Wd) : (M.word w).1 = (M.er.word w).1 ∧ (M.word w).2.er = (M.er.word w).2.er := by
  cases w with
  | blank => exact to_er M _
  | half => exact to_er M _
  | tab => exact to_er M _
  | ret => exact roll_er M _ _
  | up => exact roll_er M _ _
  | down => exact roll_er M _ _
  | back =>
    show (M.back).1 = (M.er.back).1 ∧ (M.back).2.er = (M.er.back).2.er
    unfold PM.back
    by_cases c : M.place - 2 < 0 ∨ (M.free = false ∧ M.place - 2 < M.lo ∧ M.lo ≤ M.place)
    · rw [if_pos c, if_pos (show M.er.place - 2 < 0 ∨ (M.er.free = false ∧ M.er.place - 2 < M.er.lo ∧ M.er.lo ≤ M.er.place) from c)]
      exact ⟨rfl, (er_er M).symm⟩
    · rw [if_neg c, if_neg (show ¬ (M.er.place - 2 < 0 ∨ (M.er.free = false ∧ M.er.place - 2 < M.er.lo ∧ M.er.lo ≤ M.er.place)) from c)]
      exact ⟨rfl, by unfold PM.er; simp [Mk.er]⟩
  | left =>
    unfold PM.word
    dsimp only
    by_cases c : M.place < M.hi
    · rw [if_pos c, if_pos (show M.er.place < M.er.hi from c)]
      exact ⟨rfl, by unfold PM.er; simp [Mk.er]⟩
    · rw [if_neg c, if_neg (show ¬ (M.er.place < M.er.hi) from c)]
      exact ⟨rfl, (er_er M).symm⟩
  | right =>
    unfold PM.word
    dsimp only
    by_cases c : M.lo < M.place
    · rw [if_pos c, if_pos (show M.er.lo < M.er.place from c)]
      exact ⟨rfl, by unfold PM.er; simp [Mk.er]⟩
    · rw [if_neg c, if_neg (show ¬ (M.er.lo < M.er.place) from c)]
      exact ⟨rfl, (er_er M).symm⟩
  | clear =>
    unfold PM.word
    dsimp only
    by_cases c : M.place ∈ M.tabs
    · rw [if_pos c, if_pos (show M.er.place ∈ M.er.tabs from c)]
      exact ⟨rfl, by unfold PM.er; simp [Mk.er]⟩
    · rw [if_neg c, if_neg (show ¬ (M.er.place ∈ M.er.tabs) from c)]
      exact ⟨rfl, (er_er M).symm⟩
  | set => exact ⟨rfl, by unfold PM.word PM.er; simp [Mk.er]⟩
  | all => exact ⟨rfl, by unfold PM.word PM.er; simp [Mk.er]⟩
  | free => exact ⟨rfl, by unfold PM.word PM.er; simp [Mk.er]⟩
  | ribbon => exact ⟨rfl, by unfold PM.word PM.er; simp [Mk.er]⟩
  | caps => exact ⟨rfl, by unfold PM.word PM.er; simp [Mk.er]⟩
theorem many_er (M : PM) (n : Int) : ({ M with many := n } : PM).er = M.er := rfl
theorem press_er (M : PM) (k : Key) : (M.press k).1 = (M.er.press k).1 ∧ (M.press k).2.er = (M.er.press k).2.er := by
  unfold PM.press
  cases k with
  | sign c => exact strike_er M c
  | lift c => exact lift_er M c
  | word w => exact word_er M w
/-- alike ones tell alike, and stay so -/
theorem press_al {M M' : PM} (h : M.er = M'.er) (k : Key) : (M.press k).1 = (M'.press k).1 ∧ (M.press k).2.er = (M'.press k).2.er := by
  obtain ⟨a1, a2⟩ := press_er M k
  obtain ⟨b1, b2⟩ := press_er M' k
  rw [a1, a2, b1, b2, h]; exact ⟨rfl, rfl⟩
theorem run_al : ∀ (ks : List Key) {M M' : PM}, M.er = M'.er → (M.run ks).1 = (M'.run ks).1 ∧ (M.run ks).2.er = (M'.run ks).2.er
  | [], _, _, h => ⟨rfl, h⟩
  | k :: ks, M, M', h => by
    obtain ⟨a, b⟩ := press_al h k
    obtain ⟨c, d⟩ := run_al ks b
    unfold PM.run
    dsimp only
    rw [a, c]
    exact ⟨rfl, d⟩
theorem al_stand {M M' : PM} (h : M.er = M'.er) : standD M = standD M' := by
  have : standD M = standD M.er := rfl
  rw [this, h]; rfl
theorem al_tails {M M' : PM} (h : M.er = M'.er) : M.marks.map tlD = M'.marks.map tlD := by
  have e : M.marks.map Mk.er = M'.marks.map Mk.er := congrArg PM.marks h
  rw [← er_tails, e, er_tails]
theorem al_look {M M' : PM} (h : M.er = M'.er) : lookM M.marks = lookM M'.marks := by
  unfold lookM
  rw [al_tails h]
/-- the bell's numbers only grow -/
theorem press_rings (M : PM) (k : Key) : ∃ t, (M.press k).2.rings = M.rings ++ t := by
  have go : ∀ p, ∃ t, (M.goOn p).rings = M.rings ++ t := fun p => by
    unfold PM.goOn
    dsimp only
    split
    · exact ⟨_, rfl⟩
    · exact ⟨[], (List.append_nil _).symm⟩
  have id_ : ∃ t, M.rings = M.rings ++ t := ⟨[], (List.append_nil _).symm⟩
  have to_ : ∀ p, ∃ t, (M.to p).2.rings = M.rings ++ t := fun p => by
    unfold PM.to
    split
    · exact id_
    · exact go p
  have roll_ : ∀ r b, ∃ t, (M.rollTo r b).2.rings = M.rings ++ t := fun r b => by
    unfold PM.rollTo
    split
    · exact id_
    · split <;> exact id_
  show ∃ t, (M.turn k).2.rings = M.rings ++ t
  cases k with
  | sign c =>
    show ∃ t, (M.strike c).2.rings = _
    unfold PM.strike
    split
    · exact id_
    · unfold PM.onward
      split
      · exact id_
      · exact go (M.place + 2)
  | lift c =>
    show ∃ t, (M.lift c).2.rings = _
    unfold PM.lift
    split
    · exact id_
    · split
      · unfold PM.onward
        split
        · exact id_
        · exact go (M.place + 2)
      · unfold PM.onward
        split
        · exact id_
        · exact go (M.place + 2)
  | word w =>
    cases w with
    | blank => exact to_ _
    | half => exact to_ _
    | tab => exact to_ _
    | ret => exact roll_ _ _
    | up => exact roll_ _ _
    | down => exact roll_ _ _
    | back =>
      show ∃ t, (M.back).2.rings = _
      unfold PM.back
      split <;> exact id_
    | left => show ∃ t, (M.word .left).2.rings = _; unfold PM.word; dsimp only; split <;> exact id_
    | right => show ∃ t, (M.word .right).2.rings = _; unfold PM.word; dsimp only; split <;> exact id_
    | clear => show ∃ t, (M.word .clear).2.rings = _; unfold PM.word; dsimp only; split <;> exact id_
    | set => exact id_
    | all => exact id_
    | free => exact id_
    | ribbon => exact id_
    | caps => exact id_
theorem run_rings : ∀ (ks : List Key) (M : PM), ∃ t, (M.run ks).2.rings = M.rings ++ t
  | [], M => ⟨[], (List.append_nil _).symm⟩
  | k :: ks, M => by
    obtain ⟨t, h⟩ := press_rings M k
    obtain ⟨u, g⟩ := run_rings ks (M.press k).2
    exact ⟨t ++ u, by show ((M.press k).2.run ks).2.rings = _; rw [g, h, List.append_assoc]⟩
/-- a key takes one mark off at most, if it lifts -/
def isLift : Key → Bool
  | .lift _ => true
  | _ => false
theorem press_least (M : PM) (k : Key) : M.marks.length ≤ (M.press k).2.marks.length + (if isLift k = true then 1 else 0) := by
  show M.marks.length ≤ (M.turn k).2.marks.length + _
  cases k with
  | sign c =>
    show M.marks.length ≤ (M.strike c).2.marks.length + _
    unfold PM.strike
    split
    · simp [isLift]
    · rw [(onward_keep _ c).2.1]; simp [isLift]
  | lift c =>
    show M.marks.length ≤ (M.lift c).2.marks.length + 1
    unfold PM.lift
    split
    · simp
    · split
      · rename_i k r h
        rw [(onward_keep _ c).2.1]
        have := (offLast_sub _ _ _ _ h).2.1
        simp only
        omega
      · rw [(onward_keep _ c).2.1]; omega
  | word w => 
    show M.marks.length ≤ (M.word w).2.marks.length + _
    rw [(word_keep M w).2.1]; simp [isLift]
theorem run_least : ∀ (ks : List Key) (M : PM), M.marks.length ≤ (M.run ks).2.marks.length + (ks.filter isLift).length
  | [], M => by simp [PM.run]
  | k :: ks, M => by
    have h1 := press_least M k
    have h2 := run_least ks (M.press k).2
    show M.marks.length ≤ ((M.press k).2.run ks).2.marks.length + _
    rw [List.filter_cons]
    by_cases c : isLift k = true
    · simp only [c, if_true, List.length_cons] at h1 ⊢; omega
    · simp only [c, if_false] at h1 ⊢
      simp at h1 ⊢
      omega
end Lw
/-! ## Pm26 -/
/-! Pm26: rows of keys put together; looks told alike. -/
namespace Lw
open PySem PySem.Spec PyProof.Rows L2 RZ Sm SmT
theorem bAnd_f {g g' : BM} {ρ : Ev} {S S1 : Store} (h : g ρ S = .ok false S1) : bAnd g g' ρ S = .ok false S1 := by
  simp [bAnd, h]
theorem bAnd_t {g g' : BM} {ρ : Ev} {S S1 : Store} {r : Res Bool} (h : g ρ S = .ok true S1) (h' : g' ρ S1 = r) : bAnd g g' ρ S = r := by
  simp [bAnd, h, h']
theorem run_fix : ∀ (ks : List Key) (M : PM), (M.run ks).2.fin = M.fin ∧ (M.run ks).2.dead = M.dead ∧ (M.run ks).2.down = M.down
  | [], M => ⟨rfl, rfl, rfl⟩
  | k :: ks, M => by
    obtain ⟨a, b, c⟩ := run_fix ks (M.press k).2
    obtain ⟨d, e, f, _⟩ := turn_fix M k
    exact ⟨a.trans d, b.trans e, c.trans f⟩
section
variable {cols : Int} {dead : List Nat} {down : Int}
theorem addC_flat {l : List Mk} (h : ∀ m ∈ l, m.sign < 128) {m : Mk} (hm : m ∈ l) (n : Nat) (q : List D) : D.flat (n + 2) (addC q (tlD m)) = true := by
  show D.flat (n + 2) (.tup (m.tail ++ [_])) = true
  rw [flat_tup]
  have h1 := tail_flat (h m hm) (n + 1)
  unfold Mk.tail at h1 ⊢
  simp [flats_cons, flats_nil, flat_int] at h1 ⊢
  exact h1
theorem flats_all {n : Nat} : ∀ {l : List D}, (∀ d ∈ l, D.flat n d = true) → D.flats n l = true
  | [], _ => by cases n <;> rfl
  | d :: l, h => by rw [flats_cons, h d List.mem_cons_self, flats_all fun x hx => h x (List.mem_cons_of_mem _ hx)]; rfl
theorem look_flat {l : List Mk} (h : ∀ m ∈ l, m.sign < 128) (n : Nat) : D.flats (n + 2) (lookM l) = true := by
  refine flats_all fun d hd => ?_
  unfold lookM lookL at hd
  obtain ⟨x, hx, rfl⟩ := List.mem_map.mp hd
  obtain ⟨m, hm, rfl⟩ := List.mem_map.mp (dedK_sub ((sortA_perm ltT _).mem_iff.mp hx))
  exact addC_flat h hm n _
theorem kapp {g1 g2 : EM} {ρ : Ev} {S : Store} {a b : List Key} (h1 : g1 ρ S = .ok (.tup (a.map Key.d)) S) (h2 : g2 ρ S = .ok (.tup (b.map Key.d)) S) (hl : a.length + b.length ≤ 10000) : eOp addD g1 g2 ρ S = .ok (.tup ((a ++ b).map Key.d)) S := by
  rw [List.map_append]
  exact eop h1 h2 (tcat S _ _ (by simp; omega))
theorem end_app (a b : List Key) : endOf cols dead down (a ++ b) = ((endOf cols dead down a).run b).2 := by
  unfold endOf
  rw [run_app]
theorem told_app (a b : List Key) : told cols dead down (a ++ b) = told cols dead down a ++ ((endOf cols dead down a).run b).1 := by
  unfold told endOf
  rw [run_app]
theorem Made.mk' (hm : Mok cols dead down) {ks : List Key} (hs : ∀ k ∈ ks, k.sig) (hl : ks.length ≤ 124) : Made cols dead down ks := ⟨hm, hs, by omega, tabs_new (by have := hm.c0; omega) dead down ks hl⟩
theorem sig_app {a b : List Key} (ha : ∀ k ∈ a, k.sig) (hb : ∀ k ∈ b, k.sig) : ∀ k ∈ a ++ b, k.sig := fun k hk => (List.mem_append.mp hk).elim (ha k) (hb k)
theorem sig_w (ws : List Wd) : ∀ k ∈ ws.map Key.word, k.sig := fun k hk => by
  obtain ⟨w, _, rfl⟩ := List.mem_map.mp hk
  trivial
theorem ne_look {S : Store} {M M' : PM} (h : M.er = M'.er) (hs : ∀ m ∈ M'.marks, m.sign < 128) : neD S (.lst (lookM M.marks)) (.lst (lookM M'.marks)) = some (.bl false) := by
  rw [al_look h]
  exact neD_self S rfl (by show D.flat 64 (.lst _) = true; rw [flat_lst]; exact look_flat hs 61)
end
end Lw
/-! ## Pm27 -/
/-! Pm27: the law's look; the keys that struck at a place. -/
namespace Lw
open PySem PySem.Spec PyProof.Rows L2 RZ Sm SmT
theorem llooks_spec {S : Store} {j : Nat} {c0 : Int} {ts : List Int} {M : PM} (h : LR S j c0 ts M) (hl : M.marks.length ≤ 76) (hs : ∀ m ∈ M.marks, m.sign < 128) :
    m__law_looks [.obj j] S = .ok (.lst (lookM M.marks)) S := by
  have h1 := h.dct
  have h2 := h.marks
  have e1 : fComp (wSeq (eOp dgetD (eVar 0) (eC (.str q_marks)))) (.nm 2) bYes (eSl (eVar 2) (oSome (eC (.int 1))) oNone) [2] [some (.obj j), none, none, none] S = .ok (M.marks.map tlD) S := by
    rw [fComp_MO (l := M.marks) (g := Mk.d) (b := fun _ => true) (f := tlD) (by simp [h1, h2]) h2 (fun m hm => ?_) (by omega), filter_true]
    exact ⟨[some (.obj j), none, some m.d, none], rfl, rfl, fun _ => by simp [Mk.d, Mk.tail]⟩
  have s1 : sSet 1 (eFrz (fComp (wSeq (eOp dgetD (eVar 0) (eC (.str q_marks)))) (.nm 2) bYes (eSl (eVar 2) (oSome (eC (.int 1))) oNone) [2])) [some (.obj j), none, none, none] S = .nx [some (.obj j), some (.lst (M.marks.map tlD)), none, none] S := set_e (frz_e e1)
  have e2 := lookM_comp (ρ := [some (.obj j), some (.lst (M.marks.map tlD)), none, none]) (i := 1) (k := 3) (S := S) (l := M.marks) rfl (Nat.le_refl 4) (by decide) hl hs
  unfold m__law_looks g__law_looks
  rw [callD1]
  show (sSeq _ _ [some (.obj j), none, none, none] S).out = _
  rw [sSeq_eq, s1, seq_nx, ret_e (frz_e e2)]
  rfl
/-- the numbers of the keys whose strikes stand at a place -/
def numsAt (l : List Mk) (r p : Int) : List D := (l.filter fun m => decide (m.row = r) && decide (m.place = p)).map fun m => .int m.n
theorem numsAt_flat (l : List Mk) (r p : Int) (n : Nat) : D.flat (n + 1) (.lst (numsAt l r p)) = true := by
  have e : numsAt l r p = ((l.filter fun m => decide (m.row = r) && decide (m.place = p)).map Mk.n).map D.int := by rw [List.map_map]; rfl
  rw [e]
  exact ints_flat _ n
theorem spot_eq (S : Store) (a b c d : Int) : eqD S (.tup [.int a, .int b]) (.tup [.int c, .int d]) = some (.bl (decide (a = c) && decide (b = d))) := by
  by_cases z1 : a = c
  · by_cases z2 : b = d
    · simp [eqD, flat_tup, flats_cons, flats_nil, flat_int, eqv_tup, eqvs_cons, eqvs_nil, eqv_int, z1, z2]
    · simp [eqD, flat_tup, flats_cons, flats_nil, flat_int, eqv_tup, eqvs_cons, eqvs_nil, eqv_int, z1, z2]
  · simp [eqD, flat_tup, flats_cons, flats_nil, flat_int, eqv_tup, eqvs_cons, eqvs_nil, eqv_int, z1]
/-- mark[1:3] == (row, place) -/
theorem nums_el {g : EM} {ρ : Ev} {S : Store} {i : Nat} {m : Mk} {r p : Int} (h : ρ[i]? = some (some m.d)) (hg : g ρ S = .ok (.tup [.int r, .int p]) S) :
    bE (eOp eqD (eSl (eVar i) (oSome (eC (.int 1))) (oSome (eC (.int 3)))) g) ρ S = .ok (decide (m.row = r) && decide (m.place = p)) S := by
  have h1 : eVar i ρ S = .ok m.d S := by unfold eVar; rw [h]
  exact bE_ (eop (sl_13 (a := .int m.n) (b := .int m.row) (c := .int m.place) (d := .str [m.sign]) (e := colD m.red) h1) hg (spot_eq S _ _ _ _))
section
variable {cols : Int} {dead : List Nat} {down : Int} {ks : List Key}
theorem strikers_spec (h : Made cols dead down ks) {r p : Int} (r0 : 0 ≤ r) (r1 : r ≤ 60) (p0 : 0 ≤ p) (p1 : p ≤ 2 * cols) (S : Store) :
    ∃ S', m_strikers [machD cols dead down, .tup (ks.map Key.d), .int r, .int p] S = .ok (.lst (numsAt (sortM (endOf cols dead down ks).marks) r p)) S' ∧ Fr S S' S.length := by
  obtain ⟨S', e, f⟩ := marks_of_spec h S
  refine ⟨S', ?_, f⟩
  have hl := h.ml
  have e2 : fComp (wSeq (eCall m_marks_of (aCons (eVar 0) (aCons (eVar 1) aNil)))) (.nm 4) (bE (eOp eqD (eSl (eVar 4) (oSome (eC (.int 1))) (oSome (eC (.int 3)))) (eTup (aCons (eVar 2) (aCons (eVar 3) aNil))))) (eOp ixD (eVar 4) (eC (.int 0))) [4] [some (machD cols dead down), some (.tup (ks.map Key.d)), some (.int r), some (.int p), none] S = .ok (numsAt (sortM (endOf cols dead down ks).marks) r p) S' := by
    unfold fComp
    have e4 : wSeq (eCall m_marks_of (aCons (eVar 0) (aCons (eVar 1) aNil))) [some (machD cols dead down), some (.tup (ks.map Key.d)), some (.int r), some (.int p), none] S = .ok (wkL ((sortM (endOf cols dead down ks).marks).map Mk.d)) S' := by
      unfold wSeq
      rw [call2 rfl rfl e]; rfl
    rw [e4, bind_ok]
    have e5 := fComp_M (fi := fun _ S => .ok (wkL ((sortM (endOf cols dead down ks).marks).map Mk.d)) S) (tg := .nm 4) (tt := bE (eOp eqD (eSl (eVar 4) (oSome (eC (.int 1))) (oSome (eC (.int 3)))) (eTup (aCons (eVar 2) (aCons (eVar 3) aNil))))) (el := eOp ixD (eVar 4) (eC (.int 0))) (own := [4]) (ρ := [some (machD cols dead down), some (.tup (ks.map Key.d)), some (.int r), some (.int p), none]) (S := S') (l := sortM (endOf cols dead down ks).marks) (g := Mk.d) (b := fun m => decide (m.row = r) && decide (m.place = p)) (f := fun m => .int m.n) rfl (fun m _ => ⟨[some (machD cols dead down), some (.tup (ks.map Key.d)), some (.int r), some (.int p), some m.d], rfl, nums_el rfl rfl, fun _ => rfl⟩) (by rw [sortM_len]; omega)
    unfold fComp at e5
    exact e5
  have w1 := is_whole_spec r 0 60 S
  have w2 := is_whole_spec p 0 (2 * cols) S
  rw [decide_eq_true r0, decide_eq_true r1] at w1
  rw [decide_eq_true p0, decide_eq_true p1] at w2
  have w3 := end_of_spec cols dead down S
  unfold m_strikers g_strikers
  simp [-wSeq, need_both_spec h.m h.sig h.len S, w1, w2, w3, e2]
theorem strikers_bad (h : Made cols dead down ks) {r p : D} (hr : plainD r = true) (hp : plainD p = true) (hb : wholeB r 0 60 = false ∨ wholeB p 0 (2 * cols) = false) (S : Store) :
    m_strikers [machD cols dead down, .tup (ks.map Key.d), r, p] S = .exc 4 S := by
  have w1 := is_whole_D hr 0 60 S
  have w2 := is_whole_D hp 0 (2 * cols) S
  have w3 := end_of_spec cols dead down S
  unfold m_strikers g_strikers
  cases c1 : wholeB r 0 60 with
  | false =>
    rw [c1] at w1
    simp [need_both_spec h.m h.sig h.len S, w1]
  | true =>
    rw [c1] at w1
    rcases hb with hb | hb
    · rw [c1] at hb; cases hb
    · rw [hb] at w2
      simp [need_both_spec h.m h.sig h.len S, w1, w2, w3]
theorem ask5_exc {k r p : D} {c : Nat} {S S' : Store} (h1 : 1 ≤ c) (h2 : c ≤ 10) (e : m_strikers [machD cols dead down, k, r, p] S = .exc c S') : m__law_ask_v5 [machD cols dead down, k, r, p] S = .ok (refD ((c - 1 : Nat) : Int)) S' := by
  unfold m__law_ask_v5 g__law_ask_v5
  simp [sTry, e, h1, h2, tagD, tagS]
theorem ask5_ok {k r p d : D} {S S' : Store} (e : m_strikers [machD cols dead down, k, r, p] S = .ok d S') : m__law_ask_v5 [machD cols dead down, k, r, p] S = .ok d S' := by
  unfold m__law_ask_v5 g__law_ask_v5
  simp [sTry, e]
end
end Lw
/-! ## Pm28 -/
/-! Pm28: what keys leave, by the program and by the law; comprehensions over calls; while. -/
namespace Lw
open PySem PySem.Spec PyProof.Rows L2 RZ Sm SmT
/-- a comprehension whose parts go on with the store -/
theorem fComp_Q {α : Type} {fi : WM} {tg : Tg} {tt : BM} {el : EM} {own : List Nat} {ρ : Ev} {S S0 : Store} {w : Wk} {l : List α} {g : α → D} {b : α → Bool} {f : α → D} (Q : Store → Prop) (hf : fi ρ S = .ok w S0) (h0 : Q S0) (hn : w.n = l.length) (hcur : ∀ S i, i < l.length → w.cur S i = (l.map g)[i]?) (hfin : ∀ S, w.fin S = true)
    (h : ∀ a ∈ l, ∀ S, Q S → ∃ ρ1 S1, tg.put (g a) (wipeE ρ own) = some ρ1 ∧ tt ρ1 S = .ok (b a) S1 ∧ Q S1 ∧ (b a = true → ∃ S2, el ρ1 S1 = .ok (f a) S2 ∧ Q S2)) (hl : l.length ≤ 16777216) :
    ∃ S', fComp fi tg tt el own ρ S = .ok ((l.filter b).map f) S' ∧ Q S' := by
  obtain ⟨acc, S', e, e1, e2⟩ := fComp_inv (tg := tg) (tt := tt) (el := el) (own := own) hf (fun i acc S' => acc = ((l.take i).filter b).map f ∧ Q S') ⟨rfl, h0⟩ (fun i acc S' hi ⟨h1, h2⟩ => by
    rw [hn] at hi
    have ha : l[i]? = some l[i] := List.getElem?_eq_getElem hi
    obtain ⟨ρ1, S1, a1, a2, a3, a4⟩ := h l[i] (List.getElem_mem hi) S' h2
    refine ⟨g l[i], ρ1, b l[i], S1, by rw [hcur S' i hi, List.getElem?_map, ha]; rfl, a1, a2, fun hb => ?_, fun hb => ⟨?_, a3⟩⟩
    · obtain ⟨S2, b1, b2⟩ := a4 hb
      refine ⟨f l[i], S2, b1, ?_, ?_, b2⟩
      · rw [h1, List.length_map]
        have := List.length_filter_le b (l.take i)
        rw [List.length_take] at this
        omega
      · rw [h1, List.take_succ, ha, List.filter_append, List.map_append]
        simp [hb]
    · rw [h1, List.take_succ, ha, List.filter_append, List.map_append]
      simp [hb]) (fun acc S' _ => hfin S')
  rw [hn, List.take_length] at e1
  exact ⟨S', by rw [e, e1], e2⟩
theorem while_of {c : BM} {body : SM} {k : Nat} {ρ : Ev} {S : Store} {r : SR} (h : whileM c body k ρ S = r) (hr : r ≠ .stuck) : sWhile c body ρ S = r := by
  have hx : ∃ k, whileM c body k ρ S ≠ .stuck := ⟨k, by rw [h]; exact hr⟩
  unfold sWhile
  rw [dif_pos hx]
  have h1 := while_more c body hx.choose k ρ S hx.choose_spec
  have h2 := while_more c body k hx.choose ρ S (by rw [h]; exact hr)
  rw [← h1, Nat.add_comm, h2, h]
/-- the law's machine behind keys, of a list or a tuple -/
theorem lworked_any (cols : Int) (dead : List Nat) (down : Int) (ks : List Key) (kd : D) (hkd : ∀ S, wkOf S kd = some (wkL (ks.map Key.d))) (h0 : 0 ≤ cols) (h1 : cols ≤ 40) (hd : low dead = true) (hk : ∀ k ∈ ks, k.ok) (hl : ks.length ≤ 16000000) (T : TabsOk (PM.new cols dead down) ks) (S : Store) :
    ∃ ts S', m__law_worked [machD cols dead down, .tup [], kd] S = .ok (.tup [.obj S.length, .lst ((PM.new cols dead down).run ks).1]) S' ∧ LR S' S.length cols ts ((PM.new cols dead down).run ks).2 ∧ TR ts ((PM.new cols dead down).run ks).2 ∧ Fr S S' S.length := by
  unfold m__law_worked g__law_worked
  have e1 := lnew_spec cols dead down S
  have R := new_lr cols dead down S
  generalize hS1 : S ++ [O.dct (LD cols [] (PM.new cols dead down) S.length), .lst [], .lst []] = S1 at e1 R
  have f0 : Fr S S1 S.length := by rw [← hS1]; exact Fr.refl.app (Nat.le_refl _)
  obtain ⟨t, S2, e2, R2, T2, f2⟩ := lkeys_go (c0 := cols) (ρ0 := [some (machD cols dead down), some (.tup []), some kd, some (.obj S.length), none, none]) (w := wkL (ks.map Key.d)) (j := S.length) (xs := ks) (fun _ _ => rfl) (fun _ => rfl) rfl (by simp) hl ks 0 S1 _ _ [] rfl (by simp) R
    ⟨by simp, by simp [PM.new]⟩ (new_in h0 dead down) (by show 2 * cols ≤ 80; omega) ⟨hd, fun m h => by simp [PM.new] at h, by simp [PM.new]; omega, by simp [PM.new]; omega⟩ hk T
  generalize hC : fComp (wSeq (eVar 2)) (.nm 5) bYes (eCall m__law_press (aCons (eVar 3) (aCons (eVar 5) aNil))) [5] = C
  have hcomp : C [some (machD cols dead down), some (.tup []), some kd, some (.obj S.length), none, none] S1 = .ok ((PM.new cols dead down).run ks).1 S2 := by
    rw [← hC]
    unfold fComp
    simp only [wSeq, eVar, List.getElem?_cons_succ, List.getElem?_cons_zero, bind_ok, hkd, giveW, wipeE, List.set_cons_succ, List.set_cons_zero]
    have : (wkL (ks.map Key.d)).n = ks.length := by simp [wkL]
    rw [this]
    rw [e2]
    simp
  refine ⟨t, S2, ?_, R2, T2, f0.trans f2⟩
  simp [e1, hcomp]
def leftD (M : PM) : D := .tup [.lst (lookM M.marks), standD M]
/-- whether two machines have left the same -/
def lf (M M' : PM) : Bool := D.eqv (leftD M) (leftD M')
theorem left_flat {M : PM} (h : ∀ m ∈ M.marks, m.sign < 128) (n : Nat) : D.flat (n + 4) (leftD M) = true := by
  unfold leftD
  rw [flat_tup, flats_cons, flats_cons, flats_nil, flat_lst, stand_flat M (n + 1), look_flat h n]; rfl
theorem left_eq (S : Store) {M M' : PM} (h : ∀ m ∈ M.marks, m.sign < 128) (h' : ∀ m ∈ M'.marks, m.sign < 128) : eqD S (leftD M) (leftD M') = some (.bl (lf M M')) := by
  unfold eqD
  show (if (D.flat 64 (leftD M) && D.flat 64 (leftD M')) = true then _ else _) = _
  rw [left_flat h 60, left_flat h' 60]; rfl
theorem lf_self {M : PM} (h : ∀ m ∈ M.marks, m.sign < 128) : lf M M = true := eqv_self 64 _ (left_flat h 60)
theorem al_left {M M' : PM} (h : M.er = M'.er) : leftD M = leftD M' := by
  unfold leftD
  rw [al_stand h, al_look h]
theorem lf_split {M M' : PM} (h : lf M M' = true) : D.eqv (.lst (lookM M.marks)) (.lst (lookM M'.marks)) = true ∧ D.eqv (standD M) (standD M') = true := by
  unfold lf leftD at h
  rw [eqv_tup, eqvs_cons, eqvs_cons, eqvs_nil, Bool.and_true, Bool.and_eq_true] at h
  exact h
section
variable {cols : Int} {dead : List Nat} {down : Int} {ks : List Key}
theorem left_by_spec (h : Made cols dead down ks) (hl : ks.length ≤ 76) (S : Store) : ∃ S', m_left_by [machD cols dead down, .tup (ks.map Key.d)] S = .ok (leftD (endOf cols dead down ks)) S' ∧ Fr S S' S.length := by
  obtain ⟨S1, e1, f1⟩ := look_of_spec h hl S
  obtain ⟨t, S2, e2, R, f2⟩ := h.worked S1
  refine ⟨S2, ?_, f1.up f2⟩
  have h1 := R.ins
  unfold m_left_by g_left_by
  simp [e1, e2, h1, stand_spec R, leftD]
theorem lboth_spec (h : Made cols dead down ks) (hl : ks.length ≤ 76) (kd : D) (hkd : ∀ S, wkOf S kd = some (wkL (ks.map Key.d))) (S : Store) : ∃ S', m__law_both [machD cols dead down, kd] S = .ok (leftD (endOf cols dead down ks)) S' ∧ Fr S S' S.length := by
  have c0 := h.m.c0
  obtain ⟨ts, S2, e2, R, TR, f2⟩ := lworked_any cols dead down ks kd hkd (by omega) h.m.c1 h.m.low h.ok (by omega) h.tabs S
  refine ⟨S2, ?_, f2⟩
  have hm : ((PM.new cols dead down).run ks).2.marks.length ≤ 76 := by
    have := run_ml ks (PM.new cols dead down)
    rw [show (PM.new cols dead down).marks = [] from rfl, List.length_nil] at this
    omega
  have e3 := llooks_spec R hm h.signs
  have e4 := lstand_spec R TR h.in_.up
  unfold m__law_both g__law_both
  simp [e2, e3, e4, leftD]
theorem need_few_ok (h : Made cols dead down ks) (hl : ks.length ≤ 60) (S : Store) : m_need_few [machD cols dead down, .tup (ks.map Key.d)] S = .ok .non S := by
  unfold m_need_few g_need_few
  have : ¬ (60 : Int) < (ks.length : Int) := by omega
  simp [need_both_spec h.m h.sig h.len S, this]
theorem need_few_bad (h : Mok cols dead down) (hs : ∀ k ∈ ks, k.sig) (hl : 60 < ks.length) (hl2 : ks.length ≤ 4000) (S : Store) : m_need_few [machD cols dead down, .tup (ks.map Key.d)] S = .exc 2 S := by
  unfold m_need_few g_need_few
  have : (60 : Int) < (ks.length : Int) := by omega
  simp [need_both_spec h hs hl2 S, this]
/-- the row without one key -/
abbrev less (ks : List Key) (i : Nat) : List Key := ks.take i ++ ks.drop (i + 1)
theorem Made.less (h : Made cols dead down ks) (hl : ks.length ≤ 124) (i : Nat) : Made cols dead down (less ks i) := Made.mk' h.m (fun k hk => by
  rcases List.mem_append.mp hk with z | z
  · exact h.sig k (List.mem_of_mem_take z)
  · exact h.sig k (List.mem_of_mem_drop z)) (by unfold Lw.less; rw [List.length_append, List.length_take, List.length_drop]; omega)
theorem less_len (ks : List Key) (i : Nat) : (less ks i).length ≤ ks.length := by
  unfold less; rw [List.length_append, List.length_take, List.length_drop]; omega
/-- keys[:i] + keys[i + 1:], of a tuple or a list -/
theorem less_expr {g h : EM} {ρ : Ev} {S : Store} {i : Nat} (hi : i < ks.length) (hg : g ρ S = .ok (.tup (ks.map Key.d)) S) (hh : h ρ S = .ok (.int (i : Int)) S) (hl : ks.length ≤ 10000) :
    eOp addD (eSl g oNone (oSome h)) (eSl g (oSome (eOp addD h (eC (.int 1)))) oNone) ρ S = .ok (.tup ((less ks i).map Key.d)) S := by
  have a : eSl g oNone (oSome h) ρ S = .ok (.tup ((ks.take i).map Key.d)) S := by
    simp only [eSl, hg, bind_ok, oNone, oSome, hh]
    show give (some (D.tup (cutD (ks.map Key.d) none (some (i : Int))))) S = _
    rw [cut_to, ← List.map_take]; rfl
  have b : eSl g (oSome (eOp addD h (eC (.int 1)))) oNone ρ S = .ok (.tup ((ks.drop (i + 1)).map Key.d)) S := by
    have e : eOp addD h (eC (.int 1)) ρ S = .ok (.int ((i + 1 : Nat) : Int)) S := eop hh rfl (by show some (D.int _) = _; push_cast; rfl)
    simp only [eSl, hg, bind_ok, oNone, oSome, e]
    show give (some (D.tup (cutD (ks.map Key.d) (some ((i + 1 : Nat) : Int)) none))) S = _
    rw [cut_drop _ _ (by rw [List.length_map]; omega), ← List.map_drop]; rfl
  rw [List.map_append]
  exact eop a b (tcat S _ _ (by rw [List.length_map, List.length_map, List.length_take, List.length_drop]; omega))
theorem less_exprL {g h : EM} {ρ : Ev} {S : Store} {i : Nat} (hi : i < ks.length) (hg : g ρ S = .ok (.lst (ks.map Key.d)) S) (hh : h ρ S = .ok (.int (i : Int)) S) (hl : ks.length ≤ 10000) :
    eOp addD (eSl g oNone (oSome h)) (eSl g (oSome (eOp addD h (eC (.int 1)))) oNone) ρ S = .ok (.lst ((less ks i).map Key.d)) S := by
  have a : eSl g oNone (oSome h) ρ S = .ok (.lst ((ks.take i).map Key.d)) S := by
    simp only [eSl, hg, bind_ok, oNone, oSome, hh]
    show give (some (D.lst (cutD (ks.map Key.d) none (some (i : Int))))) S = _
    rw [cut_to, ← List.map_take]; rfl
  have b : eSl g (oSome (eOp addD h (eC (.int 1)))) oNone ρ S = .ok (.lst ((ks.drop (i + 1)).map Key.d)) S := by
    have e : eOp addD h (eC (.int 1)) ρ S = .ok (.int ((i + 1 : Nat) : Int)) S := eop hh rfl (by show some (D.int _) = _; push_cast; rfl)
    simp only [eSl, hg, bind_ok, oNone, oSome, e]
    show give (some (D.lst (cutD (ks.map Key.d) (some ((i + 1 : Nat) : Int)) none))) S = _
    rw [cut_drop _ _ (by rw [List.length_map]; omega), ← List.map_drop]; rfl
  rw [List.map_append]
  exact eop a b (lcat S _ _ (by rw [List.length_map, List.length_map, List.length_take, List.length_drop]; omega))
/-- the numbers of the needless keys -/
def needL (cols : Int) (dead : List Nat) (down : Int) (ks : List Key) : List D := ((List.range ks.length).filter fun i => lf (endOf cols dead down (less ks i)) (endOf cols dead down ks)).map fun (i : Nat) => .int (i : Int)
theorem needL_flat (n : Nat) : D.flat (n + 1) (.lst (needL cols dead down ks)) = true := by
  rw [flat_lst]
  refine flats_all fun d hd => ?_
  obtain ⟨i, _, rfl⟩ := List.mem_map.mp hd
  exact flat_int _ _
theorem rngL_map (n : Nat) : rngL 0 n = (List.range n).map fun (i : Nat) => D.int (i : Int) := by
  unfold rngL
  exact List.map_congr_left fun i _ => by rw [Int.zero_add]
theorem needless_spec (h : Made cols dead down ks) (hl : ks.length ≤ 60) (S : Store) : ∃ S', m_needless [machD cols dead down, .tup (ks.map Key.d)] S = .ok (.lst (needL cols dead down ks)) S' ∧ Fr S S' S.length := by
  have e0 := need_few_ok h hl S
  obtain ⟨S1, e1, f1⟩ := left_by_spec h (by omega) S
  have sg := h.signs
  have hfi : wR1 (eB lenD (aCons (eVar 1) aNil)) [some (machD cols dead down), some (.tup (ks.map Key.d)), some (leftD (endOf cols dead down ks)), none] S1 = .ok (wkL (rngL 0 ks.length)) S1 := by
    have hR := wkR1_int (v := (ks.length : Int)) (by omega) (by omega)
    rw [Int.toNat_natCast] at hR
    unfold wR1
    rw [eB1 (d := .int (ks.length : Int)) rfl (by show lenD S1 [.tup _] = _; simp), bind_ok, hR]; rfl
  obtain ⟨S2, e2, f2⟩ := fComp_Q (tg := .nm 3) (tt := bE (eOp eqD (eCall m_left_by (aCons (eVar 0) (aCons (eOp addD (eSl (eVar 1) oNone (oSome (eVar 3))) (eSl (eVar 1) (oSome (eOp addD (eVar 3) (eC (.int 1)))) oNone)) aNil))) (eVar 2))) (el := eVar 3) (own := [3]) (l := List.range ks.length) (g := fun (i : Nat) => .int (i : Int)) (b := fun i => lf (endOf cols dead down (less ks i)) (endOf cols dead down ks)) (f := fun (i : Nat) => .int (i : Int)) (fun S' => Fr S1 S' S1.length) hfi Fr.refl (by rw [rngL_n, List.length_range]) (fun S i hi => by rw [← rngL_map]; rfl) (fun _ => rfl)
    (fun i hi S' hS' => by
      have hi2 := List.mem_range.mp hi
      have hm := h.less (by omega) i
      obtain ⟨S2, g1, g2⟩ := left_by_spec hm (by have := less_len ks i; omega) S'
      exact ⟨[some (machD cols dead down), some (.tup (ks.map Key.d)), some (leftD (endOf cols dead down ks)), some (.int (i : Int))], S2, rfl, bE_ (eop (call2 rfl (less_expr hi2 rfl rfl (by omega)) g1) rfl (left_eq S2 hm.signs sg)), hS'.trans ⟨g2.len, fun k hk => g2.keep k (by have := hS'.len; omega)⟩, fun _ => ⟨S2, rfl, hS'.trans ⟨g2.len, fun k hk => g2.keep k (by have := hS'.len; omega)⟩⟩⟩) (by rw [List.length_range]; omega)
  refine ⟨S2, ?_, f1.up f2⟩
  unfold m_needless g_needless
  have s1 : sExpr (eCall m_need_few (aCons (eVar 0) (aCons (eVar 1) aNil))) [some (machD cols dead down), some (.tup (ks.map Key.d)), none, none] S = .nx [some (machD cols dead down), some (.tup (ks.map Key.d)), none, none] S := by
    unfold sExpr
    rw [call2 rfl rfl e0]; rfl
  have s2 : sSet 2 (eCall m_left_by (aCons (eVar 0) (aCons (eVar 1) aNil))) [some (machD cols dead down), some (.tup (ks.map Key.d)), none, none] S = .nx [some (machD cols dead down), some (.tup (ks.map Key.d)), some (leftD (endOf cols dead down ks)), none] S1 := set_e (call2 rfl rfl e1)
  rw [callD2]
  show (sSeq _ _ [some (machD cols dead down), some (.tup (ks.map Key.d)), none, none] S).out = _
  rw [sSeq_eq, s1, seq_nx, sSeq_eq, s2, seq_nx, ret_e (frz_e e2)]
  rfl
end
end Lw
/-! ## Pm29 -/
/-! Pm29: rows made lean. -/
namespace Lw
open PySem PySem.Spec PyProof.Rows L2 RZ Sm SmT
/-- from the first key on: each that is needless in what is left is left out -/
def leanGo (g : List Key → Bool) : List Key → List Key → List Key
  | pre, [] => pre
  | pre, k :: rest => if g (pre ++ rest) = true then leanGo g pre rest else leanGo g (pre ++ [k]) rest
theorem leanGo_cons (g : List Key → Bool) (pre : List Key) (k : Key) (rest : List Key) : leanGo g pre (k :: rest) = if g (pre ++ rest) = true then leanGo g pre rest else leanGo g (pre ++ [k]) rest := rfl
theorem leanGo_sub (g : List Key → Bool) : ∀ (rest pre : List Key), (leanGo g pre rest).Sublist (pre ++ rest)
  | [], pre => by rw [List.append_nil]; exact List.Sublist.refl _
  | k :: rest, pre => by
    unfold leanGo
    split
    · exact (leanGo_sub g rest pre).trans ((List.Sublist.refl pre).append (List.sublist_cons_self k rest))
    · have := leanGo_sub g rest (pre ++ [k])
      rw [List.append_assoc] at this
      exact this
theorem leanGo_g (g : List Key → Bool) : ∀ (rest pre : List Key), g (pre ++ rest) = true → g (leanGo g pre rest) = true
  | [], pre, h => by rw [List.append_nil] at h; exact h
  | k :: rest, pre, h => by
    unfold leanGo
    split
    · rename_i c
      exact leanGo_g g rest pre c
    · refine leanGo_g g rest (pre ++ [k]) ?_
      rw [List.append_assoc]; exact h
theorem less_mid (pre : List Key) (k : Key) (rest : List Key) : less (pre ++ k :: rest) pre.length = pre ++ rest := by
  unfold less
  rw [List.take_left, show pre ++ k :: rest = (pre ++ [k]) ++ rest by simp, show pre.length + 1 = (pre ++ [k]).length by simp, List.drop_left]
section
variable {cols : Int} {dead : List Nat} {down : Int} {ks : List Key}
/-- whether keys leave what others leave -/
def lg (cols : Int) (dead : List Nat) (down : Int) (ks l : List Key) : Bool := lf (endOf cols dead down l) (endOf cols dead down ks)
def leanK (cols : Int) (dead : List Nat) (down : Int) (ks : List Key) : List Key := leanGo (lg cols dead down ks) [] ks
theorem leanK_sub : (leanK cols dead down ks).Sublist ks := by
  have := leanGo_sub (lg cols dead down ks) ks []
  rwa [List.nil_append] at this
theorem Made.leanK (h : Made cols dead down ks) (hl : ks.length ≤ 124) : Made cols dead down (leanK cols dead down ks) := Made.mk' h.m (fun k hk => h.sig k (leanK_sub.subset hk)) (by have := leanK_sub (cols := cols) (dead := dead) (down := down) (ks := ks).length_le; omega)
theorem leanK_lf (h : Made cols dead down ks) : lf (endOf cols dead down (leanK cols dead down ks)) (endOf cols dead down ks) = true :=
  leanGo_g (lg cols dead down ks) ks [] (by rw [List.nil_append]; exact lf_self h.signs)
abbrev lnE (cols : Int) (dead : List Nat) (down : Int) (G : D) (l : List Key) (n : Nat) (a4 : Option D) : Ev := [some (machD cols dead down), some (.tup (l.map Key.d)), some G, some (.int (n : Int)), a4]
abbrev lnC : BM := bE (eOp ltD (eVar 3) (eB lenD (aCons (eVar 1) aNil)))
abbrev lnB : SM := sSeq (sSet 4 (eOp addD (eSl (eVar 1) oNone (oSome (eVar 3))) (eSl (eVar 1) (oSome (eOp addD (eVar 3) (eC (.int 1)))) oNone)))
    (sIf (bE (eOp eqD (eCall m_left_by (aCons (eVar 0) (aCons (eVar 4) aNil))) (eVar 2))) (sSet 1 (eVar 4)) (sSet 3 (eOp addD (eVar 3) (eC (.int 1)))))
theorem lean_loop (h : Made cols dead down ks) (hl : ks.length ≤ 60) : ∀ (rest pre : List Key) (a4 : Option D) (S : Store), (pre ++ rest).Sublist ks →
    ∃ a4' S', whileM lnC lnB (rest.length + 1) (lnE cols dead down (leftD (endOf cols dead down ks)) (pre ++ rest) pre.length a4) S = .nx (lnE cols dead down (leftD (endOf cols dead down ks)) (leanGo (lg cols dead down ks) pre rest) (leanGo (lg cols dead down ks) pre rest).length a4') S' ∧ Fr S S' S.length
  | [], pre, a4, S, hs => by
    refine ⟨a4, S, ?_, Fr.refl⟩
    have t : lnC (lnE cols dead down (leftD (endOf cols dead down ks)) (pre ++ []) pre.length a4) S = .ok false S := by
      refine bE_ (eop rfl (eB1 (d := .int (((pre ++ []).length : Nat) : Int)) rfl (by show lenD S [.tup _] = _; simp)) ?_)
      show some (D.bl (decide _)) = _
      rw [decide_eq_false (by simp)]
    unfold whileM
    rw [t]
    show SR.nx _ S = _
    rw [List.append_nil]; rfl
  | k :: rest, pre, a4, S, hs => by
    have hsl := hs.length_le
    have hnl : (pre ++ k :: rest).length = pre.length + rest.length + 1 := by simp; omega
    have t : lnC (lnE cols dead down (leftD (endOf cols dead down ks)) (pre ++ k :: rest) pre.length a4) S = .ok true S := by
      refine bE_ (eop rfl (eB1 (d := .int (((pre ++ k :: rest).length : Nat) : Int)) rfl (by show lenD S [.tup _] = _; simp)) ?_)
      show some (D.bl (decide _)) = _
      rw [decide_eq_true (by rw [hnl]; omega)]
    have hsub : (pre ++ rest).Sublist ks := ((List.Sublist.refl pre).append (List.sublist_cons_self k rest)).trans hs
    have hm : Made cols dead down (pre ++ rest) := Made.mk' h.m (fun q hq => h.sig q (hsub.subset hq)) (by have := hsub.length_le; omega)
    obtain ⟨S1, g1, f1⟩ := left_by_spec hm (by have := hsub.length_le; omega) S
    have b1 : sSet 4 (eOp addD (eSl (eVar 1) oNone (oSome (eVar 3))) (eSl (eVar 1) (oSome (eOp addD (eVar 3) (eC (.int 1)))) oNone)) (lnE cols dead down (leftD (endOf cols dead down ks)) (pre ++ k :: rest) pre.length a4) S = .nx (lnE cols dead down (leftD (endOf cols dead down ks)) (pre ++ k :: rest) pre.length (some (.tup ((pre ++ rest).map Key.d)))) S := by
      refine set_e ?_
      have := less_expr (ks := pre ++ k :: rest) (g := eVar 1) (h := eVar 3) (ρ := lnE cols dead down (leftD (endOf cols dead down ks)) (pre ++ k :: rest) pre.length a4) (S := S) (i := pre.length) (by omega) rfl rfl (by omega)
      rw [less_mid] at this
      exact this
    have t2 : bE (eOp eqD (eCall m_left_by (aCons (eVar 0) (aCons (eVar 4) aNil))) (eVar 2)) (lnE cols dead down (leftD (endOf cols dead down ks)) (pre ++ k :: rest) pre.length (some (.tup ((pre ++ rest).map Key.d)))) S = .ok (lg cols dead down ks (pre ++ rest)) S1 := bE_ (eop (call2 rfl rfl g1) rfl (left_eq S1 hm.signs h.signs))
    have fr2 : ∀ {S2 : Store}, Fr S1 S2 S1.length → Fr S S2 S.length := fun f => f1.up f
    by_cases c : lg cols dead down ks (pre ++ rest) = true
    · obtain ⟨a, S2, e, f⟩ := lean_loop h hl rest pre (some (.tup ((pre ++ rest).map Key.d))) S1 hsub
      refine ⟨a, S2, ?_, fr2 f⟩
      rw [c] at t2
      have eb : lnB (lnE cols dead down (leftD (endOf cols dead down ks)) (pre ++ k :: rest) pre.length a4) S = .nx (lnE cols dead down (leftD (endOf cols dead down ks)) (pre ++ rest) pre.length (some (.tup ((pre ++ rest).map Key.d)))) S1 := by
        show sSeq _ _ _ _ = _
        rw [sSeq_eq, b1, seq_nx, if_t t2]; rfl
      rw [List.length_cons]
      unfold whileM
      rw [t]
      show (match lnB _ S with | .nx ρ2 S2 => _ | .ct ρ2 S2 => _ | .bk ρ2 S2 => _ | .rt d S2 => _ | .exc c ρ2 S2 => _ | .stuck => _) = _
      rw [eb]
      show whileM lnC lnB (rest.length + 1) _ S1 = _
      rw [e, leanGo_cons, if_pos c]
    · have hsub2 : ((pre ++ [k]) ++ rest).Sublist ks := by rw [List.append_assoc]; exact hs
      obtain ⟨a, S2, e, f⟩ := lean_loop h hl rest (pre ++ [k]) (some (.tup ((pre ++ rest).map Key.d))) S1 hsub2
      refine ⟨a, S2, ?_, fr2 f⟩
      rw [show lg cols dead down ks (pre ++ rest) = false by simpa using c] at t2
      have eb : lnB (lnE cols dead down (leftD (endOf cols dead down ks)) (pre ++ k :: rest) pre.length a4) S = .nx (lnE cols dead down (leftD (endOf cols dead down ks)) ((pre ++ [k]) ++ rest) (pre ++ [k]).length (some (.tup ((pre ++ rest).map Key.d)))) S1 := by
        show sSeq _ _ _ _ = _
        rw [sSeq_eq, b1, seq_nx, if_f t2]
        have e3 : eOp addD (eVar 3) (eC (.int 1)) (lnE cols dead down (leftD (endOf cols dead down ks)) (pre ++ k :: rest) pre.length (some (.tup ((pre ++ rest).map Key.d)))) S1 = .ok (.int (((pre ++ [k]).length : Nat) : Int)) S1 := eop rfl rfl (by show some (D.int _) = _; simp)
        rw [set_e e3, List.append_assoc]; rfl
      rw [List.length_cons]
      unfold whileM
      rw [t]
      show (match lnB _ S with | .nx ρ2 S2 => _ | .ct ρ2 S2 => _ | .bk ρ2 S2 => _ | .rt d S2 => _ | .exc c ρ2 S2 => _ | .stuck => _) = _
      rw [eb]
      show whileM lnC lnB (rest.length + 1) _ S1 = _
      rw [e, leanGo_cons, if_neg c]
theorem lean_spec (h : Made cols dead down ks) (hl : ks.length ≤ 60) (S : Store) : ∃ S', m_lean [machD cols dead down, .tup (ks.map Key.d)] S = .ok (.tup ((leanK cols dead down ks).map Key.d)) S' ∧ Fr S S' S.length := by
  have e0 := need_few_ok h hl S
  obtain ⟨S1, e1, f1⟩ := left_by_spec h (by omega) S
  obtain ⟨a, S2, e2, f2⟩ := lean_loop h hl ks [] none S1 (by rw [List.nil_append]; exact List.Sublist.refl _)
  refine ⟨S2, ?_, f1.up f2⟩
  have e3 := while_of e2 (by intro z; cases z)
  unfold m_lean g_lean
  have s1 : sExpr (eCall m_need_few (aCons (eVar 0) (aCons (eVar 1) aNil))) [some (machD cols dead down), some (.tup (ks.map Key.d)), none, none, none] S = .nx [some (machD cols dead down), some (.tup (ks.map Key.d)), none, none, none] S := by
    unfold sExpr
    rw [call2 rfl rfl e0]; rfl
  have s2 : sSet 2 (eCall m_left_by (aCons (eVar 0) (aCons (eVar 1) aNil))) [some (machD cols dead down), some (.tup (ks.map Key.d)), none, none, none] S = .nx [some (machD cols dead down), some (.tup (ks.map Key.d)), some (leftD (endOf cols dead down ks)), none, none] S1 := set_e (call2 rfl rfl e1)
  have s3 : sSet 3 (eC (.int 0)) [some (machD cols dead down), some (.tup (ks.map Key.d)), some (leftD (endOf cols dead down ks)), none, none] S1 = .nx (lnE cols dead down (leftD (endOf cols dead down ks)) ([] ++ ks) ([] : List Key).length none) S1 := rfl
  rw [callD2]
  show (sSeq _ _ [some (machD cols dead down), some (.tup (ks.map Key.d)), none, none, none] S).out = _
  rw [sSeq_eq, s1, seq_nx, sSeq_eq, s2, seq_nx, sSeq_eq, s3, seq_nx, sSeq_eq, e3, seq_nx]
  rfl
end
end Lw
/-! ## Km06 -/
/-! Km06: machines held against one another; a long row. -/
namespace Lw
open PySem PySem.Spec PyProof.Rows L2 RZ Sm SmT
def nq (t1 t2 : List D) (n : Nat) : Bool := !(D.eqv (t1[n]?.getD .non) (t2[n]?.getD .non))
def diffL (t1 t2 : List D) (n : Nat) : List D := ((List.range n).filter (nq t1 t2)).map fun (i : Nat) => .int (i : Int)
theorem neD_flat (S : Store) {a b : D} (ha : deref S a = a) (hb : deref S b = b) (fa : D.flat 64 a = true) (fb : D.flat 64 b = true) : neD S a b = some (.bl (!(D.eqv a b))) := by
  unfold neD
  rw [ha, hb, fa, fb]; rfl
theorem flat_deref (S : Store) {a : D} (fa : D.flat 64 a = true) : deref S a = a := by
  cases a with
  | obj j => cases fa
  | _ => rfl
theorem flats_get {n : Nat} : ∀ {l : List D}, D.flats n l = true → ∀ d ∈ l, D.flat n d = true
  | [], _, _, hd => by cases hd
  | x :: l, h, d, hd => by
    rw [flats_cons, Bool.and_eq_true] at h
    rcases List.mem_cons.mp hd with e | e
    · rw [e]; exact h.1
    · exact flats_get h.2 d e
theorem diff_comp {fi : WM} {ρ : Ev} {S : Store} {i j k n : Nat} {t1 t2 : List D} (h1 : ρ[i]? = some (some (.lst t1))) (h2 : ρ[j]? = some (some (.lst t2))) (hk : k < ρ.length) (hik : i ≠ k) (hjk : j ≠ k) (hfi : fi ρ S = .ok (wkL (rngL 0 n)) S)
    (l1 : n = t1.length) (l2 : n = t2.length) (f1 : D.flats 64 t1 = true) (f2 : D.flats 64 t2 = true) (hn : n ≤ 10000) :
    fComp fi (.nm k) (bE (eOp neD (eOp ixD (eVar i) (eVar k)) (eOp ixD (eVar j) (eVar k)))) (eVar k) [k] ρ S = .ok (diffL t1 t2 n) S := by
  rw [rngL_map] at hfi
  refine fComp_M (l := List.range n) (g := fun (i : Nat) => .int (i : Int)) (b := nq t1 t2) (f := fun (i : Nat) => .int (i : Int)) hfi (fun q hq => ?_) (by rw [List.length_range]; omega)
  have hq2 := List.mem_range.mp hq
  refine ⟨(wipeE ρ [k]).set k (some (.int (q : Int))), put_nm _ _ _, ?_, fun _ => ?_⟩
  all_goals
    have ek : ((wipeE ρ [k]).set k (some (.int (q : Int))))[k]? = some (some (.int (q : Int))) := by
      rw [List.getElem?_set_self]
      unfold wipeE wipeE
      rw [List.length_set]
      exact hk
    have vk : eVar k ((wipeE ρ [k]).set k (some (.int (q : Int)))) S = .ok (.int (q : Int)) S := by unfold eVar; rw [ek]
  · have ei : ∀ {i : Nat} {d : D}, ρ[i]? = some (some d) → i ≠ k → eVar i ((wipeE ρ [k]).set k (some (.int (q : Int)))) S = .ok d S := fun {i d} h hne => by
      unfold eVar
      rw [List.getElem?_set_ne (Ne.symm hne)]
      unfold wipeE wipeE
      rw [List.getElem?_set_ne (Ne.symm hne), h]
    have q1 : q < t1.length := by omega
    have q2 : q < t2.length := by omega
    have x1 : ixD S (.lst t1) (.int (q : Int)) = some t1[q] := by
      show (match lstOf S (.lst t1) with | some xs => L2.atI xs (q : Int) | none => none) = _
      simp only [lstOf]
      rw [(atI_nat t1 q).2, List.getElem?_eq_getElem q1]
    have x2 : ixD S (.lst t2) (.int (q : Int)) = some t2[q] := by
      show (match lstOf S (.lst t2) with | some xs => L2.atI xs (q : Int) | none => none) = _
      simp only [lstOf]
      rw [(atI_nat t2 q).2, List.getElem?_eq_getElem q2]
    have g1 := flats_get f1 _ (List.getElem_mem q1)
    have g2 := flats_get f2 _ (List.getElem_mem q2)
    have : nq t1 t2 q = !(D.eqv t1[q] t2[q]) := by
      unfold nq
      rw [List.getElem?_eq_getElem q1, List.getElem?_eq_getElem q2]; rfl
    rw [this]
    exact bE_ (eop (eop (ei h1 hik) vk x1) (eop (ei h2 hjk) vk x2) (neD_flat S (flat_deref S g1) (flat_deref S g2) g1 g2))
  · exact vk
/-- the first one, or None -/
def firstD (l : List D) : D := l.headD .non
theorem first_ix (S : Store) (l : List D) : ixD S (.lst (l ++ [.non])) (.int 0) = some (firstD l) := by
  show (match lstOf S (.lst (l ++ [.non])) with | some xs => L2.atI xs ((0 : Nat) : Int) | none => none) = _
  simp only [lstOf]
  rw [(atI_nat _ 0).2]
  cases l <;> rfl
theorem diff_flat (t1 t2 : List D) (n : Nat) (k : Nat) : D.flat k (firstD (diffL t1 t2 n)) = true := by
  have : ∀ d ∈ diffL t1 t2 n, D.flat k d = true := fun d hd => by
    obtain ⟨i, _, rfl⟩ := List.mem_map.mp hd
    exact flat_int _ _
  generalize diffL t1 t2 n = l at this
  cases l with
  | nil => cases k <;> rfl
  | cons x l => exact this x List.mem_cons_self
theorem diff_self {t : List D} (h : D.flats 64 t = true) : diffL t t t.length = [] := by
  unfold diffL
  rw [List.filter_eq_nil_iff.mpr fun q hq => ?_]
  · rfl
  · have q1 := List.mem_range.mp hq
    unfold nq
    rw [List.getElem?_eq_getElem q1]
    simp only [Option.getD_some]
    rw [eqv_self 64 _ (flats_get h _ (List.getElem_mem q1))]
    simp
section
variable {cols cols2 : Int} {dead dead2 : List Nat} {down down2 : Int} {ks : List Key}
theorem told_flats (h : Made cols dead down ks) : D.flats 64 (told cols dead down ks) = true := run_flat 63 ks h.fit h.ok
theorem told_len (cols : Int) (dead : List Nat) (down : Int) (ks : List Key) : (told cols dead down ks).length = ks.length := run_len ks _
theorem parted_spec (h : Made cols dead down ks) (h2 : Made cols2 dead2 down2 ks) (S : Store) :
    ∃ S', m_parted [machD cols dead down, machD cols2 dead2 down2, .tup (ks.map Key.d)] S = .ok (firstD (diffL (told cols dead down ks) (told cols2 dead2 down2 ks) ks.length)) S' ∧ Fr S S' S.length := by
  obtain ⟨t1, S1, e1, R1, f1⟩ := h.worked S
  obtain ⟨t2, S2, e2, R2, f2⟩ := h2.worked S1
  refine ⟨S2, ?_, f1.up f2⟩
  have hl := h.len
  have n1 := need_machine_spec h.m S
  have n2 := need_machine_spec h2.m S
  have n3 := need_keys_spec h.sig h.len S
  have hR : wR1 (eB lenD (aCons (eVar 2) aNil)) [some (machD cols dead down), some (machD cols2 dead2 down2), some (.tup (ks.map Key.d)), none, some (.lst (told cols dead down ks)), some (.lst (told cols2 dead2 down2 ks)), none] S2 = .ok (wkL (rngL 0 ks.length)) S2 := by
    have hR := wkR1_int (v := (ks.length : Int)) (by omega) (by omega)
    rw [Int.toNat_natCast] at hR
    unfold wR1
    rw [eB1 (d := .int (ks.length : Int)) rfl (by show lenD S2 [.tup _] = _; simp), bind_ok, hR]; rfl
  have e3 := diff_comp (i := 4) (j := 5) (k := 6) (ρ := [some (machD cols dead down), some (machD cols2 dead2 down2), some (.tup (ks.map Key.d)), none, some (.lst (told cols dead down ks)), some (.lst (told cols2 dead2 down2 ks)), none]) rfl rfl (Nat.le_refl 7) (by decide) (by decide) hR (told_len ..).symm (told_len ..).symm (told_flats h) (told_flats h2) (by omega)
  unfold m_parted g_parted
  rw [callD3]
  have s1 : sExpr (eCall m_need_machine (aCons (eVar 0) aNil)) [some (machD cols dead down), some (machD cols2 dead2 down2), some (.tup (ks.map Key.d)), none, none, none, none] S = .nx [some (machD cols dead down), some (machD cols2 dead2 down2), some (.tup (ks.map Key.d)), none, none, none, none] S := by
    unfold sExpr; rw [call1 rfl n1]; rfl
  have s2 : sExpr (eCall m_need_machine (aCons (eVar 1) aNil)) [some (machD cols dead down), some (machD cols2 dead2 down2), some (.tup (ks.map Key.d)), none, none, none, none] S = .nx [some (machD cols dead down), some (machD cols2 dead2 down2), some (.tup (ks.map Key.d)), none, none, none, none] S := by
    unfold sExpr; rw [call1 rfl n2]; rfl
  have s3 : sExpr (eCall m_need_keys (aCons (eVar 2) aNil)) [some (machD cols dead down), some (machD cols2 dead2 down2), some (.tup (ks.map Key.d)), none, none, none, none] S = .nx [some (machD cols dead down), some (machD cols2 dead2 down2), some (.tup (ks.map Key.d)), none, none, none, none] S := by
    unfold sExpr; rw [call1 rfl n3]; rfl
  have s4 : sPar 4 5 (aCons (eOp ixD (eCall m_worked (aCons (eVar 0) (aCons (eTup aNil) (aCons (eVar 2) aNil)))) (eC (.int 1))) (aCons (eOp ixD (eCall m_worked (aCons (eVar 1) (aCons (eTup aNil) (aCons (eVar 2) aNil)))) (eC (.int 1))) aNil)) [some (machD cols dead down), some (machD cols2 dead2 down2), some (.tup (ks.map Key.d)), none, none, none, none] S = .nx [some (machD cols dead down), some (machD cols2 dead2 down2), some (.tup (ks.map Key.d)), none, some (.lst (told cols dead down ks)), some (.lst (told cols2 dead2 down2 ks)), none] S2 := by
    simp [e1, e2]
  show (sSeq _ _ [some (machD cols dead down), some (machD cols2 dead2 down2), some (.tup (ks.map Key.d)), none, none, none, none] S).out = _
  rw [sSeq_eq, s1, seq_nx, sSeq_eq, s2, seq_nx, sSeq_eq, s3, seq_nx, sSeq_eq, s4, seq_nx, sSeq_eq, set_e (frz_e e3), seq_nx]
  rw [ret_e (eop (eop rfl rfl (lcat S2 _ [.non] (by
    have := List.length_filter_le (nq (told cols dead down ks) (told cols2 dead2 down2 ks)) (List.range ks.length)
    unfold diffL
    rw [List.length_map]
    rw [List.length_range] at this
    simp; omega))) rfl (first_ix S2 _))]
  rfl
/-! ### a long row -/
def pairK (m : Nat) : List Key := (List.replicate m [Key.word .blank, Key.word .back]).flatten
theorem pairK_succ (m : Nat) : pairK (m + 1) = Key.word .blank :: Key.word .back :: pairK m := rfl
theorem pairK_len : ∀ m : Nat, (pairK m).length = 2 * m
  | 0 => rfl
  | m + 1 => by rw [pairK_succ, List.length_cons, List.length_cons, pairK_len m]; omega
theorem pairK_sig (m : Nat) : ∀ k ∈ pairK m, k.sig := fun k hk => by
  unfold pairK at hk
  obtain ⟨l, hl1, hl2⟩ := List.mem_flatten.mp hk
  obtain ⟨_, rfl⟩ := List.mem_replicate.mp hl1
  simp only [List.mem_cons, List.not_mem_nil, or_false] at hl2
  rcases hl2 with rfl | rfl <;> trivial
theorem new_back (hm : Mok cols dead down) {M : PM} (h : M.er = (PM.new cols dead down).er) : (M.press (.word .back)).2.er = (PM.new cols dead down).er := by
  rw [(press_al h _).2]
  simp [PM.new, PM.press, PM.turn, PM.word, PM.back, PM.er]
theorem new_blank_back (hm : Mok cols dead down) {M : PM} (h : M.er = (PM.new cols dead down).er) : (M.run [.word .blank, .word .back]).2.er = (PM.new cols dead down).er := by
  have c0 := hm.c0
  rw [(run_al _ h).2]
  have h1 : ¬ 2 * cols < 2 := by omega
  simp [PM.new, PM.run, PM.press, PM.turn, PM.word, PM.back, PM.to, PM.locked, PM.goOn, PM.er, h1]
theorem pair_er (hm : Mok cols dead down) : ∀ (m : Nat) {M : PM}, M.er = (PM.new cols dead down).er → (M.run (pairK m)).2.er = (PM.new cols dead down).er
  | 0, _, h => h
  | m + 1, M, h => by
    show ((M.run [.word .blank, .word .back]).2.run (pairK m)).2.er = _
    exact pair_er hm m (new_blank_back hm h)
theorem lean_long (hm : Mok cols dead down) (n : Nat) (hn : n ≤ 60) : ∀ m : Nat, leanGo (lg cols dead down (pairK n)) [] (pairK m) = []
  | 0 => rfl
  | m + 1 => by
    have hsg : ∀ m ∈ (endOf cols dead down (pairK n)).marks, m.sign < 128 := (Made.mk' hm (pairK_sig n) (by rw [pairK_len]; omega)).signs
    have e0 : (endOf cols dead down (pairK n)).er = (PM.new cols dead down).er := pair_er hm n rfl
    have key : ∀ l, (endOf cols dead down l).er = (PM.new cols dead down).er → lg cols dead down (pairK n) l = true := fun l hl => by
      unfold lg lf
      rw [al_left (hl.trans e0.symm)]
      exact eqv_self 64 _ (left_flat hsg 60)
    have k1 : lg cols dead down (pairK n) ([] ++ Key.word .back :: pairK m) = true := key _ (by
      show (((PM.new cols dead down).press (.word .back)).2.run (pairK m)).2.er = _
      exact pair_er hm m (new_back hm rfl))
    have k2 : lg cols dead down (pairK n) ([] ++ pairK m) = true := key _ (pair_er hm m rfl)
    rw [pairK_succ, leanGo_cons, if_pos k1, leanGo_cons, if_pos k2]
    exact lean_long hm n hn m
theorem same_look_spec {l : List Key} (h : Made cols dead down ks) (h2 : Made cols dead down l) (k1 : ks.length ≤ 76) (k2 : l.length ≤ 76) (S : Store) :
    ∃ S', m_same_look [machD cols dead down, .tup (ks.map Key.d), .tup (l.map Key.d)] S = .ok (.bl (D.eqv (.lst (lookM (endOf cols dead down ks).marks)) (.lst (lookM (endOf cols dead down l).marks)))) S' ∧ Fr S S' S.length := by
  obtain ⟨S1, e1, f1⟩ := look_of_spec h k1 S
  obtain ⟨S2, e2, f2⟩ := look_of_spec h2 k2 S1
  refine ⟨S2, ?_, f1.up f2⟩
  have x : eqD S2 (.lst (lookM (endOf cols dead down ks).marks)) (.lst (lookM (endOf cols dead down l).marks)) = some (.bl (D.eqv (.lst (lookM (endOf cols dead down ks).marks)) (.lst (lookM (endOf cols dead down l).marks)))) := by
    unfold eqD
    show (if (D.flat 64 (.lst _) && D.flat 64 (.lst _)) = true then _ else _) = _
    rw [flat_lst, flat_lst, look_flat h.signs 61, look_flat h2.signs 61]; rfl
  have y : eOp eqD (eCall m_look_of (aCons (eVar 0) (aCons (eVar 1) aNil))) (eCall m_look_of (aCons (eVar 0) (aCons (eVar 2) aNil))) [some (machD cols dead down), some (.tup (ks.map Key.d)), some (.tup (l.map Key.d))] S = .ok _ S2 := eop (call2 rfl rfl e1) (call2 rfl rfl e2) x
  unfold m_same_look g_same_look
  have n1 := need_both_spec h.m h.sig h.len S
  have n3 := need_keys_spec h2.sig h2.len S
  rw [callD3]
  show (sSeq _ _ [some (machD cols dead down), some (.tup (ks.map Key.d)), some (.tup (l.map Key.d))] S).out = _
  have s1 : sExpr (eCall m_need_both (aCons (eVar 0) (aCons (eVar 1) aNil))) [some (machD cols dead down), some (.tup (ks.map Key.d)), some (.tup (l.map Key.d))] S = .nx [some (machD cols dead down), some (.tup (ks.map Key.d)), some (.tup (l.map Key.d))] S := by
    unfold sExpr; rw [call2 rfl rfl n1]; rfl
  have s2 : sExpr (eCall m_need_keys (aCons (eVar 2) aNil)) [some (machD cols dead down), some (.tup (ks.map Key.d)), some (.tup (l.map Key.d))] S = .nx [some (machD cols dead down), some (.tup (ks.map Key.d)), some (.tup (l.map Key.d))] S := by
    unfold sExpr; rw [call1 rfl n3]; rfl
  rw [sSeq_eq, s1, seq_nx, sSeq_eq, s2, seq_nx, ret_e y]
  rfl
end
end Lw
/-! ## K06 -/
/-! K06: the law. -/
namespace Lw
open PySem PySem.Spec PyProof.Rows L2 RZ Sm SmT

section
variable {cols : Int} {dead : List Nat} {down : Int} {ks : List Key}
theorem ask6_need (h : Made cols dead down ks) (hl : ks.length ≤ 60) (S : Store) : ∃ S', m__law_ask_v6 [.int 0, machD cols dead down, .tup (ks.map Key.d)] S = .ok (.lst (needL cols dead down ks)) S' := by
  obtain ⟨S', e, _⟩ := needless_spec h hl S
  refine ⟨S', ?_⟩
  unfold m__law_ask_v6 g__law_ask_v6
  simp [sTry, e, eqD, flat_int, eqv_int]
theorem ask6_lean (h : Made cols dead down ks) (hl : ks.length ≤ 60) (S : Store) : ∃ S', m__law_ask_v6 [.int 1, machD cols dead down, .tup (ks.map Key.d)] S = .ok (.tup ((leanK cols dead down ks).map Key.d)) S' := by
  obtain ⟨S', e, _⟩ := lean_spec h hl S
  refine ⟨S', ?_⟩
  unfold m__law_ask_v6 g__law_ask_v6
  simp [sTry, e, eqD, flat_int, eqv_int]
theorem ask6_bad (h : Mok cols dead down) (hs : ∀ k ∈ ks, k.sig) (hl : 60 < ks.length) (hl2 : ks.length ≤ 4000) (n : Nat) (S : Store) : m__law_ask_v6 [.int (n : Int), machD cols dead down, .tup (ks.map Key.d)] S = .ok (refD 1) S := by
  have e := need_few_bad h hs hl hl2 S
  have e1 : m_needless [machD cols dead down, .tup (ks.map Key.d)] S = .exc 2 S := by
    unfold m_needless g_needless
    simp [e]
  have e2 : m_lean [machD cols dead down, .tup (ks.map Key.d)] S = .exc 2 S := by
    unfold m_lean g_lean
    simp [e]
  unfold m__law_ask_v6 g__law_ask_v6
  by_cases hn : n = 0
  · subst hn
    simp [sTry, e1, eqD, flat_int, eqv_int, tagD, tagS]
  · have : ((n : Int) == 0) = false := beq_false_of_ne (by omega)
    simp [sTry, e2, eqD, flat_int, eqv_int, this, tagD, tagS, hn]
end
theorem k06_b (ns : List Int) {cols cols2 : Int} {dead dead2 : List Nat} {down down2 : Int} (hm : Mok cols dead down) (hm2 : Mok cols2 dead2 down2) {ks : List Key} (hs : ∀ k ∈ ks, k.sig) (hl : ks.length ≤ 30) (a2 : D) (S : Store) :
    ∃ S', ((sSeq (sSet 4 (eCall m__law_both (aCons (eVar 12) (aCons (eVar 3) aNil)))) (sSeq (sSet 5 (eFrz (fComp (wR1 (eB lenD (aCons (eVar 3) aNil))) (.nm 7) (bE (eOp eqD (eCall m__law_both (aCons (eVar 12) (aCons (eOp addD (eSl (eVar 3) oNone (oSome (eVar 7))) (eSl (eVar 3) (oSome (eOp addD (eVar 7) (eC (.int 1)))) oNone)) aNil))) (eVar 4))) (eVar 7) [7]))) (sSeq (sIf (bE (eOp neD (eCall m__law_ask_v6 (aCons (eC (.int 0)) (aCons (eVar 12) (aCons (eVar 3) aNil)))) (eVar 5))) (sRet (eC (.bl false))) sNil) (sSeq (sSet 6 (eFrz (fB listD (aCons (eVar 3) aNil)))) (sSeq (sSet 7 (eC (.int 0))) (sSeq (sFor (wSeq (eVar 3)) (.nm 8) (sSeq (sSet 14 (eOp addD (eSl (eVar 6) oNone (oSome (eVar 7))) (eSl (eVar 6) (oSome (eOp addD (eVar 7) (eC (.int 1)))) oNone))) (sIf (bE (eOp eqD (eCall m__law_both (aCons (eVar 12) (aCons (eVar 14) aNil))) (eVar 4))) (sSet 6 (eVar 14)) (sSet 7 (eOp addD (eVar 7) (eC (.int 1))))))) (sSeq (sSet 9 (eCall m__law_ask_v6 (aCons (eC (.int 1)) (aCons (eVar 12) (aCons (eVar 3) aNil))))) (sSeq (sIf (bOr (bE (eOp neD (eVar 9) (eB tupD (aCons (eVar 6) aNil)))) (bOr (bE (eOp neD (eCall m_state (aCons (eVar 12) (aCons (eVar 9) aNil))) (eCall m_state (aCons (eVar 12) (aCons (eVar 3) aNil))))) (bNot (bE (eCall m_same_look (aCons (eVar 12) (aCons (eVar 9) (aCons (eVar 3) aNil)))))))) (sRet (eC (.bl false))) sNil) (sSeq (sPar 15 16 (aCons (eOp ixD (eCall m__law_worked (aCons (eVar 12) (aCons (eTup aNil) (aCons (eVar 3) aNil)))) (eC (.int 1))) (aCons (eOp ixD (eCall m__law_worked (aCons (eVar 13) (aCons (eTup aNil) (aCons (eVar 3) aNil)))) (eC (.int 1))) aNil))) (sSeq (sSet 10 (eFrz (fComp (wR1 (eB lenD (aCons (eVar 3) aNil))) (.nm 17) (bE (eOp neD (eOp ixD (eVar 15) (eVar 17)) (eOp ixD (eVar 16) (eVar 17)))) (eVar 17) [17]))) (sSeq (sIf (bOr (bE (eOp neD (eCall m_parted (aCons (eVar 12) (aCons (eVar 13) (aCons (eVar 3) aNil)))) (eOp ixD (eOp addD (eVar 10) (eFrz (fLst (aCons (eC .non) aNil)))) (eC (.int 0))))) (bE (eOp notNonD (eCall m_parted (aCons (eVar 12) (aCons (eVar 12) (aCons (eVar 3) aNil)))) (eC .non)))) (sRet (eC (.bl false))) sNil) (sSeq (sSet 11 (eOp mulT (eTup (aCons (eTup (aCons (eC (.str q_blank)) aNil)) (aCons (eTup (aCons (eC (.str q_back)) aNil)) aNil))) (eC (.int 30)))) (sSeq (sIf (bOr (bE (eOp eqD (eCall m__law_ask_v6 (aCons (eC (.int 0)) (aCons (eVar 12) (aCons (eVar 11) aNil)))) (eTup (aCons (eC (.str q_refused)) (aCons (eC (.int 1)) aNil))))) (bE (eOp neD (eCall m__law_ask_v6 (aCons (eC (.int 1)) (aCons (eVar 12) (aCons (eVar 11) aNil)))) (eTup aNil)))) (sRet (eC (.bl false))) sNil) (sRet (eOp eqD (eFrz (fComp (wR1 (eC (.int 2))) (.nm 18) bYes (eCall m__law_ask_v6 (aCons (eVar 18) (aCons (eVar 12) (aCons (eOp addD (eVar 11) (eTup (aCons (eTup (aCons (eC (.str q_up)) aNil)) aNil))) aNil)))) [18])) (eOp mulD (eFrz (fLst (aCons (eTup (aCons (eC (.str q_refused)) (aCons (eC (.int 1)) aNil))) aNil))) (eC (.int 2)))))))))))))))))) [some (scr ns), some (.obj 0), some a2, some (.tup (ks.map Key.d)), none, none, none, none, none, none, none, none, some (machD cols dead down), some (machD cols2 dead2 down2), none, none, none, none, none] S).out = .ok (.bl true) S' := by
  have c0 := hm.c0
  have hmd : Made cols dead down ks := Made.mk' hm hs (by omega)
  have hmd2 : Made cols2 dead2 down2 ks := Made.mk' hm2 hs (by omega)
  have sg := hmd.signs
  obtain ⟨S5, e5, _⟩ := lboth_spec hmd (by omega) (.tup (ks.map Key.d)) (fun _ => rfl) S
  have s5 : (sSet 4 (eCall m__law_both (aCons (eVar 12) (aCons (eVar 3) aNil)))) [some (scr ns), some (.obj 0), some a2, some (.tup (ks.map Key.d)), none, none, none, none, none, none, none, none, some (machD cols dead down), some (machD cols2 dead2 down2), none, none, none, none, none] S = .nx [some (scr ns), some (.obj 0), some a2, some (.tup (ks.map Key.d)), some (leftD (endOf cols dead down ks)), none, none, none, none, none, none, none, some (machD cols dead down), some (machD cols2 dead2 down2), none, none, none, none, none] S5 := set_e (call2 rfl rfl e5)
  have hR : ∀ (ρ : Ev) (S : Store), ρ[3]? = some (some (.tup (ks.map Key.d))) → wR1 (eB lenD (aCons (eVar 3) aNil)) ρ S = .ok (wkL (rngL 0 ks.length)) S := fun ρ S h => by
    have hR := wkR1_int (v := (ks.length : Int)) (by omega) (by omega)
    rw [Int.toNat_natCast] at hR
    have v3 : eVar 3 ρ S = .ok (.tup (ks.map Key.d)) S := by unfold eVar; rw [h]
    unfold wR1
    rw [eB1 (d := .int (ks.length : Int)) v3 (by show lenD S [.tup _] = _; simp), bind_ok, hR]; rfl
  obtain ⟨S6, e6, _⟩ := fComp_Q (tg := .nm 7) (tt := (bE (eOp eqD (eCall m__law_both (aCons (eVar 12) (aCons (eOp addD (eSl (eVar 3) oNone (oSome (eVar 7))) (eSl (eVar 3) (oSome (eOp addD (eVar 7) (eC (.int 1)))) oNone)) aNil))) (eVar 4)))) (el := eVar 7) (own := [7]) (l := List.range ks.length) (g := fun (i : Nat) => .int (i : Int)) (b := fun i => lf (endOf cols dead down (less ks i)) (endOf cols dead down ks)) (f := fun (i : Nat) => .int (i : Int)) (fun _ => True) (hR [some (scr ns), some (.obj 0), some a2, some (.tup (ks.map Key.d)), some (leftD (endOf cols dead down ks)), none, none, none, none, none, none, none, some (machD cols dead down), some (machD cols2 dead2 down2), none, none, none, none, none] S5 rfl) trivial (by rw [rngL_n, List.length_range]) (fun S i hi => by rw [← rngL_map]; rfl) (fun _ => rfl)
    (fun i hi S' _ => by
      have hi2 := List.mem_range.mp hi
      have hml := hmd.less (by omega) i
      obtain ⟨S2, g1, _⟩ := lboth_spec hml (by have := less_len ks i; omega) (.tup ((less ks i).map Key.d)) (fun _ => rfl) S'
      exact ⟨[some (scr ns), some (.obj 0), some a2, some (.tup (ks.map Key.d)), some (leftD (endOf cols dead down ks)), none, none, some (.int (i : Int)), none, none, none, none, some (machD cols dead down), some (machD cols2 dead2 down2), none, none, none, none, none], S2, rfl, bE_ (eop (call2 rfl (less_expr hi2 rfl rfl (by omega)) g1) rfl (left_eq S2 hml.signs sg)), trivial, fun _ => ⟨S2, rfl, trivial⟩⟩) (by rw [List.length_range]; omega)
  have s6 : (sSet 5 (eFrz (fComp (wR1 (eB lenD (aCons (eVar 3) aNil))) (.nm 7) (bE (eOp eqD (eCall m__law_both (aCons (eVar 12) (aCons (eOp addD (eSl (eVar 3) oNone (oSome (eVar 7))) (eSl (eVar 3) (oSome (eOp addD (eVar 7) (eC (.int 1)))) oNone)) aNil))) (eVar 4))) (eVar 7) [7]))) [some (scr ns), some (.obj 0), some a2, some (.tup (ks.map Key.d)), some (leftD (endOf cols dead down ks)), none, none, none, none, none, none, none, some (machD cols dead down), some (machD cols2 dead2 down2), none, none, none, none, none] S5 = .nx [some (scr ns), some (.obj 0), some a2, some (.tup (ks.map Key.d)), some (leftD (endOf cols dead down ks)), some (.lst (needL cols dead down ks)), none, none, none, none, none, none, some (machD cols dead down), some (machD cols2 dead2 down2), none, none, none, none, none] S6 := set_e (frz_e e6)
  obtain ⟨S7, e7⟩ := ask6_need hmd (by omega) S6
  have n7 : neD S7 (.lst (needL cols dead down ks)) (.lst (needL cols dead down ks)) = some (.bl false) := neD_self S7 rfl (needL_flat 63)
  have s7 : (sIf (bE (eOp neD (eCall m__law_ask_v6 (aCons (eC (.int 0)) (aCons (eVar 12) (aCons (eVar 3) aNil)))) (eVar 5))) (sRet (eC (.bl false))) sNil) [some (scr ns), some (.obj 0), some a2, some (.tup (ks.map Key.d)), some (leftD (endOf cols dead down ks)), some (.lst (needL cols dead down ks)), none, none, none, none, none, none, some (machD cols dead down), some (machD cols2 dead2 down2), none, none, none, none, none] S6 = .nx [some (scr ns), some (.obj 0), some a2, some (.tup (ks.map Key.d)), some (leftD (endOf cols dead down ks)), some (.lst (needL cols dead down ks)), none, none, none, none, none, none, some (machD cols dead down), some (machD cols2 dead2 down2), none, none, none, none, none] S7 := if_f (bE_ (eop (call3 rfl rfl rfl e7) rfl n7))
  have s8 : (sSet 6 (eFrz (fB listD (aCons (eVar 3) aNil)))) [some (scr ns), some (.obj 0), some a2, some (.tup (ks.map Key.d)), some (leftD (endOf cols dead down ks)), some (.lst (needL cols dead down ks)), none, none, none, none, none, none, some (machD cols dead down), some (machD cols2 dead2 down2), none, none, none, none, none] S7 = .nx [some (scr ns), some (.obj 0), some a2, some (.tup (ks.map Key.d)), some (leftD (endOf cols dead down ks)), some (.lst (needL cols dead down ks)), some (.lst (ks.map Key.d)), none, none, none, none, none, some (machD cols dead down), some (machD cols2 dead2 down2), none, none, none, none, none] S7 := by
    refine set_e (frz_e ?_)
    show giveL (listD S7 [.tup (ks.map Key.d)]) S7 = _
    simp
  have s9 : (sSet 7 (eC (.int 0))) [some (scr ns), some (.obj 0), some a2, some (.tup (ks.map Key.d)), some (leftD (endOf cols dead down ks)), some (.lst (needL cols dead down ks)), some (.lst (ks.map Key.d)), none, none, none, none, none, some (machD cols dead down), some (machD cols2 dead2 down2), none, none, none, none, none] S7 = .nx [some (scr ns), some (.obj 0), some a2, some (.tup (ks.map Key.d)), some (leftD (endOf cols dead down ks)), some (.lst (needL cols dead down ks)), some (.lst (ks.map Key.d)), some (.int (0 : Int)), none, none, none, none, some (machD cols dead down), some (machD cols2 dead2 down2), none, none, none, none, none] S7 := rfl
  have s10 : ∃ (a7 a8 a14 : Option D) (S' : Store), (sFor (wSeq (eVar 3)) (.nm 8) (sSeq (sSet 14 (eOp addD (eSl (eVar 6) oNone (oSome (eVar 7))) (eSl (eVar 6) (oSome (eOp addD (eVar 7) (eC (.int 1)))) oNone))) (sIf (bE (eOp eqD (eCall m__law_both (aCons (eVar 12) (aCons (eVar 14) aNil))) (eVar 4))) (sSet 6 (eVar 14)) (sSet 7 (eOp addD (eVar 7) (eC (.int 1))))))) [some (scr ns), some (.obj 0), some a2, some (.tup (ks.map Key.d)), some (leftD (endOf cols dead down ks)), some (.lst (needL cols dead down ks)), some (.lst (ks.map Key.d)), some (.int (0 : Int)), none, none, none, none, some (machD cols dead down), some (machD cols2 dead2 down2), none, none, none, none, none] S7 = .nx [some (scr ns), some (.obj 0), some a2, some (.tup (ks.map Key.d)), some (leftD (endOf cols dead down ks)), some (.lst (needL cols dead down ks)), some (.lst ((leanK cols dead down ks).map Key.d)), a7, a8, none, none, none, some (machD cols dead down), some (machD cols2 dead2 down2), a14, none, none, none, none] S' := by
    have hfi : wSeq (eVar 3) [some (scr ns), some (.obj 0), some a2, some (.tup (ks.map Key.d)), some (leftD (endOf cols dead down ks)), some (.lst (needL cols dead down ks)), some (.lst (ks.map Key.d)), some (.int (0 : Int)), none, none, none, none, some (machD cols dead down), some (machD cols2 dead2 down2), none, none, none, none, none] S7 = .ok (wkL (ks.map Key.d)) S7 := rfl
    obtain ⟨ρ', S', e, pre, a8, a14, h1, h2, h3⟩ := sFor_inv (tg := .nm 8) (body := (sSeq (sSet 14 (eOp addD (eSl (eVar 6) oNone (oSome (eVar 7))) (eSl (eVar 6) (oSome (eOp addD (eVar 7) (eC (.int 1)))) oNone))) (sIf (bE (eOp eqD (eCall m__law_both (aCons (eVar 12) (aCons (eVar 14) aNil))) (eVar 4))) (sSet 6 (eVar 14)) (sSet 7 (eOp addD (eVar 7) (eC (.int 1))))))) hfi (fun i ρ _ => ∃ (pre : List Key) (a8 a14 : Option D), ρ = [some (scr ns), some (.obj 0), some a2, some (.tup (ks.map Key.d)), some (leftD (endOf cols dead down ks)), some (.lst (needL cols dead down ks)), some (.lst ((pre ++ ks.drop i).map Key.d)), some (.int (pre.length : Int)), a8, none, none, none, some (machD cols dead down), some (machD cols2 dead2 down2), a14, none, none, none, none] ∧ (pre ++ ks.drop i).Sublist ks ∧ leanGo (lg cols dead down ks) pre (ks.drop i) = leanK cols dead down ks) ⟨[], none, none, rfl, List.Sublist.refl _, rfl⟩ (fun i ρ S hi ⟨pre, a8, a14, h1, h2, h3⟩ => by
      have hi2 : i < ks.length := by have : i < (ks.map Key.d).length := hi; rwa [List.length_map] at this
      subst h1
      have hd : ks.drop i = ks[i] :: ks.drop (i + 1) := List.drop_eq_getElem_cons hi2
      have cur : (wkL (ks.map Key.d)).cur S i = some (ks[i].d) := by
        show (ks.map Key.d)[i]? = _
        rw [List.getElem?_map, List.getElem?_eq_getElem hi2]; rfl
      rw [hd] at h2 h3 ⊢
      have hll := h2.length_le
      have hsub : (pre ++ ks.drop (i + 1)).Sublist ks := ((List.Sublist.refl pre).append (List.sublist_cons_self _ _)).trans h2
      have hm' : Made cols dead down (pre ++ ks.drop (i + 1)) := Made.mk' hm (fun q hq => hs q (hsub.subset hq)) (by have := hsub.length_le; omega)
      obtain ⟨S2, g1, _⟩ := lboth_spec hm' (by have := hsub.length_le; omega) (.lst ((pre ++ ks.drop (i + 1)).map Key.d)) (fun _ => rfl) S
      have b1 : (sSet 14 (eOp addD (eSl (eVar 6) oNone (oSome (eVar 7))) (eSl (eVar 6) (oSome (eOp addD (eVar 7) (eC (.int 1)))) oNone))) [some (scr ns), some (.obj 0), some a2, some (.tup (ks.map Key.d)), some (leftD (endOf cols dead down ks)), some (.lst (needL cols dead down ks)), some (.lst ((pre ++ ks[i] :: ks.drop (i + 1)).map Key.d)), some (.int (pre.length : Int)), some ks[i].d, none, none, none, some (machD cols dead down), some (machD cols2 dead2 down2), a14, none, none, none, none] S = .nx [some (scr ns), some (.obj 0), some a2, some (.tup (ks.map Key.d)), some (leftD (endOf cols dead down ks)), some (.lst (needL cols dead down ks)), some (.lst ((pre ++ ks[i] :: ks.drop (i + 1)).map Key.d)), some (.int (pre.length : Int)), some ks[i].d, none, none, none, some (machD cols dead down), some (machD cols2 dead2 down2), some (.lst ((pre ++ ks.drop (i + 1)).map Key.d)), none, none, none, none] S := by
        refine set_e ?_
        have := less_exprL (ks := pre ++ ks[i] :: ks.drop (i + 1)) (g := eVar 6) (h := eVar 7) (ρ := [some (scr ns), some (.obj 0), some a2, some (.tup (ks.map Key.d)), some (leftD (endOf cols dead down ks)), some (.lst (needL cols dead down ks)), some (.lst ((pre ++ ks[i] :: ks.drop (i + 1)).map Key.d)), some (.int (pre.length : Int)), some ks[i].d, none, none, none, some (machD cols dead down), some (machD cols2 dead2 down2), a14, none, none, none, none]) (S := S) (i := pre.length) (by simp; omega) rfl rfl (by omega)
        rw [less_mid] at this
        exact this
      have t2 : (bE (eOp eqD (eCall m__law_both (aCons (eVar 12) (aCons (eVar 14) aNil))) (eVar 4))) [some (scr ns), some (.obj 0), some a2, some (.tup (ks.map Key.d)), some (leftD (endOf cols dead down ks)), some (.lst (needL cols dead down ks)), some (.lst ((pre ++ ks[i] :: ks.drop (i + 1)).map Key.d)), some (.int (pre.length : Int)), some ks[i].d, none, none, none, some (machD cols dead down), some (machD cols2 dead2 down2), some (.lst ((pre ++ ks.drop (i + 1)).map Key.d)), none, none, none, none] S = .ok (lg cols dead down ks (pre ++ ks.drop (i + 1))) S2 := bE_ (eop (call2 rfl rfl g1) rfl (left_eq S2 hm'.signs sg))
      rw [leanGo_cons] at h3
      by_cases c : lg cols dead down ks (pre ++ ks.drop (i + 1)) = true
      · rw [c] at t2
        rw [if_pos c] at h3
        refine ⟨_, _, _, S2, cur, put_nm _ _ _, ?_, pre, some ks[i].d, some (.lst ((pre ++ ks.drop (i + 1)).map Key.d)), rfl, hsub, h3⟩
        show sSeq _ _ [some (scr ns), some (.obj 0), some a2, some (.tup (ks.map Key.d)), some (leftD (endOf cols dead down ks)), some (.lst (needL cols dead down ks)), some (.lst ((pre ++ ks[i] :: ks.drop (i + 1)).map Key.d)), some (.int (pre.length : Int)), some ks[i].d, none, none, none, some (machD cols dead down), some (machD cols2 dead2 down2), a14, none, none, none, none] S = _
        rw [sSeq_eq, b1, seq_nx, if_t t2]; rfl
      · rw [show lg cols dead down ks (pre ++ ks.drop (i + 1)) = false by simpa using c] at t2
        rw [if_neg c] at h3
        have e3 : eOp addD (eVar 7) (eC (.int 1)) [some (scr ns), some (.obj 0), some a2, some (.tup (ks.map Key.d)), some (leftD (endOf cols dead down ks)), some (.lst (needL cols dead down ks)), some (.lst ((pre ++ ks[i] :: ks.drop (i + 1)).map Key.d)), some (.int (pre.length : Int)), some ks[i].d, none, none, none, some (machD cols dead down), some (machD cols2 dead2 down2), some (.lst ((pre ++ ks.drop (i + 1)).map Key.d)), none, none, none, none] S2 = .ok (.int (((pre ++ [ks[i]]).length : Nat) : Int)) S2 := eop rfl rfl (by show some (D.int _) = _; simp)
        refine ⟨_, _, _, S2, cur, put_nm _ _ _, ?_, pre ++ [ks[i]], some ks[i].d, some (.lst ((pre ++ ks.drop (i + 1)).map Key.d)), rfl, by rw [List.append_assoc]; exact h2, h3⟩
        show sSeq _ _ [some (scr ns), some (.obj 0), some a2, some (.tup (ks.map Key.d)), some (leftD (endOf cols dead down ks)), some (.lst (needL cols dead down ks)), some (.lst ((pre ++ ks[i] :: ks.drop (i + 1)).map Key.d)), some (.int (pre.length : Int)), some ks[i].d, none, none, none, some (machD cols dead down), some (machD cols2 dead2 down2), a14, none, none, none, none] S = _
        rw [sSeq_eq, b1, seq_nx, if_f t2, set_e e3, List.append_assoc]; rfl) (fun _ _ _ => rfl)
    have hn : (wkL (ks.map Key.d)).n = ks.length := by simp [wkL]
    rw [hn, List.drop_length] at h1 h3
    rw [List.append_nil] at h1
    have h4 : pre = leanK cols dead down ks := h3
    subst h1
    rw [h4] at e
    exact ⟨_, _, _, S', e⟩
  obtain ⟨a7, a8, a14, S10, s10⟩ := s10
  obtain ⟨S11, e11⟩ := ask6_lean hmd (by omega) S10
  have s11 : (sSet 9 (eCall m__law_ask_v6 (aCons (eC (.int 1)) (aCons (eVar 12) (aCons (eVar 3) aNil))))) [some (scr ns), some (.obj 0), some a2, some (.tup (ks.map Key.d)), some (leftD (endOf cols dead down ks)), some (.lst (needL cols dead down ks)), some (.lst ((leanK cols dead down ks).map Key.d)), a7, a8, none, none, none, some (machD cols dead down), some (machD cols2 dead2 down2), a14, none, none, none, none] S10 = .nx [some (scr ns), some (.obj 0), some a2, some (.tup (ks.map Key.d)), some (leftD (endOf cols dead down ks)), some (.lst (needL cols dead down ks)), some (.lst ((leanK cols dead down ks).map Key.d)), a7, a8, some (.tup ((leanK cols dead down ks).map Key.d)), none, none, some (machD cols dead down), some (machD cols2 dead2 down2), a14, none, none, none, none] S11 := set_e (call3 rfl rfl rfl e11)
  have hmL := hmd.leanK (by omega)
  have hlL : (leanK cols dead down ks).length ≤ 30 := by have := leanK_sub (cols := cols) (dead := dead) (down := down) (ks := ks).length_le; omega
  obtain ⟨q1, q2⟩ := lf_split (leanK_lf hmd)
  obtain ⟨S12, e12, _⟩ := state_spec hmL S11
  obtain ⟨S13, e13, _⟩ := state_spec hmd S12
  obtain ⟨S14, e14, _⟩ := same_look_spec hmL hmd (by omega) (by omega) S13
  rw [q1] at e14
  have n12 : neD S11 (.tup ((leanK cols dead down ks).map Key.d)) (.tup ((leanK cols dead down ks).map Key.d)) = some (.bl false) := keys_ne hmL.ok S11
  have n13 : neD S13 (standD (endOf cols dead down (leanK cols dead down ks))) (standD (endOf cols dead down ks)) = some (.bl false) := by
    rw [neD_flat S13 rfl rfl (stand_flat _ 62) (stand_flat _ 62), q2]; rfl
  have s12 : (sIf (bOr (bE (eOp neD (eVar 9) (eB tupD (aCons (eVar 6) aNil)))) (bOr (bE (eOp neD (eCall m_state (aCons (eVar 12) (aCons (eVar 9) aNil))) (eCall m_state (aCons (eVar 12) (aCons (eVar 3) aNil))))) (bNot (bE (eCall m_same_look (aCons (eVar 12) (aCons (eVar 9) (aCons (eVar 3) aNil)))))))) (sRet (eC (.bl false))) sNil) [some (scr ns), some (.obj 0), some a2, some (.tup (ks.map Key.d)), some (leftD (endOf cols dead down ks)), some (.lst (needL cols dead down ks)), some (.lst ((leanK cols dead down ks).map Key.d)), a7, a8, some (.tup ((leanK cols dead down ks).map Key.d)), none, none, some (machD cols dead down), some (machD cols2 dead2 down2), a14, none, none, none, none] S11 = .nx [some (scr ns), some (.obj 0), some a2, some (.tup (ks.map Key.d)), some (leftD (endOf cols dead down ks)), some (.lst (needL cols dead down ks)), some (.lst ((leanK cols dead down ks).map Key.d)), a7, a8, some (.tup ((leanK cols dead down ks).map Key.d)), none, none, some (machD cols dead down), some (machD cols2 dead2 down2), a14, none, none, none, none] S14 := if_f (bOr_f (bE_ (eop rfl (eB1 rfl (by show (lstOf S11 (.lst _)).map _ = _; simp only [lstOf, Option.map_some])) n12)) (bOr_f (bE_ (eop (call2 rfl rfl e12) (call2 rfl rfl e13) n13)) (bNot_ (bE_ (call3 rfl rfl rfl e14)))))
  have c2 := hm2.c0
  obtain ⟨u1, S15, e15, _, _, _⟩ := lworked_spec cols dead down ks (by omega) hm.c1 hm.low hmd.ok (by omega) hmd.tabs S14
  obtain ⟨u2, S16, e16, _, _, _⟩ := lworked_spec cols2 dead2 down2 ks (by omega) hm2.c1 hm2.low hmd2.ok (by omega) hmd2.tabs S15
  have s13 : (sPar 15 16 (aCons (eOp ixD (eCall m__law_worked (aCons (eVar 12) (aCons (eTup aNil) (aCons (eVar 3) aNil)))) (eC (.int 1))) (aCons (eOp ixD (eCall m__law_worked (aCons (eVar 13) (aCons (eTup aNil) (aCons (eVar 3) aNil)))) (eC (.int 1))) aNil))) [some (scr ns), some (.obj 0), some a2, some (.tup (ks.map Key.d)), some (leftD (endOf cols dead down ks)), some (.lst (needL cols dead down ks)), some (.lst ((leanK cols dead down ks).map Key.d)), a7, a8, some (.tup ((leanK cols dead down ks).map Key.d)), none, none, some (machD cols dead down), some (machD cols2 dead2 down2), a14, none, none, none, none] S14 = .nx [some (scr ns), some (.obj 0), some a2, some (.tup (ks.map Key.d)), some (leftD (endOf cols dead down ks)), some (.lst (needL cols dead down ks)), some (.lst ((leanK cols dead down ks).map Key.d)), a7, a8, some (.tup ((leanK cols dead down ks).map Key.d)), none, none, some (machD cols dead down), some (machD cols2 dead2 down2), a14, some (.lst (told cols dead down ks)), some (.lst (told cols2 dead2 down2 ks)), none, none] S16 := by
    simp [e15, e16]
  have e17 := diff_comp (i := 15) (j := 16) (k := 17) (ρ := [some (scr ns), some (.obj 0), some a2, some (.tup (ks.map Key.d)), some (leftD (endOf cols dead down ks)), some (.lst (needL cols dead down ks)), some (.lst ((leanK cols dead down ks).map Key.d)), a7, a8, some (.tup ((leanK cols dead down ks).map Key.d)), none, none, some (machD cols dead down), some (machD cols2 dead2 down2), a14, some (.lst (told cols dead down ks)), some (.lst (told cols2 dead2 down2 ks)), none, none]) rfl rfl (by show 17 < 19; omega) (by decide) (by decide) (hR [some (scr ns), some (.obj 0), some a2, some (.tup (ks.map Key.d)), some (leftD (endOf cols dead down ks)), some (.lst (needL cols dead down ks)), some (.lst ((leanK cols dead down ks).map Key.d)), a7, a8, some (.tup ((leanK cols dead down ks).map Key.d)), none, none, some (machD cols dead down), some (machD cols2 dead2 down2), a14, some (.lst (told cols dead down ks)), some (.lst (told cols2 dead2 down2 ks)), none, none] S16 rfl) (told_len ..).symm (told_len ..).symm (told_flats hmd) (told_flats hmd2) (by omega)
  have s14 : (sSet 10 (eFrz (fComp (wR1 (eB lenD (aCons (eVar 3) aNil))) (.nm 17) (bE (eOp neD (eOp ixD (eVar 15) (eVar 17)) (eOp ixD (eVar 16) (eVar 17)))) (eVar 17) [17]))) [some (scr ns), some (.obj 0), some a2, some (.tup (ks.map Key.d)), some (leftD (endOf cols dead down ks)), some (.lst (needL cols dead down ks)), some (.lst ((leanK cols dead down ks).map Key.d)), a7, a8, some (.tup ((leanK cols dead down ks).map Key.d)), none, none, some (machD cols dead down), some (machD cols2 dead2 down2), a14, some (.lst (told cols dead down ks)), some (.lst (told cols2 dead2 down2 ks)), none, none] S16 = .nx [some (scr ns), some (.obj 0), some a2, some (.tup (ks.map Key.d)), some (leftD (endOf cols dead down ks)), some (.lst (needL cols dead down ks)), some (.lst ((leanK cols dead down ks).map Key.d)), a7, a8, some (.tup ((leanK cols dead down ks).map Key.d)), some (.lst (diffL (told cols dead down ks) (told cols2 dead2 down2 ks) ks.length)), none, some (machD cols dead down), some (machD cols2 dead2 down2), a14, some (.lst (told cols dead down ks)), some (.lst (told cols2 dead2 down2 ks)), none, none] S16 := set_e (frz_e e17)
  obtain ⟨S17, e18, _⟩ := parted_spec hmd hmd2 S16
  obtain ⟨S18, e19, _⟩ := parted_spec hmd hmd S17
  have hself : firstD (diffL (told cols dead down ks) (told cols dead down ks) ks.length) = .non := by
    rw [← told_len cols dead down ks, diff_self (told_flats hmd)]; rfl
  rw [hself] at e19
  have n15 : neD S17 (firstD (diffL (told cols dead down ks) (told cols2 dead2 down2 ks) ks.length)) (firstD (diffL (told cols dead down ks) (told cols2 dead2 down2 ks) ks.length)) = some (.bl false) := neD_self S17 rfl (by rw [flat_deref S17 (diff_flat _ _ _ 64)]; exact diff_flat _ _ _ 64)
  have hdl : (diffL (told cols dead down ks) (told cols2 dead2 down2 ks) ks.length).length ≤ 30 := by
    have := List.length_filter_le (nq (told cols dead down ks) (told cols2 dead2 down2 ks)) (List.range ks.length)
    unfold diffL
    rw [List.length_map]
    rw [List.length_range] at this
    omega
  have s15 : (sIf (bOr (bE (eOp neD (eCall m_parted (aCons (eVar 12) (aCons (eVar 13) (aCons (eVar 3) aNil)))) (eOp ixD (eOp addD (eVar 10) (eFrz (fLst (aCons (eC .non) aNil)))) (eC (.int 0))))) (bE (eOp notNonD (eCall m_parted (aCons (eVar 12) (aCons (eVar 12) (aCons (eVar 3) aNil)))) (eC .non)))) (sRet (eC (.bl false))) sNil) [some (scr ns), some (.obj 0), some a2, some (.tup (ks.map Key.d)), some (leftD (endOf cols dead down ks)), some (.lst (needL cols dead down ks)), some (.lst ((leanK cols dead down ks).map Key.d)), a7, a8, some (.tup ((leanK cols dead down ks).map Key.d)), some (.lst (diffL (told cols dead down ks) (told cols2 dead2 down2 ks) ks.length)), none, some (machD cols dead down), some (machD cols2 dead2 down2), a14, some (.lst (told cols dead down ks)), some (.lst (told cols2 dead2 down2 ks)), none, none] S16 = .nx [some (scr ns), some (.obj 0), some a2, some (.tup (ks.map Key.d)), some (leftD (endOf cols dead down ks)), some (.lst (needL cols dead down ks)), some (.lst ((leanK cols dead down ks).map Key.d)), a7, a8, some (.tup ((leanK cols dead down ks).map Key.d)), some (.lst (diffL (told cols dead down ks) (told cols2 dead2 down2 ks) ks.length)), none, some (machD cols dead down), some (machD cols2 dead2 down2), a14, some (.lst (told cols dead down ks)), some (.lst (told cols2 dead2 down2 ks)), none, none] S18 := if_f (bOr_f (bE_ (eop (call3 rfl rfl rfl e18) (eop (eop rfl rfl (lcat S17 _ [.non] (by simp; omega))) rfl (first_ix S17 _)) n15)) (bE_ (eop (call3 rfl rfl rfl e19) rfl rfl)))
  have hlg : Made cols dead down (pairK 30) := Made.mk' hm (pairK_sig 30) (by rw [pairK_len]; omega)
  have s16 : (sSet 11 (eOp mulT (eTup (aCons (eTup (aCons (eC (.str q_blank)) aNil)) (aCons (eTup (aCons (eC (.str q_back)) aNil)) aNil))) (eC (.int 30)))) [some (scr ns), some (.obj 0), some a2, some (.tup (ks.map Key.d)), some (leftD (endOf cols dead down ks)), some (.lst (needL cols dead down ks)), some (.lst ((leanK cols dead down ks).map Key.d)), a7, a8, some (.tup ((leanK cols dead down ks).map Key.d)), some (.lst (diffL (told cols dead down ks) (told cols2 dead2 down2 ks) ks.length)), none, some (machD cols dead down), some (machD cols2 dead2 down2), a14, some (.lst (told cols dead down ks)), some (.lst (told cols2 dead2 down2 ks)), none, none] S18 = .nx [some (scr ns), some (.obj 0), some a2, some (.tup (ks.map Key.d)), some (leftD (endOf cols dead down ks)), some (.lst (needL cols dead down ks)), some (.lst ((leanK cols dead down ks).map Key.d)), a7, a8, some (.tup ((leanK cols dead down ks).map Key.d)), some (.lst (diffL (told cols dead down ks) (told cols2 dead2 down2 ks) ks.length)), some (.tup ((pairK 30).map Key.d)), some (machD cols dead down), some (machD cols2 dead2 down2), a14, some (.lst (told cols dead down ks)), some (.lst (told cols2 dead2 down2 ks)), none, none] S18 := set_e (eop rfl rfl rfl)
  obtain ⟨S19, e20⟩ := ask6_need hlg (by rw [pairK_len]; omega) S18
  obtain ⟨S20, e21⟩ := ask6_lean hlg (by rw [pairK_len]; omega) S19
  rw [show leanK cols dead down (pairK 30) = [] from lean_long hm 30 (by omega) 30] at e21
  have n17 : eqD S19 (.lst (needL cols dead down (pairK 30))) (refD 1) = some (.bl false) := by
    unfold eqD
    show (if (D.flat 64 (.lst _) && D.flat 64 (refD 1)) = true then _ else _) = _
    rw [needL_flat 63]; rfl
  have n18 : neD S20 (.tup (([] : List Key).map Key.d)) (.tup []) = some (.bl false) := neD_self S20 rfl rfl
  have s17 : (sIf (bOr (bE (eOp eqD (eCall m__law_ask_v6 (aCons (eC (.int 0)) (aCons (eVar 12) (aCons (eVar 11) aNil)))) (eTup (aCons (eC (.str q_refused)) (aCons (eC (.int 1)) aNil))))) (bE (eOp neD (eCall m__law_ask_v6 (aCons (eC (.int 1)) (aCons (eVar 12) (aCons (eVar 11) aNil)))) (eTup aNil)))) (sRet (eC (.bl false))) sNil) [some (scr ns), some (.obj 0), some a2, some (.tup (ks.map Key.d)), some (leftD (endOf cols dead down ks)), some (.lst (needL cols dead down ks)), some (.lst ((leanK cols dead down ks).map Key.d)), a7, a8, some (.tup ((leanK cols dead down ks).map Key.d)), some (.lst (diffL (told cols dead down ks) (told cols2 dead2 down2 ks) ks.length)), some (.tup ((pairK 30).map Key.d)), some (machD cols dead down), some (machD cols2 dead2 down2), a14, some (.lst (told cols dead down ks)), some (.lst (told cols2 dead2 down2 ks)), none, none] S18 = .nx [some (scr ns), some (.obj 0), some a2, some (.tup (ks.map Key.d)), some (leftD (endOf cols dead down ks)), some (.lst (needL cols dead down ks)), some (.lst ((leanK cols dead down ks).map Key.d)), a7, a8, some (.tup ((leanK cols dead down ks).map Key.d)), some (.lst (diffL (told cols dead down ks) (told cols2 dead2 down2 ks) ks.length)), some (.tup ((pairK 30).map Key.d)), some (machD cols dead down), some (machD cols2 dead2 down2), a14, some (.lst (told cols dead down ks)), some (.lst (told cols2 dead2 down2 ks)), none, none] S20 := if_f (bOr_f (bE_ (eop (call3 rfl rfl rfl e20) rfl n17)) (bE_ (eop (call3 rfl rfl rfl e21) rfl n18)))
  have hup : ∀ q ∈ (pairK 30) ++ [Key.word .up], q.sig := sig_app (pairK_sig 30) (sig_w [.up])
  have c18 : (fComp (wR1 (eC (.int 2))) (.nm 18) bYes (eCall m__law_ask_v6 (aCons (eVar 18) (aCons (eVar 12) (aCons (eOp addD (eVar 11) (eTup (aCons (eTup (aCons (eC (.str q_up)) aNil)) aNil))) aNil)))) [18]) [some (scr ns), some (.obj 0), some a2, some (.tup (ks.map Key.d)), some (leftD (endOf cols dead down ks)), some (.lst (needL cols dead down ks)), some (.lst ((leanK cols dead down ks).map Key.d)), a7, a8, some (.tup ((leanK cols dead down ks).map Key.d)), some (.lst (diffL (told cols dead down ks) (told cols2 dead2 down2 ks) ks.length)), some (.tup ((pairK 30).map Key.d)), some (machD cols dead down), some (machD cols2 dead2 down2), a14, some (.lst (told cols dead down ks)), some (.lst (told cols2 dead2 down2 ks)), none, none] S20 = .ok [refD 1, refD 1] S20 := by
    have e := fComp_W (tg := .nm 18) (tt := bYes) (el := (eCall m__law_ask_v6 (aCons (eVar 18) (aCons (eVar 12) (aCons (eOp addD (eVar 11) (eTup (aCons (eTup (aCons (eC (.str q_up)) aNil)) aNil))) aNil))))) (own := [18]) (ρ := [some (scr ns), some (.obj 0), some a2, some (.tup (ks.map Key.d)), some (leftD (endOf cols dead down ks)), some (.lst (needL cols dead down ks)), some (.lst ((leanK cols dead down ks).map Key.d)), a7, a8, some (.tup ((leanK cols dead down ks).map Key.d)), some (.lst (diffL (told cols dead down ks) (told cols2 dead2 down2 ks) ks.length)), some (.tup ((pairK 30).map Key.d)), some (machD cols dead down), some (machD cols2 dead2 down2), a14, some (.lst (told cols dead down ks)), some (.lst (told cols2 dead2 down2 ks)), none, none]) (S := S20) (w := wkL (rngL 0 2)) (fi := wR1 (eC (.int 2))) (l := List.range 2) (g := fun (i : Nat) => .int (i : Int)) (b := fun _ => true) (f := fun _ => refD 1) rfl rfl (fun i hi => by rw [← rngL_map]; rfl) rfl
      (fun i hi => ⟨[some (scr ns), some (.obj 0), some a2, some (.tup (ks.map Key.d)), some (leftD (endOf cols dead down ks)), some (.lst (needL cols dead down ks)), some (.lst ((leanK cols dead down ks).map Key.d)), a7, a8, some (.tup ((leanK cols dead down ks).map Key.d)), some (.lst (diffL (told cols dead down ks) (told cols2 dead2 down2 ks) ks.length)), some (.tup ((pairK 30).map Key.d)), some (machD cols dead down), some (machD cols2 dead2 down2), a14, some (.lst (told cols dead down ks)), some (.lst (told cols2 dead2 down2 ks)), none, some (.int (i : Int))], rfl, rfl, fun _ => call3 rfl rfl (kapp (b := [Key.word .up]) rfl rfl (by rw [pairK_len]; simp)) (ask6_bad hm hup (by rw [List.length_append, pairK_len]; simp) (by rw [List.length_append, pairK_len]; simp) i S20)⟩) (by simp)
    rw [filter_true] at e
    exact e
  have s18 : (sRet (eOp eqD (eFrz (fComp (wR1 (eC (.int 2))) (.nm 18) bYes (eCall m__law_ask_v6 (aCons (eVar 18) (aCons (eVar 12) (aCons (eOp addD (eVar 11) (eTup (aCons (eTup (aCons (eC (.str q_up)) aNil)) aNil))) aNil)))) [18])) (eOp mulD (eFrz (fLst (aCons (eTup (aCons (eC (.str q_refused)) (aCons (eC (.int 1)) aNil))) aNil))) (eC (.int 2))))) [some (scr ns), some (.obj 0), some a2, some (.tup (ks.map Key.d)), some (leftD (endOf cols dead down ks)), some (.lst (needL cols dead down ks)), some (.lst ((leanK cols dead down ks).map Key.d)), a7, a8, some (.tup ((leanK cols dead down ks).map Key.d)), some (.lst (diffL (told cols dead down ks) (told cols2 dead2 down2 ks) ks.length)), some (.tup ((pairK 30).map Key.d)), some (machD cols dead down), some (machD cols2 dead2 down2), a14, some (.lst (told cols dead down ks)), some (.lst (told cols2 dead2 down2 ks)), none, none] S20 = .rt (.bl true) S20 := ret_e (eop (frz_e c18) (eop rfl rfl rfl) (eqD_self S20 rfl rfl))
  refine ⟨S20, ?_⟩
  rw [sSeq_eq, s5, seq_nx, sSeq_eq, s6, seq_nx, sSeq_eq, s7, seq_nx, sSeq_eq, s8, seq_nx, sSeq_eq, s9, seq_nx, sSeq_eq, s10, seq_nx, sSeq_eq, s11, seq_nx, sSeq_eq, s12, seq_nx, sSeq_eq, s13, seq_nx, sSeq_eq, s14, seq_nx, sSeq_eq, s15, seq_nx, sSeq_eq, s16, seq_nx, sSeq_eq, s17, seq_nx, s18]
  rfl
theorem law_k06 (ns : List Int) (hn : ns.length ≤ 63) : ∃ S', m_law_k06 [scr ns] [] = .ok (.bl true) S' := by
  have T0 : Town [O.lst []] 0 := ⟨[], rfl, Nat.le_refl _⟩
  obtain ⟨d, S1, e1, m1, T1, W1, L1⟩ := pick_spec ns T0 (by omega) (l := [.int 4, .int 12, .int 30]) (by simp)
  have hd : ∃ q : Nat, d = .int (q : Int) ∧ q ≤ 30 := by
    have : d ∈ ([4, 12, 30] : List Nat).map fun (q : Nat) => D.int (q : Int) := m1
    obtain ⟨c, h1, h2⟩ := List.mem_map.mp this
    refine ⟨c, h2.symm, ?_⟩
    simp at h1; omega
  obtain ⟨q, rfl, hq⟩ := hd
  obtain ⟨cols, dead, down, S2, e2, hm, _, T2, W2, L2'⟩ := machine_spec ns T1 (by omega)
  obtain ⟨cols2, dead2, down2, S3, e3, hm2, _, T3, W3, L3⟩ := machine_spec ns T2 (by omega)
  obtain ⟨ks, S4, e4, hk, hl, T4, W4⟩ := keys_spec ns T3 q (by omega) (by omega)
  have s1 : (sSet 1 (eNew (fLst aNil))) [some (scr ns), none, none, none, none, none, none, none, none, none, none, none, none, none, none, none, none, none, none] ([] : Store) = .nx [some (scr ns), some (.obj 0), none, none, none, none, none, none, none, none, none, none, none, none, none, none, none, none, none] [O.lst []] := by
    simp
  have s2 : (sSet 2 (eCall m__law_pick (aCons (eVar 0) (aCons (eVar 1) (aCons (eFrz (fLst (aCons (eC (.int 4)) (aCons (eC (.int 12)) (aCons (eC (.int 30)) aNil))))) aNil))))) [some (scr ns), some (.obj 0), none, none, none, none, none, none, none, none, none, none, none, none, none, none, none, none, none] [O.lst []] = .nx [some (scr ns), some (.obj 0), some (.int (q : Int)), none, none, none, none, none, none, none, none, none, none, none, none, none, none, none, none] S1 := by
    exact set_e (call3 rfl rfl rfl e1)
  have s3 : (sPar 12 13 (aCons (eCall m__law_machine (aCons (eVar 0) (aCons (eVar 1) aNil))) (aCons (eCall m__law_machine (aCons (eVar 0) (aCons (eVar 1) aNil))) aNil))) [some (scr ns), some (.obj 0), some (.int (q : Int)), none, none, none, none, none, none, none, none, none, none, none, none, none, none, none, none] S1 = .nx [some (scr ns), some (.obj 0), some (.int (q : Int)), none, none, none, none, none, none, none, none, none, some (machD cols dead down), some (machD cols2 dead2 down2), none, none, none, none, none] S3 := by
    simp [e2, e3]
  have s4 : (sSet 3 (eCall m__law_keys (aCons (eVar 0) (aCons (eVar 1) (aCons (eVar 2) aNil))))) [some (scr ns), some (.obj 0), some (.int (q : Int)), none, none, none, none, none, none, none, none, none, some (machD cols dead down), some (machD cols2 dead2 down2), none, none, none, none, none] S3 = .nx [some (scr ns), some (.obj 0), some (.int (q : Int)), some (.tup (ks.map Key.d)), none, none, none, none, none, none, none, none, some (machD cols dead down), some (machD cols2 dead2 down2), none, none, none, none, none] S4 := by
    exact set_e (call3 rfl rfl rfl e4)
  obtain ⟨S5, fin⟩ := k06_b ns hm hm2 hk (by omega) (.int (q : Int)) S4
  refine ⟨S5, ?_⟩
  unfold m_law_k06
  rw [callD1, show List.replicate 18 (none : Option D) = [none, none, none, none, none, none, none, none, none, none, none, none, none, none, none, none, none, none] from rfl]
  unfold g_law_k06
  rw [sSeq_eq, s1, seq_nx, sSeq_eq, s2, seq_nx, sSeq_eq, s3, seq_nx, sSeq_eq, s4, seq_nx]
  exact fin
end Lw
/-! ## Sm9 -/
/-! Sm9: the head. -/
namespace Sm
open PySem PySem.Spec PyProof.Rows L2 RZ
/-- further facts: a tuple of texts; the classes of exceptions -/
inductive TF where
  | tup (x : PySem.Str) (ws : List (List Nat)) | exc
def exN : List PySem.Str := ["InkError", "NoMachine", "NoKeys", "NoKey", "NoPlace", "NoGoal", "NoStrikes", "NoText", "NoNumbers", "TooWide", "Nothing"]
def exA (K : PySem.W.Frag) (i : Nat) : Addr := He.ga K (exN.getD i "")
def excB1 (K : PySem.W.Frag) (D : Addr) : Bool :=
  decide (PySem.W.findIn K (.ref D) "__getattribute__" = some (some (.builtin "BaseException.__getattribute__"))) && (decide (PySem.W.findIn K (.ref D) "__getattr__" = some none) && (decide (PySem.W.subIn K (.ref D) (.type "BaseException") = some true) &&
  (PySem.W.hasDictIn K D && (decide (PySem.W.findIn K (.ref D) "__class__" = some (some (.builtin "object.__class__"))) && (decide (PySem.W.specialIn K (.builtin "object.__class__") "__get__" = some (some (.builtin "getset_descriptor.__get__"))) &&
  (decide (PySem.W.takesIn K (.builtin "object.__class__") = some true) && (decide (PySem.W.mroIn K D (.type "object") = some true) &&
  (decide (PySem.W.exmOne K (.ref D) (.ref (exA K 0)) = some true) && decide (PySem.W.kitOne K (.ref D) (.type "ValueError") = some true)))))))))
def excB (K : PySem.W.Frag) : Bool := (List.range 10).all fun i => excB1 K (exA K (i + 1)) && (List.range 10).all fun j => decide (PySem.W.kitOne K (.ref (exA K (i + 1))) (.ref (exA K (j + 1))) = some (decide (i = j)))
def TF.ok (K : PySem.W.Frag) : TF → Bool
  | .tup x ws => He.tupB K x (ws.map fun s => He.Dv.str (tx s))
  | .exc => excB K
theorem exF_of {K : PySem.W.Frag} {T : Tab} (h : TF.ok K .exc = true) (hT : ∀ c, c ≤ 10 → T.exc c = exA K c) : SmT.ExF K T := by
  have h' : excB K = true := h
  unfold excB at h'
  have row : ∀ c, 1 ≤ c → c ≤ 10 → excB1 K (T.exc c) = true ∧ ∀ j, 1 ≤ j → j ≤ 10 → PySem.W.kitOne K (.ref (T.exc c)) (.ref (T.exc j)) = some (decide (c = j)) := fun c c1 c2 => by
    have q := List.all_eq_true.mp h' (c - 1) (List.mem_range.mpr (by omega))
    obtain ⟨q1, q2⟩ := Bool.and_eq_true_iff.mp q
    rw [show c - 1 + 1 = c by omega, ← hT c c2] at q1
    refine ⟨q1, fun j j1 j2 => ?_⟩
    have e := of_decide_eq_true (List.all_eq_true.mp q2 (j - 1) (List.mem_range.mpr (by omega)))
    rw [show c - 1 + 1 = c by omega, show j - 1 + 1 = j by omega, ← hT c c2, ← hT j j2] at e
    rw [e]
    congr 1
    exact decide_eq_decide.mpr (by omega)
  have one : ∀ c, 1 ≤ c → c ≤ 10 → ExcC K (T.exc c) ∧ PySem.W.exmOne K (.ref (T.exc c)) (.ref (T.exc 0)) = some true ∧ PySem.W.kitOne K (.ref (T.exc c)) (.type "ValueError") = some true := fun c c1 c2 => by
    obtain ⟨q, _⟩ := row c c1 c2
    unfold excB1 at q
    obtain ⟨a1, q⟩ := He.ba q
    obtain ⟨a2, q⟩ := He.ba q
    obtain ⟨a3, q⟩ := He.ba q
    obtain ⟨a4, q⟩ := He.ba q
    obtain ⟨a5, q⟩ := He.ba q
    obtain ⟨a6, q⟩ := He.ba q
    obtain ⟨a7, q⟩ := He.ba q
    obtain ⟨a8, q⟩ := He.ba q
    obtain ⟨a9, a10⟩ := He.ba q
    rw [hT 0 (by decide)]
    exact ⟨⟨of_decide_eq_true a1, of_decide_eq_true a2, of_decide_eq_true a3, a4, of_decide_eq_true a5, of_decide_eq_true a6, of_decide_eq_true a7, of_decide_eq_true a8⟩, of_decide_eq_true a9, of_decide_eq_true a10⟩
  exact ⟨fun c c1 c2 => (one c c1 c2).2.1, fun c c1 c2 => (one c c1 c2).1, fun c c1 c2 => (one c c1 c2).2.2, fun c j c1 c2 => (row c c1 c2).2 j⟩
theorem TF.kt {K : PySem.W.Frag} {x : PySem.Str} {ws : List (List Nat)} (h : TF.ok K (.tup x ws) = true) : KT K (He.ga K x) (ws.map fun s => V.str (tx s)) := by
  unfold TF.ok He.tupB at h
  simp only at h
  cases q : K.lookup (He.ga K x) with
  | none =>
    rw [q] at h
    cases h
  | some o =>
    obtain ⟨oc, od, dt, osl⟩ := o
    rw [q] at h
    cases oc with
    | type c =>
      cases dt with
      | seq its n =>
        obtain ⟨h1, h2⟩ := He.ba (show (decide (c = "tuple") && (decide (its.size ≤ sizeLine) && He.relAll ((ws.map fun s => He.Dv.str (tx s)).map (He.Dv.v K)) its.toList)) = true from h)
        obtain ⟨h3, h4⟩ := He.ba h2
        refine ⟨_, its, n, q, congrArg Value.type (of_decide_eq_true h1), rfl, of_decide_eq_true h3, ?_⟩
        have e := He.relAll_ok h4
        rw [List.map_map] at e
        exact e
      | _ => cases h
    | _ => cases dt <;> cases h
abbrev AlX : Type := He.AlD × Bool
def obsX (fa : List He.Fa) (fn : List He.DefD) (ts : List TF) (K : PySem.W.Frag) : AlX := (He.obsD fa fn K, ts.all fun t => t.ok K)
def SaysX (fa : List He.Fa) (fn : List He.DefD) (ts : List TF) (K : PySem.W.Frag) : Prop := obsX fa fn ts K = (He.valD fn, true)
def obsXG (n : Nat) (fa : List He.Fa) (fn : List He.DefD) (ts : List TF) (g : Addr → Option Obj) : AlX := obsX fa fn ts (He.frG g (He.asD g n))
def hookX (n : Nat) (fa : List He.Fa) (fn : List He.DefD) (ts : List TF) : PySem.W.Hook where
  α := AlX
  obs := fun s => obsXG n fa fn ts s.heap.get?
  val := fun _ => (He.valD fn, true)
  says := fun _ h => ∃ K : PySem.W.Frag, K.In h ∧ SaysX fa fn ts K
  of := fun _ _ e => ⟨_, He.frG_in, e⟩
  keeps := fun _ _ _ ⟨K, hK, c⟩ k => ⟨K, PySem.W.Frag.In.keeps hK k, c⟩
theorem obsXG_eq {n : Nat} {fa : List He.Fa} {fn : List He.DefD} {ts : List TF} {g : Addr → Option Obj} {s : Shared} (h : ∀ a, g a = s.heap.get? a) : obsXG n fa fn ts g = (hookX n fa fn ts).obs s := by
  have e : g = s.heap.get? := funext h
  rw [e] <;> rfl
theorem SaysX.d {fa : List He.Fa} {fn : List He.DefD} {ts : List TF} {K : PySem.W.Frag} (c : SaysX fa fn ts K) : He.SaysD fa fn K := congrArg (fun z : AlX => z.1) c
theorem SaysX.t {fa : List He.Fa} {fn : List He.DefD} {ts : List TF} {K : PySem.W.Frag} (c : SaysX fa fn ts K) (i : Nat) {t : TF} (h : ts[i]? = some t := by rfl) : t.ok K = true :=
  List.all_eq_true.mp (show (ts.all fun t => t.ok K) = true from congrArg (fun z : AlX => z.2) c) t (List.mem_of_getElem? h)
theorem noats {K : PySem.W.Frag} {x : PySem.Str} {fs : List PySem.Str} (h : ∀ f ∈ fs, (He.Fa.noat x f).ok K = true) : ∀ f ∈ fs, NoAttr K (He.ga K x) f := fun f hf => He.noat_ok (h f hf)
def CXA : CXT := fun outer H s E u s' => ∃ (P : Program) (w : World), L2.CX P w outer H s E u s'
theorem cxa_no (H : Hp) (s : Shared) (e : Value) (s' : Shared) (h : CXA [] H s (fun _ _ _ => False) e s') : False := by
  obtain ⟨P, w, a, B, H', cls, d, _, _, _, _, _, _, _, z⟩ := h
  exact z
theorem cxa_of {P : Program} {w : World} {K : PySem.W.Frag} {mg : Str → Option Value} {base : Heap} {k : Nat} {f : Addr} {fd : FuncData} {ps : List Str} {sp : Sp} (F : FnOk P w K mg base (L2.CX P w) k f fd ps sp) : FnOk P w K mg base CXA k f fd ps sp := by
  refine ⟨F.len, fun A outer s H args us vs Q E hr he hb hv hs => codeAny_mono (F.run A outer s H args us vs Q E hr he hb hv hs) fun r s' h => ?_⟩
  unfold CR at h ⊢
  cases r with
  | error e => exact ⟨P, w, h⟩
  | ok r => cases r <;> exact h
/-- the end: the law's M-code answers True -/
theorem sp_end {K : PySem.W.Frag} {T : Tab} {f : FM} {H : Hp} {a : Addr} {ns : List Int} (hO : Only H) (hS : SqL K H a (ns.map V.int)) (h : ∃ S', f [.src (ns.map D.int)] [] = .ok (.bl true) S') : spOf K T f [.ref a] H (fun v _ => v = .bl true) fun _ _ _ => False := by
  obtain ⟨S', e⟩ := h
  refine ⟨fun _ => False, [], [], [.src (ns.map D.int)], ⟨rfl, fun i a o h _ => (by simp at h), fun i j a o u h _ _ _ => (by simp at h), fun a h => h.elim, fun i a h => (by simp at h), fun i a h => (by simp at h)⟩, ?_, ?_⟩
  · refine .cons (.src ?_ (rs_ints _)) .nil
    rcases hS with (h | ⟨o, h⟩) | h
    · rcases hO a with e | ⟨o, xs, e⟩
      · rw [e] at h; cases h
      · rw [e] at h; cases h
    · exact .inl ⟨o, h⟩
    · exact .inr h
  · rw [e]
    exact fun m' H' x rs v r => by cases r; rfl
end Sm
/-! ## Lf06 -/
namespace Lw
open PySem PySem.Spec PyProof.Rows L2 RZ Sm
def top (i : Nat) : Stmt := PySem.Challenge.pw_inkcarriage_k06_whole_lean.main.body.getD i (.Pass ⟨0, 0, 0, 0⟩)
/-! ### facts -/
structure Fx (K : PySem.W.Frag) (mg : Str → Option Value) (T : Tab) where
  f_is_whole : Addr
  fd_is_whole : FuncData
  F_is_whole : FunD K "is_whole" "is_whole" (defArgs (top 24)) (defBody (top 24)) (defScope (top 24)) [] [] f_is_whole fd_is_whole
  g_is_whole : mg "is_whole" = some (.ref f_is_whole)
  f_is_one_of : Addr
  fd_is_one_of : FuncData
  F_is_one_of : FunD K "is_one_of" "is_one_of" (defArgs (top 25)) (defBody (top 25)) (defScope (top 25)) [] [] f_is_one_of fd_is_one_of
  g_is_one_of : mg "is_one_of" = some (.ref f_is_one_of)
  f_is_rising : Addr
  fd_is_rising : FuncData
  F_is_rising : FunD K "is_rising" "is_rising" (defArgs (top 26)) (defBody (top 26)) (defScope (top 26)) [] [] f_is_rising fd_is_rising
  g_is_rising : mg "is_rising" = some (.ref f_is_rising)
  f_is_machine : Addr
  fd_is_machine : FuncData
  F_is_machine : FunD K "is_machine" "is_machine" (defArgs (top 27)) (defBody (top 27)) (defScope (top 27)) [] [] f_is_machine fd_is_machine
  g_is_machine : mg "is_machine" = some (.ref f_is_machine)
  f_need_machine : Addr
  fd_need_machine : FuncData
  F_need_machine : FunD K "need_machine" "need_machine" (defArgs (top 28)) (defBody (top 28)) (defScope (top 28)) [] [] f_need_machine fd_need_machine
  g_need_machine : mg "need_machine" = some (.ref f_need_machine)
  f_end_of : Addr
  fd_end_of : FuncData
  F_end_of : FunD K "end_of" "end_of" (defArgs (top 29)) (defBody (top 29)) (defScope (top 29)) [] [] f_end_of fd_end_of
  g_end_of : mg "end_of" = some (.ref f_end_of)
  f_is_key : Addr
  fd_is_key : FuncData
  F_is_key : FunD K "is_key" "is_key" (defArgs (top 30)) (defBody (top 30)) (defScope (top 30)) [] [] f_is_key fd_is_key
  g_is_key : mg "is_key" = some (.ref f_is_key)
  f_need_keys : Addr
  fd_need_keys : FuncData
  F_need_keys : FunD K "need_keys" "need_keys" (defArgs (top 31)) (defBody (top 31)) (defScope (top 31)) [] [] f_need_keys fd_need_keys
  g_need_keys : mg "need_keys" = some (.ref f_need_keys)
  f_struck_as : Addr
  fd_struck_as : FuncData
  F_struck_as : FunD K "struck_as" "struck_as" (defArgs (top 32)) (defBody (top 32)) (defScope (top 32)) [] [] f_struck_as fd_struck_as
  g_struck_as : mg "struck_as" = some (.ref f_struck_as)
  f_Machine___init__ : Addr
  fd_Machine___init__ : FuncData
  F_Machine___init__ : FunD K "__init__" "Machine.__init__" (defArgs (inClass (top 35) 0)) (defBody (inClass (top 35) 0)) (defScope (inClass (top 35) 0)) [] [] f_Machine___init__ fd_Machine___init__
  f_Machine_is_locked : Addr
  fd_Machine_is_locked : FuncData
  F_Machine_is_locked : FunD K "is_locked" "Machine.is_locked" (defArgs (inClass (top 35) 1)) (defBody (inClass (top 35) 1)) (defScope (inClass (top 35) 1)) [] [] f_Machine_is_locked fd_Machine_is_locked
  me_Machine_is_locked : Meth K (T.cls 0) "is_locked" f_Machine_is_locked
  f_Machine_go_on : Addr
  fd_Machine_go_on : FuncData
  F_Machine_go_on : FunD K "go_on" "Machine.go_on" (defArgs (inClass (top 35) 2)) (defBody (inClass (top 35) 2)) (defScope (inClass (top 35) 2)) [] [] f_Machine_go_on fd_Machine_go_on
  me_Machine_go_on : Meth K (T.cls 0) "go_on" f_Machine_go_on
  f_Machine_strike : Addr
  fd_Machine_strike : FuncData
  F_Machine_strike : FunD K "strike" "Machine.strike" (defArgs (inClass (top 35) 3)) (defBody (inClass (top 35) 3)) (defScope (inClass (top 35) 3)) [] [] f_Machine_strike fd_Machine_strike
  me_Machine_strike : Meth K (T.cls 0) "strike" f_Machine_strike
  f_Machine_lift : Addr
  fd_Machine_lift : FuncData
  F_Machine_lift : FunD K "lift" "Machine.lift" (defArgs (inClass (top 35) 4)) (defBody (inClass (top 35) 4)) (defScope (inClass (top 35) 4)) [] [] f_Machine_lift fd_Machine_lift
  me_Machine_lift : Meth K (T.cls 0) "lift" f_Machine_lift
  f_Machine_move : Addr
  fd_Machine_move : FuncData
  F_Machine_move : FunD K "move" "Machine.move" (defArgs (inClass (top 35) 5)) (defBody (inClass (top 35) 5)) (defScope (inClass (top 35) 5)) [] [] f_Machine_move fd_Machine_move
  me_Machine_move : Meth K (T.cls 0) "move" f_Machine_move
  f_Machine_roll : Addr
  fd_Machine_roll : FuncData
  F_Machine_roll : FunD K "roll" "Machine.roll" (defArgs (inClass (top 35) 6)) (defBody (inClass (top 35) 6)) (defScope (inClass (top 35) 6)) [] [] f_Machine_roll fd_Machine_roll
  me_Machine_roll : Meth K (T.cls 0) "roll" f_Machine_roll
  f_Machine_set_up : Addr
  fd_Machine_set_up : FuncData
  F_Machine_set_up : FunD K "set_up" "Machine.set_up" (defArgs (inClass (top 35) 7)) (defBody (inClass (top 35) 7)) (defScope (inClass (top 35) 7)) [] [] f_Machine_set_up fd_Machine_set_up
  me_Machine_set_up : Meth K (T.cls 0) "set_up" f_Machine_set_up
  f_Machine_press : Addr
  fd_Machine_press : FuncData
  F_Machine_press : FunD K "press" "Machine.press" (defArgs (inClass (top 35) 8)) (defBody (inClass (top 35) 8)) (defScope (inClass (top 35) 8)) [] [] f_Machine_press fd_Machine_press
  me_Machine_press : Meth K (T.cls 0) "press" f_Machine_press
  f_Machine_stand : Addr
  fd_Machine_stand : FuncData
  F_Machine_stand : FunD K "stand" "Machine.stand" (defArgs (inClass (top 35) 9)) (defBody (inClass (top 35) 9)) (defScope (inClass (top 35) 9)) [] [] f_Machine_stand fd_Machine_stand
  me_Machine_stand : Meth K (T.cls 0) "stand" f_Machine_stand
  f_worked : Addr
  fd_worked : FuncData
  F_worked : FunD K "worked" "worked" (defArgs (top 36)) (defBody (top 36)) (defScope (top 36)) [] [] f_worked fd_worked
  g_worked : mg "worked" = some (.ref f_worked)
  f_need_both : Addr
  fd_need_both : FuncData
  F_need_both : FunD K "need_both" "need_both" (defArgs (top 37)) (defBody (top 37)) (defScope (top 37)) [] [] f_need_both fd_need_both
  g_need_both : mg "need_both" = some (.ref f_need_both)
  f_state : Addr
  fd_state : FuncData
  F_state : FunD K "state" "state" (defArgs (top 38)) (defBody (top 38)) (defScope (top 38)) [] [] f_state fd_state
  g_state : mg "state" = some (.ref f_state)
  f_marks_of : Addr
  fd_marks_of : FuncData
  F_marks_of : FunD K "marks_of" "marks_of" (defArgs (top 40)) (defBody (top 40)) (defScope (top 40)) [] [] f_marks_of fd_marks_of
  g_marks_of : mg "marks_of" = some (.ref f_marks_of)
  f_look_of : Addr
  fd_look_of : FuncData
  F_look_of : FunD K "look_of" "look_of" (defArgs (top 41)) (defBody (top 41)) (defScope (top 41)) [] [] f_look_of fd_look_of
  g_look_of : mg "look_of" = some (.ref f_look_of)
  f_same_look : Addr
  fd_same_look : FuncData
  F_same_look : FunD K "same_look" "same_look" (defArgs (top 42)) (defBody (top 42)) (defScope (top 42)) [] [] f_same_look fd_same_look
  g_same_look : mg "same_look" = some (.ref f_same_look)
  f_left_by : Addr
  fd_left_by : FuncData
  F_left_by : FunD K "left_by" "left_by" (defArgs (top 45)) (defBody (top 45)) (defScope (top 45)) [] [] f_left_by fd_left_by
  g_left_by : mg "left_by" = some (.ref f_left_by)
  f_need_few : Addr
  fd_need_few : FuncData
  F_need_few : FunD K "need_few" "need_few" (defArgs (top 46)) (defBody (top 46)) (defScope (top 46)) [] [] f_need_few fd_need_few
  g_need_few : mg "need_few" = some (.ref f_need_few)
  f_needless : Addr
  fd_needless : FuncData
  F_needless : FunD K "needless" "needless" (defArgs (top 47)) (defBody (top 47)) (defScope (top 47)) [] [] f_needless fd_needless
  g_needless : mg "needless" = some (.ref f_needless)
  f_lean : Addr
  fd_lean : FuncData
  F_lean : FunD K "lean" "lean" (defArgs (top 48)) (defBody (top 48)) (defScope (top 48)) [] [] f_lean fd_lean
  g_lean : mg "lean" = some (.ref f_lean)
  f_parted : Addr
  fd_parted : FuncData
  F_parted : FunD K "parted" "parted" (defArgs (top 49)) (defBody (top 49)) (defScope (top 49)) [] [] f_parted fd_parted
  g_parted : mg "parted" = some (.ref f_parted)
  f__law_cell_at : Addr
  fd__law_cell_at : FuncData
  F__law_cell_at : FunD K "_law_cell_at" "_law_cell_at" (defArgs (top 51)) (defBody (top 51)) (defScope (top 51)) [] [] f__law_cell_at fd__law_cell_at
  g__law_cell_at : mg "_law_cell_at" = some (.ref f__law_cell_at)
  f__law_mixed : Addr
  fd__law_mixed : FuncData
  F__law_mixed : FunD K "_law_mixed" "_law_mixed" (defArgs (top 52)) (defBody (top 52)) (defScope (top 52)) [] [] f__law_mixed fd__law_mixed
  g__law_mixed : mg "_law_mixed" = some (.ref f__law_mixed)
  f__law_draw : Addr
  fd__law_draw : FuncData
  F__law_draw : FunD K "_law_draw" "_law_draw" (defArgs (top 53)) (defBody (top 53)) (defScope (top 53)) [] [] f__law_draw fd__law_draw
  g__law_draw : mg "_law_draw" = some (.ref f__law_draw)
  f__law_pick : Addr
  fd__law_pick : FuncData
  F__law_pick : FunD K "_law_pick" "_law_pick" (defArgs (top 54)) (defBody (top 54)) (defScope (top 54)) [] [] f__law_pick fd__law_pick
  g__law_pick : mg "_law_pick" = some (.ref f__law_pick)
  f__law_machine : Addr
  fd__law_machine : FuncData
  F__law_machine : FunD K "_law_machine" "_law_machine" (defArgs (top 55)) (defBody (top 55)) (defScope (top 55)) [] [] f__law_machine fd__law_machine
  g__law_machine : mg "_law_machine" = some (.ref f__law_machine)
  f__law_key : Addr
  fd__law_key : FuncData
  F__law_key : FunD K "_law_key" "_law_key" (defArgs (top 56)) (defBody (top 56)) (defScope (top 56)) [] [] f__law_key fd__law_key
  g__law_key : mg "_law_key" = some (.ref f__law_key)
  f__law_keys : Addr
  fd__law_keys : FuncData
  F__law_keys : FunD K "_law_keys" "_law_keys" (defArgs (top 57)) (defBody (top 57)) (defScope (top 57)) [] [] f__law_keys fd__law_keys
  g__law_keys : mg "_law_keys" = some (.ref f__law_keys)
  f__law_new : Addr
  fd__law_new : FuncData
  F__law_new : FunD K "_law_new" "_law_new" (defArgs (top 58)) (defBody (top 58)) (defScope (top 58)) [] [] f__law_new fd__law_new
  g__law_new : mg "_law_new" = some (.ref f__law_new)
  f__law_shut : Addr
  fd__law_shut : FuncData
  F__law_shut : FunD K "_law_shut" "_law_shut" (defArgs (top 59)) (defBody (top 59)) (defScope (top 59)) [] [] f__law_shut fd__law_shut
  g__law_shut : mg "_law_shut" = some (.ref f__law_shut)
  f__law_go : Addr
  fd__law_go : FuncData
  F__law_go : FunD K "_law_go" "_law_go" (defArgs (top 60)) (defBody (top 60)) (defScope (top 60)) [] [] f__law_go fd__law_go
  g__law_go : mg "_law_go" = some (.ref f__law_go)
  f__law_as : Addr
  fd__law_as : FuncData
  F__law_as : FunD K "_law_as" "_law_as" (defArgs (top 61)) (defBody (top 61)) (defScope (top 61)) [] [] f__law_as fd__law_as
  g__law_as : mg "_law_as" = some (.ref f__law_as)
  f__law_ink : Addr
  fd__law_ink : FuncData
  F__law_ink : FunD K "_law_ink" "_law_ink" (defArgs (top 62)) (defBody (top 62)) (defScope (top 62)) [] [] f__law_ink fd__law_ink
  g__law_ink : mg "_law_ink" = some (.ref f__law_ink)
  f__law_turn : Addr
  fd__law_turn : FuncData
  F__law_turn : FunD K "_law_turn" "_law_turn" (defArgs (top 63)) (defBody (top 63)) (defScope (top 63)) [] [] f__law_turn fd__law_turn
  g__law_turn : mg "_law_turn" = some (.ref f__law_turn)
  f__law_step : Addr
  fd__law_step : FuncData
  F__law_step : FunD K "_law_step" "_law_step" (defArgs (top 64)) (defBody (top 64)) (defScope (top 64)) [] [] f__law_step fd__law_step
  g__law_step : mg "_law_step" = some (.ref f__law_step)
  f__law_press : Addr
  fd__law_press : FuncData
  F__law_press : FunD K "_law_press" "_law_press" (defArgs (top 65)) (defBody (top 65)) (defScope (top 65)) [] [] f__law_press fd__law_press
  g__law_press : mg "_law_press" = some (.ref f__law_press)
  f__law_worked : Addr
  fd__law_worked : FuncData
  F__law_worked : FunD K "_law_worked" "_law_worked" (defArgs (top 66)) (defBody (top 66)) (defScope (top 66)) [] [] f__law_worked fd__law_worked
  g__law_worked : mg "_law_worked" = some (.ref f__law_worked)
  f__law_stand : Addr
  fd__law_stand : FuncData
  F__law_stand : FunD K "_law_stand" "_law_stand" (defArgs (top 67)) (defBody (top 67)) (defScope (top 67)) [] [] f__law_stand fd__law_stand
  g__law_stand : mg "_law_stand" = some (.ref f__law_stand)
  f__law_looks : Addr
  fd__law_looks : FuncData
  F__law_looks : FunD K "_law_looks" "_law_looks" (defArgs (top 68)) (defBody (top 68)) (defScope (top 68)) [] [] f__law_looks fd__law_looks
  g__law_looks : mg "_law_looks" = some (.ref f__law_looks)
  f__law_which : Addr
  fd__law_which : FuncData
  F__law_which : FunD K "_law_which" "_law_which" (defArgs (top 69)) (defBody (top 69)) (defScope (top 69)) [] [] f__law_which fd__law_which
  g__law_which : mg "_law_which" = some (.ref f__law_which)
  f__law_ask : Addr
  fd__law_ask : FuncData
  F__law_ask : FunD K "_law_ask" "_law_ask" (defArgs (top 70)) (defBody (top 70)) (defScope (top 70)) [] [] f__law_ask fd__law_ask
  g__law_ask : mg "_law_ask" = some (.ref f__law_ask)
  f__law_both : Addr
  fd__law_both : FuncData
  F__law_both : FunD K "_law_both" "_law_both" (defArgs (top 71)) (defBody (top 71)) (defScope (top 71)) [] [] f__law_both fd__law_both
  g__law_both : mg "_law_both" = some (.ref f__law_both)
  f_law : Addr
  fd_law : FuncData
  F_law : FunD K "law" "law" (defArgs (top 72)) (defBody (top 72)) (defScope (top 72)) [] [] f_law fd_law
  g_law : mg "law" = some (.ref f_law)
  cf_Machine : ClsF K T 0 ["dead", "down", "end", "row", "place", "low", "high", "tabs", "colour", "caps", "is_free", "marks", "rings", "many"]
  gc_Machine : mg "Machine" = some (.ref (T.cls 0))
  mk_Machine : L2.Mk K (T.cls 0) f_Machine___init__
  gx_InkError : mg "InkError" = some (.ref (T.exc 0))
  gx_NoKey : mg "NoKey" = some (.ref (T.exc 3))
  gx_NoPlace : mg "NoPlace" = some (.ref (T.exc 4))
  gx_NoGoal : mg "NoGoal" = some (.ref (T.exc 5))
  gx_NoStrikes : mg "NoStrikes" = some (.ref (T.exc 6))
  gx_NoText : mg "NoText" = some (.ref (T.exc 7))
  gx_NoNumbers : mg "NoNumbers" = some (.ref (T.exc 8))
  gx_TooWide : mg "TooWide" = some (.ref (T.exc 9))
  gx_Nothing : mg "Nothing" = some (.ref (T.exc 10))
  xf : SmT.ExF K T
  b_ValueError : mg "ValueError" = none
  xi_NoMachine : PySem.W.excIn K (T.exc 1) [.type "ValueError", .type "Exception", .type "BaseException", .type "object"] "ValueError.__new__" = true
  gx_NoMachine : mg "NoMachine" = some (.ref (T.exc 1))
  xk_NoMachine : PySem.W.keepIn K (.ref (T.exc 1)) = true
  xs_NoMachine : PySem.W.subIn K (.ref (T.exc 1)) (.type "BaseException") = some true
  xt_NoMachine : PySem.W.typeIn K (.ref (T.exc 1)) = some (.type "type")
  xi_NoKeys : PySem.W.excIn K (T.exc 2) [.type "ValueError", .type "Exception", .type "BaseException", .type "object"] "ValueError.__new__" = true
  gx_NoKeys : mg "NoKeys" = some (.ref (T.exc 2))
  xk_NoKeys : PySem.W.keepIn K (.ref (T.exc 2)) = true
  xs_NoKeys : PySem.W.subIn K (.ref (T.exc 2)) (.type "BaseException") = some true
  xt_NoKeys : PySem.W.typeIn K (.ref (T.exc 2)) = some (.type "type")
  t_LETTERS : Tok
  g_LETTERS : mg "LETTERS" = some (.str "abcdefghijklmnopqrstuvwxyz" t_LETTERS)
  t_GREAT : Tok
  g_GREAT : mg "GREAT" = some (.str "ABCDEFGHIJKLMNOPQRSTUVWXYZ" t_GREAT)
  t_DEAD : Tok
  g_DEAD : mg "DEAD" = some (.str "'^~" t_DEAD)
  t_SIGNS : Tok
  g_SIGNS : mg "SIGNS" = some (.str "abcdefghijklmnopqrstuvwxyz0123456789.,-'^~" t_SIGNS)
  a_MOVES : Addr
  g_MOVES : mg "MOVES" = some (.ref a_MOVES)
  k_MOVES : KT K a_MOVES (([q_blank, q_half, q_back, q_tab, q_return, q_up, q_down] : List (List Nat)).map fun s => V.str (tx s))
  a_TURNS : Addr
  g_TURNS : mg "TURNS" = some (.ref a_TURNS)
  k_TURNS : KT K a_TURNS (([q_left, q_right, q_set, q_clear, q_all, q_free, q_ribbon, q_caps] : List (List Nat)).map fun s => V.str (tx s))
  t_LEAST : Tok
  g_LEAST : mg "LEAST" = some (.int 8 t_LEAST)
  t_WIDEST : Tok
  g_WIDEST : mg "WIDEST" = some (.int 40 t_WIDEST)
  t_KEYS : Tok
  g_KEYS : mg "KEYS" = some (.int 4000 t_KEYS)
  t_ROWS : Tok
  g_ROWS : mg "ROWS" = some (.int 60 t_ROWS)
  t_BELL : Tok
  g_BELL : mg "BELL" = some (.int 10 t_BELL)
  t_MOST : Tok
  g_MOST : mg "MOST" = some (.int 60 t_MOST)
  b_all : mg "all" = none
  b_bool : mg "bool" = none
  b_enumerate : mg "enumerate" = none
  b_int : mg "int" = none
  b_isinstance : mg "isinstance" = none
  b_len : mg "len" = none
  b_list : mg "list" = none
  b_min : mg "min" = none
  b_range : mg "range" = none
  b_set : mg "set" = none
  b_sorted : mg "sorted" = none
  b_str : mg "str" = none
  b_tuple : mg "tuple" = none
  b_zip : mg "zip" = none
section
variable {P : Program} {w : World} {K : PySem.W.Frag} {mg : Str → Option Value} {base : Heap} {T : Tab}
theorem sc_is_whole : FnScope ["thing", "low", "most"] ["thing", "low", "most"] (defScope (top 24)) := ⟨rfl, rfl, rfl, by decide +kernel, rfl, by decide +kernel, by decide +kernel⟩
theorem bi_is_whole (Z : Fx K mg T) : Binds K Z.fd_is_whole ["thing", "low", "most"] [] := Z.F_is_whole.bindsN fun _ _ _ _ _ _ us hl => match us, hl with | [_, _, _], _ => rfl
theorem ok_is_whole (Z : Fx K mg T) : FnOk P w K mg base (L2.CX P w) 1 Z.f_is_whole Z.fd_is_whole ["thing", "low", "most"] (spOf K T m_is_whole) :=
  def_ok Z.F_is_whole sc_is_whole rfl rfl fun cdv A outer s H E hr tk hp => (ss_one (s_ret (s_and (s_isi .int rfl Z.b_isinstance rfl Z.b_int boot_int (s_var 0)) (s_and (s_not (s_isi .bool rfl Z.b_isinstance rfl Z.b_bool boot_bool (s_var 0))) (s_one (s_chain o_le o_le (s_var 1) (s_var 0) (s_var 2)))))))
theorem sc_is_one_of : FnScope ["thing", "signs"] ["thing", "signs"] (defScope (top 25)) := ⟨rfl, rfl, rfl, by decide +kernel, rfl, by decide +kernel, by decide +kernel⟩
theorem bi_is_one_of (Z : Fx K mg T) : Binds K Z.fd_is_one_of ["thing", "signs"] [] := Z.F_is_one_of.bindsN fun _ _ _ _ _ _ us hl => match us, hl with | [_, _], _ => rfl
theorem ok_is_one_of (Z : Fx K mg T) : FnOk P w K mg base (L2.CX P w) 1 Z.f_is_one_of Z.fd_is_one_of ["thing", "signs"] (spOf K T m_is_one_of) :=
  def_ok Z.F_is_one_of sc_is_one_of rfl rfl fun cdv A outer s H E hr tk hp => (ss_one (s_ret (s_and (s_isi .str rfl Z.b_isinstance rfl Z.b_str boot_str (s_var 0)) (s_and (s_cmp (o_eq hr.units) (s_callB c_len rfl Z.b_len boot_len (a_cons (s_var 0) a_nil)) s_int rfl) (s_one (s_cmp (o_in (units65 hr)) (s_var 0) (s_var 1) rfl))))))
theorem sc_is_rising : FnScope ["thing", "one", "other"] ["thing"] (defScope (top 26)) := ⟨rfl, rfl, rfl, by decide +kernel, rfl, by decide +kernel, by decide +kernel⟩
theorem bi_is_rising (Z : Fx K mg T) : Binds K Z.fd_is_rising ["thing"] [] := Z.F_is_rising.bindsN fun _ _ _ _ _ _ us hl => match us, hl with | [_], _ => rfl
theorem ok_is_rising (Z : Fx K mg T) : FnOk P w K mg base (L2.CX P w) 1 Z.f_is_rising Z.fd_is_rising ["thing"] (spOf K T m_is_rising) :=
  def_ok Z.F_is_rising sc_is_rising rfl rfl fun cdv A outer s H E hr tk hp => (ss_one (s_ret (s_callB (c_all rfl) rfl Z.b_all boot_all (a_cons (s_frz (f_comp (own := [("one", 1), ("other", 2)]) rfl sc_is_rising.nd (i_zip rfl Z.b_zip (s_var 0) (s_slice (s_var 0) (o_some s_int) o_none)) (blkOk_by (by kernel_rfl)) rfl (by decide) (fun _ _ _ _ _ => (g_tup rfl (gs_cons (g_nm sc_is_rising.nd rfl (.inl rfl)) (gs_cons (g_nm sc_is_rising.nd rfl (.inl rfl)) gs_nil)) rfl)) (fun _ _ _ _ _ => ts_nil) (fun _ _ _ _ _ => (s_cmp o_lt (s_var 1) (s_var 2) rfl)))) a_nil))))
theorem sc_is_machine : FnScope ["thing", "sign"] ["thing"] (defScope (top 27)) := ⟨rfl, rfl, rfl, by decide +kernel, rfl, by decide +kernel, by decide +kernel⟩
theorem bi_is_machine (Z : Fx K mg T) : Binds K Z.fd_is_machine ["thing"] [] := Z.F_is_machine.bindsN fun _ _ _ _ _ _ us hl => match us, hl with | [_], _ => rfl
theorem ok_is_machine (Z : Fx K mg T) : FnOk P w K mg base (L2.CX P w) 2 Z.f_is_machine Z.fd_is_machine ["thing"] (spOf K T m_is_machine) :=
  def_ok Z.F_is_machine sc_is_machine rfl rfl fun cdv A outer s H E hr tk hp => (ss_cons (s_if (t_w (w_or (t_not (t_val (s_isi .tuple rfl Z.b_isinstance rfl Z.b_tuple boot_tuple (s_var 0)))) (w_or (t_cmp (o_ne hr.units) (s_callB c_len rfl Z.b_len boot_len (a_cons (s_var 0) a_nil)) s_int rfl) (w_or1 (t_not (t_val (s_call (ok_is_whole Z) (hr.mono (by decide)) tk rfl Z.g_is_whole Z.F_is_whole.kp (bi_is_whole Z) (a_cons (s_ix o_ix (s_var 0) s_int) (a_cons (s_gint rfl Z.g_LEAST) (a_cons (s_gint rfl Z.g_WIDEST) a_nil)))))))))) (ss_one (s_ret s_bl)) ss_nil)
    (ss_cons (s_if (t_w (w_or (t_not (t_val (s_isi .tuple rfl Z.b_isinstance rfl Z.b_tuple boot_tuple (s_ix o_ix (s_var 0) s_int)))) (w_or1 (t_not (t_val (s_callB (c_all rfl) rfl Z.b_all boot_all (a_cons (s_frz (f_comp (own := [("sign", 1)]) rfl sc_is_machine.nd (i_seq (s_ix o_ix (s_var 0) s_int)) (blkOk_by (by kernel_rfl)) rfl (by decide) (fun _ _ _ _ _ => (g_nm sc_is_machine.nd rfl (.inl rfl))) (fun _ _ _ _ _ => ts_nil) (fun _ _ _ _ _ => (s_call (ok_is_one_of Z) (hr.mono (by decide)) takes0 rfl Z.g_is_one_of Z.F_is_one_of.kp (bi_is_one_of Z) (a_cons (s_var 1) (a_cons (s_gstr (s := q_x27_5e_7e) rfl Z.g_DEAD rfl) a_nil)))))) a_nil))))))) (ss_one (s_ret s_bl)) ss_nil)
    (ss_one (s_ret (s_and (s_call (ok_is_rising Z) (hr.mono (by decide)) tk rfl Z.g_is_rising Z.F_is_rising.kp (bi_is_rising Z) (a_cons (s_ix o_ix (s_var 0) s_int) a_nil)) (s_one (s_call (ok_is_whole Z) (hr.mono (by decide)) tk rfl Z.g_is_whole Z.F_is_whole.kp (bi_is_whole Z) (a_cons (s_ix o_ix (s_var 0) s_int) (a_cons s_int (a_cons s_int a_nil))))))))))
theorem sc_need_machine : FnScope ["thing"] ["thing"] (defScope (top 28)) := ⟨rfl, rfl, rfl, by decide +kernel, rfl, by decide +kernel, by decide +kernel⟩
theorem bi_need_machine (Z : Fx K mg T) : Binds K Z.fd_need_machine ["thing"] [] := Z.F_need_machine.bindsN fun _ _ _ _ _ _ us hl => match us, hl with | [_], _ => rfl
theorem ok_need_machine (Z : Fx K mg T) : FnOk P w K mg base (L2.CX P w) 3 Z.f_need_machine Z.fd_need_machine ["thing"] (spOf K T m_need_machine) :=
  def_ok Z.F_need_machine sc_need_machine rfl rfl fun cdv A outer s H E hr tk hp => (ss_one (s_if (t_not (t_val (s_call (ok_is_machine Z) (hr.mono (by decide)) tk rfl Z.g_is_machine Z.F_is_machine.kp (bi_is_machine Z) (a_cons (s_var 0) a_nil)))) (ss_one (s_raise (k := 1) rfl tk Z.xi_NoMachine Z.gx_NoMachine Z.xk_NoMachine Z.xs_NoMachine Z.xt_NoMachine rfl)) ss_nil))
theorem sc_end_of : FnScope ["machine"] ["machine"] (defScope (top 29)) := ⟨rfl, rfl, rfl, by decide +kernel, rfl, by decide +kernel, by decide +kernel⟩
theorem bi_end_of (Z : Fx K mg T) : Binds K Z.fd_end_of ["machine"] [] := Z.F_end_of.bindsN fun _ _ _ _ _ _ us hl => match us, hl with | [_], _ => rfl
theorem ok_end_of (Z : Fx K mg T) : FnOk P w K mg base (L2.CX P w) 1 Z.f_end_of Z.fd_end_of ["machine"] (spOf K T m_end_of) :=
  def_ok Z.F_end_of sc_end_of rfl rfl fun cdv A outer s H E hr tk hp => (ss_one (s_ret (s_op o_mul s_int (s_ix o_ix (s_var 0) s_int))))
theorem sc_is_key : FnScope ["thing"] ["thing"] (defScope (top 30)) := ⟨rfl, rfl, rfl, by decide +kernel, rfl, by decide +kernel, by decide +kernel⟩
theorem bi_is_key (Z : Fx K mg T) : Binds K Z.fd_is_key ["thing"] [] := Z.F_is_key.bindsN fun _ _ _ _ _ _ us hl => match us, hl with | [_], _ => rfl
theorem ok_is_key (Z : Fx K mg T) : FnOk P w K mg base (L2.CX P w) 2 Z.f_is_key Z.fd_is_key ["thing"] (spOf K T m_is_key) :=
  def_ok Z.F_is_key sc_is_key rfl rfl fun cdv A outer s H E hr tk hp => (ss_cons (s_if (t_w (w_or (t_not (t_val (s_isi .tuple rfl Z.b_isinstance rfl Z.b_tuple boot_tuple (s_var 0)))) (w_or (t_cmp (o_eq hr.units) (s_var 0) (s_tup a_nil) rfl) (w_or1 (t_not (t_val (s_isi .str rfl Z.b_isinstance rfl Z.b_str boot_str (s_ix o_ix (s_var 0) s_int)))))))) (ss_one (s_ret s_bl)) ss_nil)
    (ss_cons (s_if (t_cmp (o_in (units65 hr)) (s_ix o_ix (s_var 0) s_int) (s_tup (a_cons (s_str (s := q_sign) rfl) (a_cons (s_str (s := q_lift) rfl) a_nil))) rfl) (ss_one (s_ret (s_and (s_cmp (o_eq hr.units) (s_callB c_len rfl Z.b_len boot_len (a_cons (s_var 0) a_nil)) s_int rfl) (s_one (s_call (ok_is_one_of Z) (hr.mono (by decide)) tk rfl Z.g_is_one_of Z.F_is_one_of.kp (bi_is_one_of Z) (a_cons (s_ix o_ix (s_var 0) s_int) (a_cons (s_gstr (s := q_x61_62_63_64_65_66_67_68_69_6a_6b_6c_6d_6e_42) rfl Z.g_SIGNS rfl) a_nil))))))) ss_nil)
    (ss_one (s_ret (s_and (s_cmp (o_eq hr.units) (s_callB c_len rfl Z.b_len boot_len (a_cons (s_var 0) a_nil)) s_int rfl) (s_one (s_cmp (o_in (units65 hr)) (s_ix o_ix (s_var 0) s_int) (s_op o_add (s_gtup (ws := [q_blank, q_half, q_back, q_tab, q_return, q_up, q_down]) rfl Z.g_MOVES Z.k_MOVES) (s_gtup (ws := [q_left, q_right, q_set, q_clear, q_all, q_free, q_ribbon, q_caps]) rfl Z.g_TURNS Z.k_TURNS)) rfl)))))))
theorem sc_need_keys : FnScope ["thing", "key"] ["thing"] (defScope (top 31)) := ⟨rfl, rfl, rfl, by decide +kernel, rfl, by decide +kernel, by decide +kernel⟩
theorem bi_need_keys (Z : Fx K mg T) : Binds K Z.fd_need_keys ["thing"] [] := Z.F_need_keys.bindsN fun _ _ _ _ _ _ us hl => match us, hl with | [_], _ => rfl
theorem ok_need_keys (Z : Fx K mg T) : FnOk P w K mg base (L2.CX P w) 3 Z.f_need_keys Z.fd_need_keys ["thing"] (spOf K T m_need_keys) :=
  def_ok Z.F_need_keys sc_need_keys rfl rfl fun cdv A outer s H E hr tk hp => (ss_one (s_if (t_w (w_or (t_not (t_val (s_isi .tuple rfl Z.b_isinstance rfl Z.b_tuple boot_tuple (s_var 0)))) (w_or (t_cmp o_gt (s_callB c_len rfl Z.b_len boot_len (a_cons (s_var 0) a_nil)) (s_gint rfl Z.g_KEYS) rfl) (w_or1 (t_not (t_val (s_callB (c_all rfl) rfl Z.b_all boot_all (a_cons (s_frz (f_comp (own := [("key", 1)]) rfl sc_need_keys.nd (i_seq (s_var 0)) (blkOk_by (by kernel_rfl)) rfl (by decide) (fun _ _ _ _ _ => (g_nm sc_need_keys.nd rfl (.inl rfl))) (fun _ _ _ _ _ => ts_nil) (fun _ _ _ _ _ => (s_call (ok_is_key Z) (hr.mono (by decide)) takes0 rfl Z.g_is_key Z.F_is_key.kp (bi_is_key Z) (a_cons (s_var 1) a_nil))))) a_nil)))))))) (ss_one (s_raise (k := 2) rfl tk Z.xi_NoKeys Z.gx_NoKeys Z.xk_NoKeys Z.xs_NoKeys Z.xt_NoKeys rfl)) ss_nil))
theorem sc_struck_as : FnScope ["sign", "caps"] ["sign", "caps"] (defScope (top 32)) := ⟨rfl, rfl, rfl, by decide +kernel, rfl, by decide +kernel, by decide +kernel⟩
theorem bi_struck_as (Z : Fx K mg T) : Binds K Z.fd_struck_as ["sign", "caps"] [] := Z.F_struck_as.bindsN fun _ _ _ _ _ _ us hl => match us, hl with | [_, _], _ => rfl
theorem ok_struck_as (Z : Fx K mg T) : FnOk P w K mg base (L2.CX P w) 1 Z.f_struck_as Z.fd_struck_as ["sign", "caps"] (spOf K T m_struck_as) :=
  def_ok Z.F_struck_as sc_struck_as rfl rfl fun cdv A outer s H E hr tk hp => (ss_one (s_ret (s_ifExp (t_w (w_and (t_val (s_var 1)) (w_and1 (t_cmp (o_in (units65 hr)) (s_var 0) (s_gstr (s := q_x61_62_63_64_65_66_67_68_69_6a_6b_6c_6d_6e_26) rfl Z.g_LETTERS rfl) rfl)))) (s_ix o_ix (s_gstr (s := q_x41_42_43_44_45_46_47_48_49_4a_4b_4c_4d_4e_26) rfl Z.g_GREAT rfl) (s_ms PySem.F.slot_str_index PySem.F.type_str_index m_index (s_gstr (s := q_x61_62_63_64_65_66_67_68_69_6a_6b_6c_6d_6e_26) rfl Z.g_LETTERS rfl) (a_cons (s_var 0) a_nil))) (s_var 0))))
theorem sc_Machine___init__ : FnScope ["self", "machine", "tabs"] ["self", "machine", "tabs"] (defScope (inClass (top 35) 0)) := ⟨rfl, rfl, rfl, by decide +kernel, rfl, by decide +kernel, by decide +kernel⟩
theorem bi_Machine___init__ (Z : Fx K mg T) : Binds K Z.fd_Machine___init__ ["self", "machine", "tabs"] [] := Z.F_Machine___init__.bindsN fun _ _ _ _ _ _ us hl => match us, hl with | [_, _, _], _ => rfl
theorem ok_Machine___init__ (Z : Fx K mg T) : FnOk P w K mg base (L2.CX P w) 2 Z.f_Machine___init__ Z.fd_Machine___init__ ["self", "machine", "tabs"] (spOf K T m_Machine___init__) :=
  def_ok Z.F_Machine___init__ sc_Machine___init__ rfl rfl fun cdv A outer s H E hr tk hp => (ss_cons (s_setFld Z.cf_Machine (i := 0) rfl (s_var 0) (s_ix o_ix (s_var 1) s_int))
    (ss_cons (s_setFld Z.cf_Machine (i := 1) rfl (s_var 0) (s_ix o_ix (s_var 1) s_int))
    (ss_cons (s_setFld Z.cf_Machine (i := 2) rfl (s_var 0) (s_call (ok_end_of Z) (hr.mono (by decide)) tk rfl Z.g_end_of Z.F_end_of.kp (bi_end_of Z) (a_cons (s_var 1) a_nil)))
    (ss_cons (s_setFld Z.cf_Machine (i := 3) rfl (s_var 0) s_int)
    (ss_cons (s_setFld Z.cf_Machine (i := 4) rfl (s_var 0) s_int)
    (ss_cons (s_setFld Z.cf_Machine (i := 5) rfl (s_var 0) s_int)
    (ss_cons (s_setFld Z.cf_Machine (i := 6) rfl (s_var 0) (s_fld Z.cf_Machine (i := 2) rfl (s_var 0)))
    (ss_cons (s_setFld Z.cf_Machine (i := 7) rfl (s_var 0) (s_new (f_callTy c_list rfl Z.b_list rfl (a_cons (s_var 2) a_nil))))
    (ss_cons (s_setFld Z.cf_Machine (i := 8) rfl (s_var 0) (s_str (s := q_black) rfl))
    (ss_cons (s_setFld Z.cf_Machine (i := 9) rfl (s_var 0) s_bl)
    (ss_cons (s_setFld Z.cf_Machine (i := 10) rfl (s_var 0) s_bl)
    (ss_cons (s_setFld Z.cf_Machine (i := 11) rfl (s_var 0) (s_new (f_lst a_nil)))
    (ss_cons (s_setFld Z.cf_Machine (i := 12) rfl (s_var 0) (s_new (f_lst a_nil)))
    (ss_one (s_setFld Z.cf_Machine (i := 13) rfl (s_var 0) s_int)))))))))))))))
theorem nf_Machine_is_locked : ("is_locked" : Str) ∉ (["dead", "down", "end", "row", "place", "low", "high", "tabs", "colour", "caps", "is_free", "marks", "rings", "many"] : List Str) := by decide +kernel
theorem sc_Machine_is_locked : FnScope ["self", "place"] ["self", "place"] (defScope (inClass (top 35) 1)) := ⟨rfl, rfl, rfl, by decide +kernel, rfl, by decide +kernel, by decide +kernel⟩
theorem bi_Machine_is_locked (Z : Fx K mg T) : Binds K Z.fd_Machine_is_locked ["self", "place"] [] := Z.F_Machine_is_locked.bindsN fun _ _ _ _ _ _ us hl => match us, hl with | [_, _], _ => rfl
theorem ok_Machine_is_locked (Z : Fx K mg T) : FnOk P w K mg base (L2.CX P w) 1 Z.f_Machine_is_locked Z.fd_Machine_is_locked ["self", "place"] (spOf K T m_Machine_is_locked) :=
  def_ok Z.F_Machine_is_locked sc_Machine_is_locked rfl rfl fun cdv A outer s H E hr tk hp => (ss_one (s_ret (s_or (s_cmp o_gt (s_var 1) (s_fld Z.cf_Machine (i := 2) rfl (s_var 0)) rfl) (s_one (s_and (s_not (s_fld Z.cf_Machine (i := 10) rfl (s_var 0))) (s_one (s_cmp o_gt (s_var 1) (s_fld Z.cf_Machine (i := 6) rfl (s_var 0)) rfl)))))))
theorem nf_Machine_go_on : ("go_on" : Str) ∉ (["dead", "down", "end", "row", "place", "low", "high", "tabs", "colour", "caps", "is_free", "marks", "rings", "many"] : List Str) := by decide +kernel
theorem sc_Machine_go_on : FnScope ["self", "place"] ["self", "place"] (defScope (inClass (top 35) 2)) := ⟨rfl, rfl, rfl, by decide +kernel, rfl, by decide +kernel, by decide +kernel⟩
theorem bi_Machine_go_on (Z : Fx K mg T) : Binds K Z.fd_Machine_go_on ["self", "place"] [] := Z.F_Machine_go_on.bindsN fun _ _ _ _ _ _ us hl => match us, hl with | [_, _], _ => rfl
theorem ok_Machine_go_on (Z : Fx K mg T) : FnOk P w K mg base (L2.CX P w) 1 Z.f_Machine_go_on Z.fd_Machine_go_on ["self", "place"] (spOf K T m_Machine_go_on) :=
  def_ok Z.F_Machine_go_on sc_Machine_go_on rfl rfl fun cdv A outer s H E hr tk hp => (ss_cons (s_if (t_chain o_lt o_le (s_fld Z.cf_Machine (i := 4) rfl (s_var 0)) (s_op o_sub (s_fld Z.cf_Machine (i := 6) rfl (s_var 0)) (s_gint rfl Z.g_BELL)) (s_var 1)) (ss_one (s_expr (s_mm PySem.F.slot_list_append PySem.F.type_list_append m_append (s_fld Z.cf_Machine (i := 12) rfl (s_var 0)) (a_cons (s_fld Z.cf_Machine (i := 13) rfl (s_var 0)) a_nil)))) ss_nil)
    (ss_one (s_setFld Z.cf_Machine (i := 4) rfl (s_var 0) (s_var 1))))
theorem nf_Machine_strike : ("strike" : Str) ∉ (["dead", "down", "end", "row", "place", "low", "high", "tabs", "colour", "caps", "is_free", "marks", "rings", "many"] : List Str) := by decide +kernel
theorem sc_Machine_strike : FnScope ["self", "sign", "told"] ["self", "sign"] (defScope (inClass (top 35) 3)) := ⟨rfl, rfl, rfl, by decide +kernel, rfl, by decide +kernel, by decide +kernel⟩
theorem bi_Machine_strike (Z : Fx K mg T) : Binds K Z.fd_Machine_strike ["self", "sign"] [] := Z.F_Machine_strike.bindsN fun _ _ _ _ _ _ us hl => match us, hl with | [_, _], _ => rfl
theorem ok_Machine_strike (Z : Fx K mg T) : FnOk P w K mg base (L2.CX P w) 2 Z.f_Machine_strike Z.fd_Machine_strike ["self", "sign"] (spOf K T m_Machine_strike) :=
  def_ok Z.F_Machine_strike sc_Machine_strike rfl rfl fun cdv A outer s H E hr tk hp => (ss_cons (s_if (t_val (s_meth (pl := _) Z.cf_Machine nf_Machine_is_locked Z.me_Machine_is_locked (ok_Machine_is_locked Z) (hr.mono (by decide)) tk (bi_Machine_is_locked Z) (s_var 0) (a_cons (s_op o_add (s_fld Z.cf_Machine (i := 4) rfl (s_var 0)) s_int) a_nil))) (ss_one (s_ret (s_tup (a_cons (s_str (s := q_locked) rfl) a_nil)))) ss_nil)
    (ss_cons (s_set (i := 2) sc_Machine_strike.nd rfl (.inl rfl) (s_tup (a_cons (s_fld Z.cf_Machine (i := 3) rfl (s_var 0)) (a_cons (s_fld Z.cf_Machine (i := 4) rfl (s_var 0)) (a_cons (s_call (ok_struck_as Z) (hr.mono (by decide)) tk rfl Z.g_struck_as Z.F_struck_as.kp (bi_struck_as Z) (a_cons (s_var 1) (a_cons (s_fld Z.cf_Machine (i := 9) rfl (s_var 0)) a_nil))) (a_cons (s_fld Z.cf_Machine (i := 8) rfl (s_var 0)) a_nil))))))
    (ss_cons (s_expr (s_mm PySem.F.slot_list_append PySem.F.type_list_append m_append (s_fld Z.cf_Machine (i := 11) rfl (s_var 0)) (a_cons (s_op o_add (s_tup (a_cons (s_fld Z.cf_Machine (i := 13) rfl (s_var 0)) a_nil)) (s_var 2)) a_nil)))
    (ss_cons (s_if (t_cmp (o_notIn (units65 hr)) (s_var 1) (s_fld Z.cf_Machine (i := 0) rfl (s_var 0)) rfl) (ss_one (s_expr (s_meth (pl := _) Z.cf_Machine nf_Machine_go_on Z.me_Machine_go_on (ok_Machine_go_on Z) (hr.mono (by decide)) tk (bi_Machine_go_on Z) (s_var 0) (a_cons (s_op o_add (s_fld Z.cf_Machine (i := 4) rfl (s_var 0)) s_int) a_nil)))) ss_nil)
    (ss_one (s_ret (s_op o_add (s_tup (a_cons (s_str (s := q_struck) rfl) a_nil)) (s_var 2))))))))
theorem nf_Machine_lift : ("lift" : Str) ∉ (["dead", "down", "end", "row", "place", "low", "high", "tabs", "colour", "caps", "is_free", "marks", "rings", "many"] : List Str) := by decide +kernel
theorem sc_Machine_lift : FnScope ["self", "sign", "like", "some", "told", "number", "mark"] ["self", "sign"] (defScope (inClass (top 35) 4)) := ⟨rfl, rfl, rfl, by decide +kernel, rfl, by decide +kernel, by decide +kernel⟩
theorem bi_Machine_lift (Z : Fx K mg T) : Binds K Z.fd_Machine_lift ["self", "sign"] [] := Z.F_Machine_lift.bindsN fun _ _ _ _ _ _ us hl => match us, hl with | [_, _], _ => rfl
theorem ok_Machine_lift (Z : Fx K mg T) : FnOk P w K mg base (L2.CX P w) 2 Z.f_Machine_lift Z.fd_Machine_lift ["self", "sign"] (spOf K T m_Machine_lift) :=
  def_ok Z.F_Machine_lift sc_Machine_lift rfl rfl fun cdv A outer s H E hr tk hp => (ss_cons (s_if (t_val (s_meth (pl := _) Z.cf_Machine nf_Machine_is_locked Z.me_Machine_is_locked (ok_Machine_is_locked Z) (hr.mono (by decide)) tk (bi_Machine_is_locked Z) (s_var 0) (a_cons (s_op o_add (s_fld Z.cf_Machine (i := 4) rfl (s_var 0)) s_int) a_nil))) (ss_one (s_ret (s_tup (a_cons (s_str (s := q_locked) rfl) a_nil)))) ss_nil)
    (ss_cons (s_set (i := 2) sc_Machine_lift.nd rfl (.inr rfl) (s_tup (a_cons (s_fld Z.cf_Machine (i := 3) rfl (s_var 0)) (a_cons (s_fld Z.cf_Machine (i := 4) rfl (s_var 0)) (a_cons (s_call (ok_struck_as Z) (hr.mono (by decide)) tk rfl Z.g_struck_as Z.F_struck_as.kp (bi_struck_as Z) (a_cons (s_var 1) (a_cons (s_fld Z.cf_Machine (i := 9) rfl (s_var 0)) a_nil))) a_nil)))))
    (ss_cons (s_setComp (i := 3) (own := [("number", 5), ("mark", 6)]) k_frz rfl sc_Machine_lift.nd rfl rfl rfl (i_enum rfl Z.b_enumerate (s_fld Z.cf_Machine (i := 11) rfl (s_var 0))) (blkOk_by (by kernel_rfl)) rfl (by decide) (fun _ _ _ _ _ => (g_tup rfl (gs_cons (g_nm sc_Machine_lift.nd rfl (.inl rfl)) (gs_cons (g_nm sc_Machine_lift.nd rfl (.inl rfl)) gs_nil)) rfl)) (fun _ _ _ _ _ => (ts_one (t_cmp (o_eq hr.units) (s_slice (s_var 6) (o_some s_int) (o_some s_int)) (s_var 2) rfl))) (fun _ _ _ _ _ => (s_var 5)))
    (ss_cons (s_set (i := 4) sc_Machine_lift.nd rfl (.inl rfl) (s_op o_add (s_tup (a_cons (s_str (s := q_nothing) rfl) a_nil)) (s_slice (s_var 2) o_none (o_some s_int))))
    (ss_cons (s_if (t_cmp (o_ne hr.units) (s_var 3) (s_frz (f_lst a_nil)) rfl) (ss_one (s_set (i := 4) sc_Machine_lift.nd rfl (.inl rfl) (s_op o_add (s_tup (a_cons (s_str (s := q_lifted) rfl) a_nil)) (s_slice (s_mm PySem.F.slot_list_pop PySem.F.type_list_pop m_pop (s_fld Z.cf_Machine (i := 11) rfl (s_var 0)) (a_cons (s_ix o_ix (s_var 3) (s_neg s_int)) a_nil)) (o_some s_int) o_none)))) ss_nil)
    (ss_cons (s_if (t_cmp (o_notIn (units65 hr)) (s_var 1) (s_fld Z.cf_Machine (i := 0) rfl (s_var 0)) rfl) (ss_one (s_expr (s_meth (pl := _) Z.cf_Machine nf_Machine_go_on Z.me_Machine_go_on (ok_Machine_go_on Z) (hr.mono (by decide)) tk (bi_Machine_go_on Z) (s_var 0) (a_cons (s_op o_add (s_fld Z.cf_Machine (i := 4) rfl (s_var 0)) s_int) a_nil)))) ss_nil)
    (ss_one (s_ret (s_var 4)))))))))
theorem nf_Machine_move : ("move" : Str) ∉ (["dead", "down", "end", "row", "place", "low", "high", "tabs", "colour", "caps", "is_free", "marks", "rings", "many"] : List Str) := by decide +kernel
theorem sc_Machine_move : FnScope ["self", "word", "place", "tab"] ["self", "word"] (defScope (inClass (top 35) 5)) := ⟨rfl, rfl, rfl, by decide +kernel, rfl, by decide +kernel, by decide +kernel⟩
theorem bi_Machine_move (Z : Fx K mg T) : Binds K Z.fd_Machine_move ["self", "word"] [] := Z.F_Machine_move.bindsN fun _ _ _ _ _ _ us hl => match us, hl with | [_, _], _ => rfl
theorem ok_Machine_move (Z : Fx K mg T) : FnOk P w K mg base (L2.CX P w) 2 Z.f_Machine_move Z.fd_Machine_move ["self", "word"] (spOf K T m_Machine_move) :=
  def_ok Z.F_Machine_move sc_Machine_move rfl rfl fun cdv A outer s H E hr tk hp => (ss_cons (s_if (t_cmp (o_eq hr.units) (s_var 1) (s_str (s := q_back) rfl) rfl) (ss_cons (s_set (i := 2) sc_Machine_move.nd rfl (.inl rfl) (s_op o_sub (s_fld Z.cf_Machine (i := 4) rfl (s_var 0)) s_int))
    (ss_cons (s_if (t_w (w_or (t_cmp o_lt (s_var 2) s_int rfl) (w_or1 (t_w (w_and (t_not (t_val (s_fld Z.cf_Machine (i := 10) rfl (s_var 0)))) (w_and1 (t_chain o_lt o_le (s_var 2) (s_fld Z.cf_Machine (i := 5) rfl (s_var 0)) (s_fld Z.cf_Machine (i := 4) rfl (s_var 0))))))))) (ss_one (s_ret (s_tup (a_cons (s_str (s := q_locked) rfl) a_nil)))) ss_nil)
    (ss_cons (s_setFld Z.cf_Machine (i := 4) rfl (s_var 0) (s_var 2))
    (ss_one (s_ret (s_tup (a_cons (s_str (s := q_moved) rfl) (a_cons (s_fld Z.cf_Machine (i := 3) rfl (s_var 0)) (a_cons (s_var 2) a_nil))))))))) ss_nil)
    (ss_cons (s_set (i := 2) sc_Machine_move.nd rfl (.inl rfl) (s_op o_add (s_fld Z.cf_Machine (i := 4) rfl (s_var 0)) (s_dget2 (units1 hr) (s_frzQ (q_disp (q_cons (s_str (s := q_blank) rfl) s_int (q_cons (s_str (s := q_half) rfl) s_int q_nil)))) (s_var 1) s_int)))
    (ss_cons (s_if (t_cmp (o_eq hr.units) (s_var 1) (s_str (s := q_tab) rfl) rfl) (ss_one (s_set (i := 2) sc_Machine_move.nd rfl (.inl rfl) (s_ix o_ix (s_op o_add (s_frz (f_comp (own := [("tab", 3)]) rfl sc_Machine_move.nd (i_seq (s_fld Z.cf_Machine (i := 7) rfl (s_var 0))) (blkOk_by (by kernel_rfl)) rfl (by decide) (fun _ _ _ _ _ => (g_nm sc_Machine_move.nd rfl (.inl rfl))) (fun _ _ _ _ _ => (ts_one (t_cmp o_gt (s_var 3) (s_fld Z.cf_Machine (i := 4) rfl (s_var 0)) rfl))) (fun _ _ _ _ _ => (s_var 3)))) (s_frz (f_lst (a_cons (s_op o_add (s_fld Z.cf_Machine (i := 2) rfl (s_var 0)) s_int) a_nil)))) s_int))) ss_nil)
    (ss_cons (s_if (t_val (s_meth (pl := _) Z.cf_Machine nf_Machine_is_locked Z.me_Machine_is_locked (ok_Machine_is_locked Z) (hr.mono (by decide)) tk (bi_Machine_is_locked Z) (s_var 0) (a_cons (s_var 2) a_nil))) (ss_one (s_ret (s_tup (a_cons (s_str (s := q_locked) rfl) a_nil)))) ss_nil)
    (ss_cons (s_expr (s_meth (pl := _) Z.cf_Machine nf_Machine_go_on Z.me_Machine_go_on (ok_Machine_go_on Z) (hr.mono (by decide)) tk (bi_Machine_go_on Z) (s_var 0) (a_cons (s_var 2) a_nil)))
    (ss_one (s_ret (s_tup (a_cons (s_str (s := q_moved) rfl) (a_cons (s_fld Z.cf_Machine (i := 3) rfl (s_var 0)) (a_cons (s_var 2) a_nil)))))))))))
theorem nf_Machine_roll : ("roll" : Str) ∉ (["dead", "down", "end", "row", "place", "low", "high", "tabs", "colour", "caps", "is_free", "marks", "rings", "many"] : List Str) := by decide +kernel
theorem sc_Machine_roll : FnScope ["self", "word", "row"] ["self", "word"] (defScope (inClass (top 35) 6)) := ⟨rfl, rfl, rfl, by decide +kernel, rfl, by decide +kernel, by decide +kernel⟩
theorem bi_Machine_roll (Z : Fx K mg T) : Binds K Z.fd_Machine_roll ["self", "word"] [] := Z.F_Machine_roll.bindsN fun _ _ _ _ _ _ us hl => match us, hl with | [_, _], _ => rfl
theorem ok_Machine_roll (Z : Fx K mg T) : FnOk P w K mg base (L2.CX P w) 1 Z.f_Machine_roll Z.fd_Machine_roll ["self", "word"] (spOf K T m_Machine_roll) :=
  def_ok Z.F_Machine_roll sc_Machine_roll rfl rfl fun cdv A outer s H E hr tk hp => (ss_cons (s_set (i := 2) sc_Machine_roll.nd rfl (.inl rfl) (s_op o_add (s_fld Z.cf_Machine (i := 3) rfl (s_var 0)) (s_dget2 (units1 hr) (s_frzQ (q_disp (q_cons (s_str (s := q_return) rfl) (s_fld Z.cf_Machine (i := 1) rfl (s_var 0)) (q_cons (s_str (s := q_up) rfl) (s_neg s_int) q_nil)))) (s_var 1) s_int)))
    (ss_cons (s_if (t_not (t_chain o_le o_le s_int (s_var 2) (s_gint rfl Z.g_ROWS))) (ss_one (s_ret (s_tup (a_cons (s_str (s := q_locked) rfl) a_nil)))) ss_nil)
    (ss_cons (s_setFld Z.cf_Machine (i := 3) rfl (s_var 0) (s_var 2))
    (ss_cons (s_if (t_cmp (o_eq hr.units) (s_var 1) (s_str (s := q_return) rfl) rfl) (ss_cons (s_setFld Z.cf_Machine (i := 4) rfl (s_var 0) (s_fld Z.cf_Machine (i := 5) rfl (s_var 0)))
    (ss_one (s_setFld Z.cf_Machine (i := 10) rfl (s_var 0) s_bl))) ss_nil)
    (ss_one (s_ret (s_tup (a_cons (s_str (s := q_moved) rfl) (a_cons (s_var 2) (a_cons (s_fld Z.cf_Machine (i := 4) rfl (s_var 0)) a_nil))))))))))
theorem nf_Machine_set_up : ("set_up" : Str) ∉ (["dead", "down", "end", "row", "place", "low", "high", "tabs", "colour", "caps", "is_free", "marks", "rings", "many"] : List Str) := by decide +kernel
theorem sc_Machine_set_up : FnScope ["self", "word"] ["self", "word"] (defScope (inClass (top 35) 7)) := ⟨rfl, rfl, rfl, by decide +kernel, rfl, by decide +kernel, by decide +kernel⟩
theorem bi_Machine_set_up (Z : Fx K mg T) : Binds K Z.fd_Machine_set_up ["self", "word"] [] := Z.F_Machine_set_up.bindsN fun _ _ _ _ _ _ us hl => match us, hl with | [_, _], _ => rfl
theorem ok_Machine_set_up (Z : Fx K mg T) : FnOk P w K mg base (L2.CX P w) 1 Z.f_Machine_set_up Z.fd_Machine_set_up ["self", "word"] (spOf K T m_Machine_set_up) :=
  def_ok Z.F_Machine_set_up sc_Machine_set_up rfl rfl fun cdv A outer s H E hr tk hp => (ss_cons (s_if (t_w (w_and (t_cmp (o_eq hr.units) (s_var 1) (s_str (s := q_left) rfl) rfl) (w_and1 (t_cmp o_lt (s_fld Z.cf_Machine (i := 4) rfl (s_var 0)) (s_fld Z.cf_Machine (i := 6) rfl (s_var 0)) rfl)))) (ss_one (s_setFld Z.cf_Machine (i := 5) rfl (s_var 0) (s_fld Z.cf_Machine (i := 4) rfl (s_var 0)))) (ss_one (s_if (t_w (w_and (t_cmp (o_eq hr.units) (s_var 1) (s_str (s := q_right) rfl) rfl) (w_and1 (t_cmp o_gt (s_fld Z.cf_Machine (i := 4) rfl (s_var 0)) (s_fld Z.cf_Machine (i := 5) rfl (s_var 0)) rfl)))) (ss_one (s_setFld Z.cf_Machine (i := 6) rfl (s_var 0) (s_fld Z.cf_Machine (i := 4) rfl (s_var 0)))) (ss_one (s_if (t_cmp (o_eq hr.units) (s_var 1) (s_str (s := q_set) rfl) rfl) (ss_one (s_setFld Z.cf_Machine (i := 7) rfl (s_var 0) (s_new (f_sortSet rfl rfl Z.b_sorted rfl Z.b_set (s_op o_add (s_fld Z.cf_Machine (i := 7) rfl (s_var 0)) (s_frz (f_lst (a_cons (s_fld Z.cf_Machine (i := 4) rfl (s_var 0)) a_nil)))))))) (ss_one (s_if (t_w (w_and (t_cmp (o_eq hr.units) (s_var 1) (s_str (s := q_clear) rfl) rfl) (w_and1 (t_cmp (o_in (units65 hr)) (s_fld Z.cf_Machine (i := 4) rfl (s_var 0)) (s_fld Z.cf_Machine (i := 7) rfl (s_var 0)) rfl)))) (ss_one (s_expr (s_mm PySem.F.slot_list_remove PySem.F.type_list_remove (m_remove (units65 hr)) (s_fld Z.cf_Machine (i := 7) rfl (s_var 0)) (a_cons (s_fld Z.cf_Machine (i := 4) rfl (s_var 0)) a_nil)))) (ss_one (s_if (t_cmp (o_eq hr.units) (s_var 1) (s_str (s := q_all) rfl) rfl) (ss_one (s_setFld Z.cf_Machine (i := 7) rfl (s_var 0) (s_new (f_lst a_nil)))) (ss_one (s_if (t_cmp (o_eq hr.units) (s_var 1) (s_str (s := q_free) rfl) rfl) (ss_one (s_setFld Z.cf_Machine (i := 10) rfl (s_var 0) s_bl)) (ss_one (s_if (t_cmp (o_eq hr.units) (s_var 1) (s_str (s := q_ribbon) rfl) rfl) (ss_one (s_setFld Z.cf_Machine (i := 8) rfl (s_var 0) (s_ifExp (t_cmp (o_eq hr.units) (s_fld Z.cf_Machine (i := 8) rfl (s_var 0)) (s_str (s := q_black) rfl) rfl) (s_str (s := q_red) rfl) (s_str (s := q_black) rfl)))) (ss_one (s_if (t_cmp (o_eq hr.units) (s_var 1) (s_str (s := q_caps) rfl) rfl) (ss_one (s_setFld Z.cf_Machine (i := 9) rfl (s_var 0) (s_not (s_fld Z.cf_Machine (i := 9) rfl (s_var 0))))) (ss_one (s_ret (s_tup (a_cons (s_str (s := q_locked) rfl) a_nil)))))))))))))))))))
    (ss_one (s_ret (s_tup (a_cons (s_str (s := q_done) rfl) a_nil)))))
theorem nf_Machine_press : ("press" : Str) ∉ (["dead", "down", "end", "row", "place", "low", "high", "tabs", "colour", "caps", "is_free", "marks", "rings", "many"] : List Str) := by decide +kernel
theorem sc_Machine_press : FnScope ["self", "key", "told"] ["self", "key"] (defScope (inClass (top 35) 8)) := ⟨rfl, rfl, rfl, by decide +kernel, rfl, by decide +kernel, by decide +kernel⟩
theorem bi_Machine_press (Z : Fx K mg T) : Binds K Z.fd_Machine_press ["self", "key"] [] := Z.F_Machine_press.bindsN fun _ _ _ _ _ _ us hl => match us, hl with | [_, _], _ => rfl
theorem ok_Machine_press (Z : Fx K mg T) : FnOk P w K mg base (L2.CX P w) 3 Z.f_Machine_press Z.fd_Machine_press ["self", "key"] (spOf K T m_Machine_press) :=
  def_ok Z.F_Machine_press sc_Machine_press rfl rfl fun cdv A outer s H E hr tk hp => (ss_cons (s_if (t_cmp (o_eq hr.units) (s_ix o_ix (s_var 1) s_int) (s_str (s := q_sign) rfl) rfl) (ss_one (s_set (i := 2) sc_Machine_press.nd rfl (.inl rfl) (s_meth (pl := _) Z.cf_Machine nf_Machine_strike Z.me_Machine_strike (ok_Machine_strike Z) (hr.mono (by decide)) tk (bi_Machine_strike Z) (s_var 0) (a_cons (s_ix o_ix (s_var 1) s_int) a_nil)))) (ss_one (s_if (t_cmp (o_eq hr.units) (s_ix o_ix (s_var 1) s_int) (s_str (s := q_lift) rfl) rfl) (ss_one (s_set (i := 2) sc_Machine_press.nd rfl (.inl rfl) (s_meth (pl := _) Z.cf_Machine nf_Machine_lift Z.me_Machine_lift (ok_Machine_lift Z) (hr.mono (by decide)) tk (bi_Machine_lift Z) (s_var 0) (a_cons (s_ix o_ix (s_var 1) s_int) a_nil)))) (ss_one (s_if (t_cmp (o_in (units65 hr)) (s_ix o_ix (s_var 1) s_int) (s_tup (a_cons (s_str (s := q_blank) rfl) (a_cons (s_str (s := q_half) rfl) (a_cons (s_str (s := q_back) rfl) (a_cons (s_str (s := q_tab) rfl) a_nil))))) rfl) (ss_one (s_set (i := 2) sc_Machine_press.nd rfl (.inl rfl) (s_meth (pl := _) Z.cf_Machine nf_Machine_move Z.me_Machine_move (ok_Machine_move Z) (hr.mono (by decide)) tk (bi_Machine_move Z) (s_var 0) (a_cons (s_ix o_ix (s_var 1) s_int) a_nil)))) (ss_one (s_if (t_cmp (o_in (units65 hr)) (s_ix o_ix (s_var 1) s_int) (s_tup (a_cons (s_str (s := q_return) rfl) (a_cons (s_str (s := q_up) rfl) (a_cons (s_str (s := q_down) rfl) a_nil)))) rfl) (ss_one (s_set (i := 2) sc_Machine_press.nd rfl (.inl rfl) (s_meth (pl := _) Z.cf_Machine nf_Machine_roll Z.me_Machine_roll (ok_Machine_roll Z) (hr.mono (by decide)) tk (bi_Machine_roll Z) (s_var 0) (a_cons (s_ix o_ix (s_var 1) s_int) a_nil)))) (ss_one (s_set (i := 2) sc_Machine_press.nd rfl (.inl rfl) (s_meth (pl := _) Z.cf_Machine nf_Machine_set_up Z.me_Machine_set_up (ok_Machine_set_up Z) (hr.mono (by decide)) tk (bi_Machine_set_up Z) (s_var 0) (a_cons (s_ix o_ix (s_var 1) s_int) a_nil)))))))))))
    (ss_cons (s_setFld Z.cf_Machine (i := 13) rfl (s_var 0) (s_op o_add (s_fld Z.cf_Machine (i := 13) rfl (s_var 0)) s_int))
    (ss_one (s_ret (s_var 2)))))
theorem nf_Machine_stand : ("stand" : Str) ∉ (["dead", "down", "end", "row", "place", "low", "high", "tabs", "colour", "caps", "is_free", "marks", "rings", "many"] : List Str) := by decide +kernel
theorem sc_Machine_stand : FnScope ["self", "where"] ["self"] (defScope (inClass (top 35) 9)) := ⟨rfl, rfl, rfl, by decide +kernel, rfl, by decide +kernel, by decide +kernel⟩
theorem bi_Machine_stand (Z : Fx K mg T) : Binds K Z.fd_Machine_stand ["self"] [] := Z.F_Machine_stand.bindsN fun _ _ _ _ _ _ us hl => match us, hl with | [_], _ => rfl
theorem ok_Machine_stand (Z : Fx K mg T) : FnOk P w K mg base (L2.CX P w) 1 Z.f_Machine_stand Z.fd_Machine_stand ["self"] (spOf K T m_Machine_stand) :=
  def_ok Z.F_Machine_stand sc_Machine_stand rfl rfl fun cdv A outer s H E hr tk hp => (ss_cons (s_set (i := 1) sc_Machine_stand.nd rfl (.inl rfl) (s_tup (a_cons (s_fld Z.cf_Machine (i := 3) rfl (s_var 0)) (a_cons (s_fld Z.cf_Machine (i := 4) rfl (s_var 0)) (a_cons (s_fld Z.cf_Machine (i := 5) rfl (s_var 0)) (a_cons (s_fld Z.cf_Machine (i := 6) rfl (s_var 0)) a_nil))))))
    (ss_one (s_ret (s_op o_add (s_var 1) (s_tup (a_cons (s_callTy c_tuple rfl Z.b_tuple boot_tuple (a_cons (s_fld Z.cf_Machine (i := 7) rfl (s_var 0)) a_nil)) (a_cons (s_fld Z.cf_Machine (i := 8) rfl (s_var 0)) (a_cons (s_fld Z.cf_Machine (i := 9) rfl (s_var 0)) (a_cons (s_fld Z.cf_Machine (i := 10) rfl (s_var 0)) a_nil)))))))))
theorem sc_worked : FnScope ["machine", "tabs", "keys", "work", "told", "key"] ["machine", "tabs", "keys"] (defScope (top 36)) := ⟨rfl, rfl, rfl, by decide +kernel, rfl, by decide +kernel, by decide +kernel⟩
theorem bi_worked (Z : Fx K mg T) : Binds K Z.fd_worked ["machine", "tabs", "keys"] [] := Z.F_worked.bindsN fun _ _ _ _ _ _ us hl => match us, hl with | [_, _, _], _ => rfl
theorem ok_worked (Z : Fx K mg T) : FnOk P w K mg base (L2.CX P w) 4 Z.f_worked Z.fd_worked ["machine", "tabs", "keys"] (spOf K T m_worked) :=
  def_ok Z.F_worked sc_worked rfl rfl fun cdv A outer s H E hr tk hp => (ss_cons (s_set (i := 3) sc_worked.nd rfl (.inr rfl) (s_make Z.mk_Machine (ok_Machine___init__ Z) (hr.mono (by decide)) tk rfl Z.gc_Machine (bi_Machine___init__ Z) (a_cons (s_var 0) (a_cons (s_var 1) a_nil))))
    (ss_cons (s_setComp (i := 4) (own := [("key", 5)]) k_frz rfl sc_worked.nd rfl rfl rfl (i_seq (s_var 2)) (blkOk_by (by kernel_rfl)) rfl (by decide) (fun _ _ _ _ _ => (g_nm sc_worked.nd rfl (.inl rfl))) (fun _ _ _ _ _ => ts_nil) (fun _ _ _ _ _ => (s_meth (pl := _) Z.cf_Machine nf_Machine_press Z.me_Machine_press (ok_Machine_press Z) (hr.mono (by decide)) takes0 (bi_Machine_press Z) (s_var 3) (a_cons (s_var 5) a_nil))))
    (ss_one (s_ret (s_tup (a_cons (s_var 3) (a_cons (s_var 4) a_nil)))))))
theorem sc_need_both : FnScope ["machine", "keys"] ["machine", "keys"] (defScope (top 37)) := ⟨rfl, rfl, rfl, by decide +kernel, rfl, by decide +kernel, by decide +kernel⟩
theorem bi_need_both (Z : Fx K mg T) : Binds K Z.fd_need_both ["machine", "keys"] [] := Z.F_need_both.bindsN fun _ _ _ _ _ _ us hl => match us, hl with | [_, _], _ => rfl
theorem ok_need_both (Z : Fx K mg T) : FnOk P w K mg base (L2.CX P w) 4 Z.f_need_both Z.fd_need_both ["machine", "keys"] (spOf K T m_need_both) :=
  def_ok Z.F_need_both sc_need_both rfl rfl fun cdv A outer s H E hr tk hp => (ss_cons (s_expr (s_call (ok_need_machine Z) (hr.mono (by decide)) tk rfl Z.g_need_machine Z.F_need_machine.kp (bi_need_machine Z) (a_cons (s_var 0) a_nil)))
    (ss_one (s_expr (s_call (ok_need_keys Z) (hr.mono (by decide)) tk rfl Z.g_need_keys Z.F_need_keys.kp (bi_need_keys Z) (a_cons (s_var 1) a_nil)))))
theorem sc_state : FnScope ["machine", "keys"] ["machine", "keys"] (defScope (top 38)) := ⟨rfl, rfl, rfl, by decide +kernel, rfl, by decide +kernel, by decide +kernel⟩
theorem bi_state (Z : Fx K mg T) : Binds K Z.fd_state ["machine", "keys"] [] := Z.F_state.bindsN fun _ _ _ _ _ _ us hl => match us, hl with | [_, _], _ => rfl
theorem ok_state (Z : Fx K mg T) : FnOk P w K mg base (L2.CX P w) 5 Z.f_state Z.fd_state ["machine", "keys"] (spOf K T m_state) :=
  def_ok Z.F_state sc_state rfl rfl fun cdv A outer s H E hr tk hp => (ss_cons (s_expr (s_call (ok_need_both Z) (hr.mono (by decide)) tk rfl Z.g_need_both Z.F_need_both.kp (bi_need_both Z) (a_cons (s_var 0) (a_cons (s_var 1) a_nil))))
    (ss_one (s_ret (s_meth0 (pl := _) Z.cf_Machine nf_Machine_stand Z.me_Machine_stand (ok_Machine_stand Z) (hr.mono (by decide)) tk (bi_Machine_stand Z) (s_ix o_ix (s_call (ok_worked Z) (hr.mono (by decide)) tk rfl Z.g_worked Z.F_worked.kp (bi_worked Z) (a_cons (s_var 0) (a_cons (s_tup a_nil) (a_cons (s_var 1) a_nil)))) s_int)))))
theorem sc_marks_of : FnScope ["machine", "keys", "some", "work", "told", "mark", "row", "place", "number"] ["machine", "keys"] (defScope (top 40)) := ⟨rfl, rfl, rfl, by decide +kernel, rfl, by decide +kernel, by decide +kernel⟩
theorem bi_marks_of (Z : Fx K mg T) : Binds K Z.fd_marks_of ["machine", "keys"] [] := Z.F_marks_of.bindsN fun _ _ _ _ _ _ us hl => match us, hl with | [_, _], _ => rfl
theorem ok_marks_of (Z : Fx K mg T) : FnOk P w K mg base (L2.CX P w) 5 Z.f_marks_of Z.fd_marks_of ["machine", "keys"] (spOf K T m_marks_of) :=
  def_ok Z.F_marks_of sc_marks_of rfl rfl fun cdv A outer s H E hr tk hp => (ss_cons (s_asg (s_call (ok_worked Z) (hr.mono (by decide)) tk rfl Z.g_worked Z.F_worked.kp (bi_worked Z) (a_cons (s_var 0) (a_cons (s_tup a_nil) (a_cons (s_var 1) a_nil)))) (g_tup rfl (gs_cons (g_nm sc_marks_of.nd rfl (.inl rfl)) (gs_cons (g_nm sc_marks_of.nd rfl (.inl rfl)) gs_nil)) rfl))
    (ss_cons (s_set (i := 2) sc_marks_of.nd rfl (.inl rfl) (s_frz (f_callB c_sortedT rfl Z.b_sorted boot_sorted (a_cons (s_frz (f_comp (own := [("mark", 5)]) rfl sc_marks_of.nd (i_seq (s_fld Z.cf_Machine (i := 11) rfl (s_var 3))) (blkOk_by (by kernel_rfl)) rfl (by decide) (fun _ _ _ _ _ => (g_nm sc_marks_of.nd rfl (.inl rfl))) (fun _ _ _ _ _ => ts_nil) (fun _ _ _ _ _ => (s_tup (a_cons (s_ix o_ix (s_var 5) s_int) (a_cons (s_ix o_ix (s_var 5) s_int) (a_cons (s_ix o_ix (s_var 5) s_int) (a_cons (s_slice (s_var 5) (o_some s_int) o_none) a_nil)))))))) a_nil))))
    (ss_one (s_ret (s_frz (f_comp (own := [("row", 6), ("place", 7), ("number", 8), ("mark", 5)]) rfl sc_marks_of.nd (i_seq (s_var 2)) (blkOk_by (by kernel_rfl)) rfl (by decide) (fun _ _ _ _ _ => (g_tup rfl (gs_cons (g_nm sc_marks_of.nd rfl (.inl rfl)) (gs_cons (g_nm sc_marks_of.nd rfl (.inl rfl)) (gs_cons (g_nm sc_marks_of.nd rfl (.inl rfl)) (gs_cons (g_nm sc_marks_of.nd rfl (.inl rfl)) gs_nil)))) rfl)) (fun _ _ _ _ _ => ts_nil) (fun _ _ _ _ _ => (s_op o_add (s_tup (a_cons (s_var 8) a_nil)) (s_var 5)))))))))
theorem sc_look_of : FnScope ["machine", "keys", "some", "mark", "strike"] ["machine", "keys"] (defScope (top 41)) := ⟨rfl, rfl, rfl, by decide +kernel, rfl, by decide +kernel, by decide +kernel⟩
theorem bi_look_of (Z : Fx K mg T) : Binds K Z.fd_look_of ["machine", "keys"] [] := Z.F_look_of.bindsN fun _ _ _ _ _ _ us hl => match us, hl with | [_, _], _ => rfl
theorem ok_look_of (Z : Fx K mg T) : FnOk P w K mg base (L2.CX P w) 6 Z.f_look_of Z.fd_look_of ["machine", "keys"] (spOf K T m_look_of) :=
  def_ok Z.F_look_of sc_look_of rfl rfl fun cdv A outer s H E hr tk hp => (ss_cons (s_set (i := 2) sc_look_of.nd rfl (.inr rfl) (s_frz (f_comp (own := [("mark", 3)]) rfl sc_look_of.nd (i_seq (s_call (ok_marks_of Z) (hr.mono (by decide)) tk rfl Z.g_marks_of Z.F_marks_of.kp (bi_marks_of Z) (a_cons (s_var 0) (a_cons (s_var 1) a_nil)))) (blkOk_by (by kernel_rfl)) rfl (by decide) (fun _ _ _ _ _ => (g_nm sc_look_of.nd rfl (.inl rfl))) (fun _ _ _ _ _ => ts_nil) (fun _ _ _ _ _ => (s_slice (s_var 3) (o_some s_int) o_none)))))
    (ss_one (s_ret (s_frz (f_comp (own := [("strike", 4)]) rfl sc_look_of.nd (i_seq (s_frz (f_sortSetD rfl rfl Z.b_sorted rfl Z.b_set (s_var 2) (units65 hr)))) (blkOk_by (by kernel_rfl)) rfl (by decide) (fun _ _ _ _ _ => (g_nm sc_look_of.nd rfl (.inl rfl))) (fun _ _ _ _ _ => ts_nil) (fun _ _ _ _ _ => (s_op o_add (s_var 4) (s_tup (a_cons (s_mm PySem.F.slot_list_count PySem.F.type_list_count (m_count (units65 hr)) (s_var 2) (a_cons (s_var 4) a_nil)) a_nil)))))))))
theorem sc_same_look : FnScope ["machine", "one", "other"] ["machine", "one", "other"] (defScope (top 42)) := ⟨rfl, rfl, rfl, by decide +kernel, rfl, by decide +kernel, by decide +kernel⟩
theorem bi_same_look (Z : Fx K mg T) : Binds K Z.fd_same_look ["machine", "one", "other"] [] := Z.F_same_look.bindsN fun _ _ _ _ _ _ us hl => match us, hl with | [_, _, _], _ => rfl
theorem ok_same_look (Z : Fx K mg T) : FnOk P w K mg base (L2.CX P w) 7 Z.f_same_look Z.fd_same_look ["machine", "one", "other"] (spOf K T m_same_look) :=
  def_ok Z.F_same_look sc_same_look rfl rfl fun cdv A outer s H E hr tk hp => (ss_cons (s_expr (s_call (ok_need_both Z) (hr.mono (by decide)) tk rfl Z.g_need_both Z.F_need_both.kp (bi_need_both Z) (a_cons (s_var 0) (a_cons (s_var 1) a_nil))))
    (ss_cons (s_expr (s_call (ok_need_keys Z) (hr.mono (by decide)) tk rfl Z.g_need_keys Z.F_need_keys.kp (bi_need_keys Z) (a_cons (s_var 2) a_nil)))
    (ss_one (s_ret (s_cmp (o_eq hr.units) (s_call (ok_look_of Z) (hr.mono (by decide)) tk rfl Z.g_look_of Z.F_look_of.kp (bi_look_of Z) (a_cons (s_var 0) (a_cons (s_var 1) a_nil))) (s_call (ok_look_of Z) (hr.mono (by decide)) tk rfl Z.g_look_of Z.F_look_of.kp (bi_look_of Z) (a_cons (s_var 0) (a_cons (s_var 2) a_nil))) rfl)))))
theorem sc_left_by : FnScope ["machine", "keys"] ["machine", "keys"] (defScope (top 45)) := ⟨rfl, rfl, rfl, by decide +kernel, rfl, by decide +kernel, by decide +kernel⟩
theorem bi_left_by (Z : Fx K mg T) : Binds K Z.fd_left_by ["machine", "keys"] [] := Z.F_left_by.bindsN fun _ _ _ _ _ _ us hl => match us, hl with | [_, _], _ => rfl
theorem ok_left_by (Z : Fx K mg T) : FnOk P w K mg base (L2.CX P w) 7 Z.f_left_by Z.fd_left_by ["machine", "keys"] (spOf K T m_left_by) :=
  def_ok Z.F_left_by sc_left_by rfl rfl fun cdv A outer s H E hr tk hp => (ss_one (s_ret (s_tup (a_cons (s_call (ok_look_of Z) (hr.mono (by decide)) tk rfl Z.g_look_of Z.F_look_of.kp (bi_look_of Z) (a_cons (s_var 0) (a_cons (s_var 1) a_nil))) (a_cons (s_meth0 (pl := _) Z.cf_Machine nf_Machine_stand Z.me_Machine_stand (ok_Machine_stand Z) (hr.mono (by decide)) tk (bi_Machine_stand Z) (s_ix o_ix (s_call (ok_worked Z) (hr.mono (by decide)) tk rfl Z.g_worked Z.F_worked.kp (bi_worked Z) (a_cons (s_var 0) (a_cons (s_tup a_nil) (a_cons (s_var 1) a_nil)))) s_int)) a_nil)))))
theorem sc_need_few : FnScope ["machine", "keys"] ["machine", "keys"] (defScope (top 46)) := ⟨rfl, rfl, rfl, by decide +kernel, rfl, by decide +kernel, by decide +kernel⟩
theorem bi_need_few (Z : Fx K mg T) : Binds K Z.fd_need_few ["machine", "keys"] [] := Z.F_need_few.bindsN fun _ _ _ _ _ _ us hl => match us, hl with | [_, _], _ => rfl
theorem ok_need_few (Z : Fx K mg T) : FnOk P w K mg base (L2.CX P w) 5 Z.f_need_few Z.fd_need_few ["machine", "keys"] (spOf K T m_need_few) :=
  def_ok Z.F_need_few sc_need_few rfl rfl fun cdv A outer s H E hr tk hp => (ss_cons (s_expr (s_call (ok_need_both Z) (hr.mono (by decide)) tk rfl Z.g_need_both Z.F_need_both.kp (bi_need_both Z) (a_cons (s_var 0) (a_cons (s_var 1) a_nil))))
    (ss_one (s_if (t_cmp o_gt (s_callB c_len rfl Z.b_len boot_len (a_cons (s_var 1) a_nil)) (s_gint rfl Z.g_MOST) rfl) (ss_one (s_raise (k := 2) rfl tk Z.xi_NoKeys Z.gx_NoKeys Z.xk_NoKeys Z.xs_NoKeys Z.xt_NoKeys rfl)) ss_nil)))
theorem sc_needless : FnScope ["machine", "keys", "goal", "number"] ["machine", "keys"] (defScope (top 47)) := ⟨rfl, rfl, rfl, by decide +kernel, rfl, by decide +kernel, by decide +kernel⟩
theorem bi_needless (Z : Fx K mg T) : Binds K Z.fd_needless ["machine", "keys"] [] := Z.F_needless.bindsN fun _ _ _ _ _ _ us hl => match us, hl with | [_, _], _ => rfl
theorem ok_needless (Z : Fx K mg T) : FnOk P w K mg base (L2.CX P w) 8 Z.f_needless Z.fd_needless ["machine", "keys"] (spOf K T m_needless) :=
  def_ok Z.F_needless sc_needless rfl rfl fun cdv A outer s H E hr tk hp => (ss_cons (s_expr (s_call (ok_need_few Z) (hr.mono (by decide)) tk rfl Z.g_need_few Z.F_need_few.kp (bi_need_few Z) (a_cons (s_var 0) (a_cons (s_var 1) a_nil))))
    (ss_cons (s_set (i := 2) sc_needless.nd rfl (.inr rfl) (s_call (ok_left_by Z) (hr.mono (by decide)) tk rfl Z.g_left_by Z.F_left_by.kp (bi_left_by Z) (a_cons (s_var 0) (a_cons (s_var 1) a_nil))))
    (ss_one (s_ret (s_frz (f_comp (own := [("number", 3)]) rfl sc_needless.nd (i_range1 rfl Z.b_range (s_callB c_len rfl Z.b_len boot_len (a_cons (s_var 1) a_nil))) (blkOk_by (by kernel_rfl)) rfl (by decide) (fun _ _ _ _ _ => (g_nm sc_needless.nd rfl (.inl rfl))) (fun _ _ _ _ _ => (ts_one (t_cmp (o_eq hr.units) (s_call (ok_left_by Z) (hr.mono (by decide)) takes0 rfl Z.g_left_by Z.F_left_by.kp (bi_left_by Z) (a_cons (s_var 0) (a_cons (s_op o_add (s_slice (s_var 1) o_none (o_some (s_var 3))) (s_slice (s_var 1) (o_some (s_op o_add (s_var 3) s_int)) o_none)) a_nil))) (s_var 2) rfl))) (fun _ _ _ _ _ => (s_var 3))))))))
theorem sc_lean : FnScope ["machine", "keys", "goal", "number", "less"] ["machine", "keys"] (defScope (top 48)) := ⟨rfl, rfl, rfl, by decide +kernel, rfl, by decide +kernel, by decide +kernel⟩
theorem bi_lean (Z : Fx K mg T) : Binds K Z.fd_lean ["machine", "keys"] [] := Z.F_lean.bindsN fun _ _ _ _ _ _ us hl => match us, hl with | [_, _], _ => rfl
theorem ok_lean (Z : Fx K mg T) : FnOk P w K mg base (L2.CX P w) 8 Z.f_lean Z.fd_lean ["machine", "keys"] (spOf K T m_lean) :=
  def_ok Z.F_lean sc_lean rfl rfl fun cdv A outer s H E hr tk hp => (ss_cons (s_expr (s_call (ok_need_few Z) (hr.mono (by decide)) tk rfl Z.g_need_few Z.F_need_few.kp (bi_need_few Z) (a_cons (s_var 0) (a_cons (s_var 1) a_nil))))
    (ss_cons (s_set (i := 2) sc_lean.nd rfl (.inl rfl) (s_call (ok_left_by Z) (hr.mono (by decide)) tk rfl Z.g_left_by Z.F_left_by.kp (bi_left_by Z) (a_cons (s_var 0) (a_cons (s_var 1) a_nil))))
    (ss_cons (s_set (i := 3) sc_lean.nd rfl (.inl rfl) s_int)
    (ss_cons (s_while hp (t_cmp o_lt (s_var 3) (s_callB c_len rfl Z.b_len boot_len (a_cons (s_var 1) a_nil)) rfl) (ss_cons (s_set (i := 4) sc_lean.nd rfl (.inl rfl) (s_op o_add (s_slice (s_var 1) o_none (o_some (s_var 3))) (s_slice (s_var 1) (o_some (s_op o_add (s_var 3) s_int)) o_none)))
    (ss_one (s_if (t_cmp (o_eq hr.units) (s_call (ok_left_by Z) (hr.mono (by decide)) tk rfl Z.g_left_by Z.F_left_by.kp (bi_left_by Z) (a_cons (s_var 0) (a_cons (s_var 4) a_nil))) (s_var 2) rfl) (ss_one (s_set (i := 1) sc_lean.nd rfl (.inl rfl) (s_var 4))) (ss_one (s_set (i := 3) sc_lean.nd rfl (.inl rfl) (s_op o_add (s_var 3) s_int)))))))
    (ss_one (s_ret (s_var 1)))))))
theorem sc_parted : FnScope ["machine", "other", "keys", "some", "one", "two", "number"] ["machine", "other", "keys"] (defScope (top 49)) := ⟨rfl, rfl, rfl, by decide +kernel, rfl, by decide +kernel, by decide +kernel⟩
theorem bi_parted (Z : Fx K mg T) : Binds K Z.fd_parted ["machine", "other", "keys"] [] := Z.F_parted.bindsN fun _ _ _ _ _ _ us hl => match us, hl with | [_, _, _], _ => rfl
theorem ok_parted (Z : Fx K mg T) : FnOk P w K mg base (L2.CX P w) 5 Z.f_parted Z.fd_parted ["machine", "other", "keys"] (spOf K T m_parted) :=
  def_ok Z.F_parted sc_parted rfl rfl fun cdv A outer s H E hr tk hp => (ss_cons (s_expr (s_call (ok_need_machine Z) (hr.mono (by decide)) tk rfl Z.g_need_machine Z.F_need_machine.kp (bi_need_machine Z) (a_cons (s_var 0) a_nil)))
    (ss_cons (s_expr (s_call (ok_need_machine Z) (hr.mono (by decide)) tk rfl Z.g_need_machine Z.F_need_machine.kp (bi_need_machine Z) (a_cons (s_var 1) a_nil)))
    (ss_cons (s_expr (s_call (ok_need_keys Z) (hr.mono (by decide)) tk rfl Z.g_need_keys Z.F_need_keys.kp (bi_need_keys Z) (a_cons (s_var 2) a_nil)))
    (ss_cons (s_par (i := 4) (j := 5) rfl sc_parted.nd rfl rfl (by decide) rfl rfl (a_cons (s_ix o_ix (s_call (ok_worked Z) (hr.mono (by decide)) tk rfl Z.g_worked Z.F_worked.kp (bi_worked Z) (a_cons (s_var 0) (a_cons (s_tup a_nil) (a_cons (s_var 2) a_nil)))) s_int) (a_cons (s_ix o_ix (s_call (ok_worked Z) (hr.mono (by decide)) tk rfl Z.g_worked Z.F_worked.kp (bi_worked Z) (a_cons (s_var 1) (a_cons (s_tup a_nil) (a_cons (s_var 2) a_nil)))) s_int) a_nil)))
    (ss_cons (s_setComp (i := 3) (own := [("number", 6)]) k_frz rfl sc_parted.nd rfl rfl rfl (i_range1 rfl Z.b_range (s_callB c_len rfl Z.b_len boot_len (a_cons (s_var 2) a_nil))) (blkOk_by (by kernel_rfl)) rfl (by decide) (fun _ _ _ _ _ => (g_nm sc_parted.nd rfl (.inl rfl))) (fun _ _ _ _ _ => (ts_one (t_cmp (o_ne hr.units) (s_ix o_ix (s_var 4) (s_var 6)) (s_ix o_ix (s_var 5) (s_var 6)) rfl))) (fun _ _ _ _ _ => (s_var 6)))
    (ss_one (s_ret (s_ix o_ix (s_op o_add (s_var 3) (s_frz (f_lst (a_cons s_non a_nil)))) s_int))))))))
theorem sc__law_cell_at : FnScope ["_law_script", "_law_k"] ["_law_script", "_law_k"] (defScope (top 51)) := ⟨rfl, rfl, rfl, by decide +kernel, rfl, by decide +kernel, by decide +kernel⟩
theorem bi__law_cell_at (Z : Fx K mg T) : Binds K Z.fd__law_cell_at ["_law_script", "_law_k"] [] := Z.F__law_cell_at.bindsN fun _ _ _ _ _ _ us hl => match us, hl with | [_, _], _ => rfl
theorem ok__law_cell_at (Z : Fx K mg T) : FnOk P w K mg base (L2.CX P w) 1 Z.f__law_cell_at Z.fd__law_cell_at ["_law_script", "_law_k"] (spOf K T m__law_cell_at) :=
  def_ok Z.F__law_cell_at sc__law_cell_at rfl rfl fun cdv A outer s H E hr tk hp => (ss_cons (s_if (t_cmp o_lt (s_var 1) (s_callB c_len rfl Z.b_len boot_len (a_cons (s_var 0) a_nil)) rfl) (ss_one (s_ret (s_ix o_ix (s_var 0) (s_var 1)))) ss_nil)
    (ss_cons (s_if (t_cmp (o_eq hr.units) (s_var 0) (s_frz (f_lst a_nil)) rfl) (ss_one (s_ret s_int)) ss_nil)
    (ss_one (s_ret (s_op o_add (s_op o_mul (s_ix o_ix (s_var 0) (s_op o_mod (s_var 1) (s_callB c_len rfl Z.b_len boot_len (a_cons (s_var 0) a_nil)))) s_int) (s_var 1))))))
theorem sc__law_mixed : FnScope ["_law_script", "_law_k", "_law_many", "_law_drawn"] ["_law_script", "_law_k", "_law_many"] (defScope (top 52)) := ⟨rfl, rfl, rfl, by decide +kernel, rfl, by decide +kernel, by decide +kernel⟩
theorem bi__law_mixed (Z : Fx K mg T) : Binds K Z.fd__law_mixed ["_law_script", "_law_k", "_law_many"] [] := Z.F__law_mixed.bindsN fun _ _ _ _ _ _ us hl => match us, hl with | [_, _, _], _ => rfl
theorem ok__law_mixed (Z : Fx K mg T) : FnOk P w K mg base (L2.CX P w) 2 Z.f__law_mixed Z.fd__law_mixed ["_law_script", "_law_k", "_law_many"] (spOf K T m__law_mixed) :=
  def_ok Z.F__law_mixed sc__law_mixed rfl rfl fun cdv A outer s H E hr tk hp => (ss_cons (s_set (i := 3) sc__law_mixed.nd rfl (.inl rfl) (s_op o_mod (s_op o_add (s_op o_add (s_op o_mul (s_call (ok__law_cell_at Z) (hr.mono (by decide)) tk rfl Z.g__law_cell_at Z.F__law_cell_at.kp (bi__law_cell_at Z) (a_cons (s_var 0) (a_cons (s_var 1) a_nil))) s_int) (s_op o_mul s_int (s_var 1))) s_int) s_int))
    (ss_one (s_ret (s_op o_mod (s_op o_mod (s_op o_mod (s_op o_pow (s_var 3) s_int) s_int) s_int) (s_var 2)))))
theorem sc__law_draw : FnScope ["_law_script", "_law_town", "_law_many"] ["_law_script", "_law_town", "_law_many"] (defScope (top 53)) := ⟨rfl, rfl, rfl, by decide +kernel, rfl, by decide +kernel, by decide +kernel⟩
theorem bi__law_draw (Z : Fx K mg T) : Binds K Z.fd__law_draw ["_law_script", "_law_town", "_law_many"] [] := Z.F__law_draw.bindsN fun _ _ _ _ _ _ us hl => match us, hl with | [_, _, _], _ => rfl
theorem ok__law_draw (Z : Fx K mg T) : FnOk P w K mg base (L2.CX P w) 3 Z.f__law_draw Z.fd__law_draw ["_law_script", "_law_town", "_law_many"] (spOf K T m__law_draw) :=
  def_ok Z.F__law_draw sc__law_draw rfl rfl fun cdv A outer s H E hr tk hp => (ss_cons (s_expr (s_mm PySem.F.slot_list_append PySem.F.type_list_append m_append (s_var 1) (a_cons s_int a_nil)))
    (ss_one (s_ret (s_call (ok__law_mixed Z) (hr.mono (by decide)) tk rfl Z.g__law_mixed Z.F__law_mixed.kp (bi__law_mixed Z) (a_cons (s_var 0) (a_cons (s_callB c_len rfl Z.b_len boot_len (a_cons (s_var 1) a_nil)) (a_cons (s_var 2) a_nil)))))))
theorem sc__law_pick : FnScope ["_law_script", "_law_town", "_law_some"] ["_law_script", "_law_town", "_law_some"] (defScope (top 54)) := ⟨rfl, rfl, rfl, by decide +kernel, rfl, by decide +kernel, by decide +kernel⟩
theorem bi__law_pick (Z : Fx K mg T) : Binds K Z.fd__law_pick ["_law_script", "_law_town", "_law_some"] [] := Z.F__law_pick.bindsN fun _ _ _ _ _ _ us hl => match us, hl with | [_, _, _], _ => rfl
theorem ok__law_pick (Z : Fx K mg T) : FnOk P w K mg base (L2.CX P w) 4 Z.f__law_pick Z.fd__law_pick ["_law_script", "_law_town", "_law_some"] (spOf K T m__law_pick) :=
  def_ok Z.F__law_pick sc__law_pick rfl rfl fun cdv A outer s H E hr tk hp => (ss_one (s_ret (s_ix o_ix (s_var 2) (s_call (ok__law_draw Z) (hr.mono (by decide)) tk rfl Z.g__law_draw Z.F__law_draw.kp (bi__law_draw Z) (a_cons (s_var 0) (a_cons (s_var 1) (a_cons (s_callB c_len rfl Z.b_len boot_len (a_cons (s_var 2) a_nil)) a_nil)))))))
theorem sc__law_machine : FnScope ["_law_script", "_law_town", "_law_columns", "_law_dead", "_law_sign"] ["_law_script", "_law_town"] (defScope (top 55)) := ⟨rfl, rfl, rfl, by decide +kernel, rfl, by decide +kernel, by decide +kernel⟩
theorem bi__law_machine (Z : Fx K mg T) : Binds K Z.fd__law_machine ["_law_script", "_law_town"] [] := Z.F__law_machine.bindsN fun _ _ _ _ _ _ us hl => match us, hl with | [_, _], _ => rfl
theorem ok__law_machine (Z : Fx K mg T) : FnOk P w K mg base (L2.CX P w) 5 Z.f__law_machine Z.fd__law_machine ["_law_script", "_law_town"] (spOf K T m__law_machine) :=
  def_ok Z.F__law_machine sc__law_machine rfl rfl fun cdv A outer s H E hr tk hp => (ss_cons (s_set (i := 2) sc__law_machine.nd rfl (.inl rfl) (s_call (ok__law_pick Z) (hr.mono (by decide)) tk rfl Z.g__law_pick Z.F__law_pick.kp (bi__law_pick Z) (a_cons (s_var 0) (a_cons (s_var 1) (a_cons (s_frz (f_lst (a_cons s_int (a_cons s_int (a_cons s_int (a_cons s_int (a_cons s_int (a_cons s_int a_nil)))))))) a_nil)))))
    (ss_cons (s_set (i := 3) sc__law_machine.nd rfl (.inl rfl) (s_callTy c_tuple rfl Z.b_tuple boot_tuple (a_cons (s_frz (f_comp (own := [("_law_sign", 4)]) rfl sc__law_machine.nd (i_seq (s_tup (a_cons (s_str (s := q_x27) rfl) (a_cons (s_str (s := q_x5e) rfl) (a_cons (s_str (s := q_x7e) rfl) a_nil))))) (blkOk_by (by kernel_rfl)) rfl (by decide) (fun _ _ _ _ _ => (g_nm sc__law_machine.nd rfl (.inl rfl))) (fun _ _ _ _ _ => (ts_one (t_cmp (o_eq hr.units) (s_call (ok__law_draw Z) (hr.mono (by decide)) takes0 rfl Z.g__law_draw Z.F__law_draw.kp (bi__law_draw Z) (a_cons (s_var 0) (a_cons (s_var 1) (a_cons s_int a_nil)))) s_int rfl))) (fun _ _ _ _ _ => (s_var 4)))) a_nil)))
    (ss_one (s_ret (s_tup (a_cons (s_var 2) (a_cons (s_var 3) (a_cons (s_op o_add s_int (s_call (ok__law_draw Z) (hr.mono (by decide)) tk rfl Z.g__law_draw Z.F__law_draw.kp (bi__law_draw Z) (a_cons (s_var 0) (a_cons (s_var 1) (a_cons s_int a_nil))))) a_nil))))))))
theorem sc__law_key : FnScope ["_law_script", "_law_town", "_law_kind", "_law_sign", "_law_words"] ["_law_script", "_law_town"] (defScope (top 56)) := ⟨rfl, rfl, rfl, by decide +kernel, rfl, by decide +kernel, by decide +kernel⟩
theorem bi__law_key (Z : Fx K mg T) : Binds K Z.fd__law_key ["_law_script", "_law_town"] [] := Z.F__law_key.bindsN fun _ _ _ _ _ _ us hl => match us, hl with | [_, _], _ => rfl
theorem ok__law_key (Z : Fx K mg T) : FnOk P w K mg base (L2.CX P w) 5 Z.f__law_key Z.fd__law_key ["_law_script", "_law_town"] (spOf K T m__law_key) :=
  def_ok Z.F__law_key sc__law_key rfl rfl fun cdv A outer s H E hr tk hp => (ss_cons (s_set (i := 2) sc__law_key.nd rfl (.inl rfl) (s_call (ok__law_draw Z) (hr.mono (by decide)) tk rfl Z.g__law_draw Z.F__law_draw.kp (bi__law_draw Z) (a_cons (s_var 0) (a_cons (s_var 1) (a_cons s_int a_nil)))))
    (ss_cons (s_set (i := 3) sc__law_key.nd rfl (.inl rfl) (s_call (ok__law_pick Z) (hr.mono (by decide)) tk rfl Z.g__law_pick Z.F__law_pick.kp (bi__law_pick Z) (a_cons (s_var 0) (a_cons (s_var 1) (a_cons (s_str (s := q_x61_62_63_7a_7a_30_31_39_2e_2c_2d_27_5e_7e_16) rfl) a_nil)))))
    (ss_cons (s_set (i := 4) sc__law_key.nd rfl (.inl rfl) (s_new (f_lst (a_cons (s_str (s := q_blank) rfl) (a_cons (s_str (s := q_blank) rfl) (a_cons (s_str (s := q_half) rfl) (a_cons (s_str (s := q_back) rfl) (a_cons (s_str (s := q_back) rfl) (a_cons (s_str (s := q_tab) rfl) (a_cons (s_str (s := q_tab) rfl) (a_cons (s_str (s := q_return) rfl) (a_cons (s_str (s := q_up) rfl) (a_cons (s_str (s := q_down) rfl) (a_cons (s_str (s := q_left) rfl) (a_cons (s_str (s := q_right) rfl) a_nil)))))))))))))))
    (ss_cons (s_expr (s_mm PySem.F.slot_list_extend PySem.F.type_list_extend m_extend (s_var 4) (a_cons (s_frz (f_lst (a_cons (s_str (s := q_set) rfl) (a_cons (s_str (s := q_set) rfl) (a_cons (s_str (s := q_clear) rfl) (a_cons (s_str (s := q_all) rfl) (a_cons (s_str (s := q_free) rfl) (a_cons (s_str (s := q_ribbon) rfl) (a_cons (s_str (s := q_caps) rfl) a_nil))))))))) a_nil)))
    (ss_cons (s_if (t_cmp o_lt (s_var 2) s_int rfl) (ss_one (s_ret (s_tup (a_cons (s_str (s := q_sign) rfl) (a_cons (s_var 3) a_nil))))) ss_nil)
    (ss_one (s_ret (s_ifExp (t_cmp o_lt (s_var 2) s_int rfl) (s_tup (a_cons (s_str (s := q_lift) rfl) (a_cons (s_var 3) a_nil))) (s_tup (a_cons (s_ix o_ix (s_var 4) (s_op o_sub (s_var 2) s_int)) a_nil))))))))))
theorem sc__law_keys : FnScope ["_law_script", "_law_town", "_law_most", "_law_made", "_law_k", "_law_key_here"] ["_law_script", "_law_town", "_law_most"] (defScope (top 57)) := ⟨rfl, rfl, rfl, by decide +kernel, rfl, by decide +kernel, by decide +kernel⟩
theorem bi__law_keys (Z : Fx K mg T) : Binds K Z.fd__law_keys ["_law_script", "_law_town", "_law_most"] [] := Z.F__law_keys.bindsN fun _ _ _ _ _ _ us hl => match us, hl with | [_, _, _], _ => rfl
theorem ok__law_keys (Z : Fx K mg T) : FnOk P w K mg base (L2.CX P w) 6 Z.f__law_keys Z.fd__law_keys ["_law_script", "_law_town", "_law_most"] (spOf K T m__law_keys) :=
  def_ok Z.F__law_keys sc__law_keys rfl rfl fun cdv A outer s H E hr tk hp => (ss_cons (s_set (i := 3) sc__law_keys.nd rfl (.inl rfl) (s_new (f_lst a_nil)))
    (ss_cons (s_for hp rfl (i_range1 rfl Z.b_range (s_call (ok__law_draw Z) (hr.mono (by decide)) tk rfl Z.g__law_draw Z.F__law_draw.kp (bi__law_draw Z) (a_cons (s_var 0) (a_cons (s_var 1) (a_cons (s_op o_add (s_var 2) s_int) a_nil))))) (g_nm sc__law_keys.nd rfl (.inl rfl)) (ss_cons (s_set (i := 5) sc__law_keys.nd rfl (.inl rfl) (s_call (ok__law_key Z) (hr.mono (by decide)) tk rfl Z.g__law_key Z.F__law_key.kp (bi__law_key Z) (a_cons (s_var 0) (a_cons (s_var 1) a_nil))))
    (ss_one (s_expr (s_mm PySem.F.slot_list_extend PySem.F.type_list_extend m_extend (s_var 3) (a_cons (s_op o_mul (s_frz (f_lst (a_cons (s_var 5) a_nil))) (s_op o_add s_int (s_call (ok__law_draw Z) (hr.mono (by decide)) tk rfl Z.g__law_draw Z.F__law_draw.kp (bi__law_draw Z) (a_cons (s_var 0) (a_cons (s_var 1) (a_cons (s_call (ok__law_pick Z) (hr.mono (by decide)) tk rfl Z.g__law_pick Z.F__law_pick.kp (bi__law_pick Z) (a_cons (s_var 0) (a_cons (s_var 1) (a_cons (s_frz (f_lst (a_cons s_int (a_cons s_int (a_cons s_int (a_cons s_int a_nil)))))) a_nil)))) a_nil)))))) a_nil))))))
    (ss_one (s_ret (s_callTy c_tuple rfl Z.b_tuple boot_tuple (a_cons (s_slice (s_var 3) o_none (o_some (s_var 2))) a_nil))))))
theorem sc__law_new : FnScope ["_law_machine_here", "_law_tabs", "_law_end", "_law_made"] ["_law_machine_here", "_law_tabs"] (defScope (top 58)) := ⟨rfl, rfl, rfl, by decide +kernel, rfl, by decide +kernel, by decide +kernel⟩
theorem bi__law_new (Z : Fx K mg T) : Binds K Z.fd__law_new ["_law_machine_here", "_law_tabs"] [] := Z.F__law_new.bindsN fun _ _ _ _ _ _ us hl => match us, hl with | [_, _], _ => rfl
theorem ok__law_new (Z : Fx K mg T) : FnOk P w K mg base (L2.CX P w) 1 Z.f__law_new Z.fd__law_new ["_law_machine_here", "_law_tabs"] (spOf K T m__law_new) :=
  def_ok Z.F__law_new sc__law_new rfl rfl fun cdv A outer s H E hr tk hp => (ss_cons (s_set (i := 2) sc__law_new.nd rfl (.inl rfl) (s_op o_mul s_int (s_ix o_ix (s_var 0) s_int)))
    (ss_cons (s_set (i := 3) sc__law_new.nd rfl (.inl rfl) (s_newQ (q_disp (q_cons (s_str (s := q_machine) rfl) (s_var 0) (q_cons (s_str (s := q_end) rfl) (s_var 2) (q_cons (s_str (s := q_row) rfl) s_int (q_cons (s_str (s := q_place) rfl) s_int (q_cons (s_str (s := q_low) rfl) s_int (q_cons (s_str (s := q_high) rfl) (s_var 2) (q_cons (s_str (s := q_tabs) rfl) (s_frz (f_callTy c_list rfl Z.b_list rfl (a_cons (s_var 1) a_nil))) q_nil))))))))))
    (ss_cons (s_expr (s_md PySem.F.slot_dict_update PySem.F.type_dict_update m_update (s_var 3) (a_cons (s_frzQ (q_disp (q_cons (s_str (s := q_red) rfl) s_bl (q_cons (s_str (s := q_caps) rfl) s_bl (q_cons (s_str (s := q_free) rfl) s_bl (q_cons (s_str (s := q_marks) rfl) (s_new (f_lst a_nil)) (q_cons (s_str (s := q_rings) rfl) (s_new (f_lst a_nil)) (q_cons (s_str (s := q_many) rfl) s_int q_nil)))))))) a_nil)))
    (ss_one (s_ret (s_var 3))))))
theorem sc__law_shut : FnScope ["_law_work", "_law_place"] ["_law_work", "_law_place"] (defScope (top 59)) := ⟨rfl, rfl, rfl, by decide +kernel, rfl, by decide +kernel, by decide +kernel⟩
theorem bi__law_shut (Z : Fx K mg T) : Binds K Z.fd__law_shut ["_law_work", "_law_place"] [] := Z.F__law_shut.bindsN fun _ _ _ _ _ _ us hl => match us, hl with | [_, _], _ => rfl
theorem ok__law_shut (Z : Fx K mg T) : FnOk P w K mg base (L2.CX P w) 1 Z.f__law_shut Z.fd__law_shut ["_law_work", "_law_place"] (spOf K T m__law_shut) :=
  def_ok Z.F__law_shut sc__law_shut rfl rfl fun cdv A outer s H E hr tk hp => (ss_one (s_ret (s_or (s_cmp o_gt (s_var 1) (s_dget (units1 hr) (s_var 0) (s_str (s := q_end) rfl)) rfl) (s_one (s_and (s_not (s_dget (units1 hr) (s_var 0) (s_str (s := q_free) rfl))) (s_one (s_cmp o_gt (s_var 1) (s_dget (units1 hr) (s_var 0) (s_str (s := q_high) rfl)) rfl)))))))
theorem sc__law_go : FnScope ["_law_work", "_law_place", "_law_bell"] ["_law_work", "_law_place"] (defScope (top 60)) := ⟨rfl, rfl, rfl, by decide +kernel, rfl, by decide +kernel, by decide +kernel⟩
theorem bi__law_go (Z : Fx K mg T) : Binds K Z.fd__law_go ["_law_work", "_law_place"] [] := Z.F__law_go.bindsN fun _ _ _ _ _ _ us hl => match us, hl with | [_, _], _ => rfl
theorem ok__law_go (Z : Fx K mg T) : FnOk P w K mg base (L2.CX P w) 1 Z.f__law_go Z.fd__law_go ["_law_work", "_law_place"] (spOf K T m__law_go) :=
  def_ok Z.F__law_go sc__law_go rfl rfl fun cdv A outer s H E hr tk hp => (ss_cons (s_set (i := 2) sc__law_go.nd rfl (.inl rfl) (s_op o_sub (s_dget (units1 hr) (s_var 0) (s_str (s := q_high) rfl)) s_int))
    (ss_cons (s_if (t_w (w_and (t_cmp o_lt (s_dget (units1 hr) (s_var 0) (s_str (s := q_place) rfl)) (s_var 2) rfl) (w_and1 (t_cmp o_ge (s_var 1) (s_var 2) rfl)))) (ss_one (s_expr (s_mm PySem.F.slot_list_append PySem.F.type_list_append m_append (s_dget (units1 hr) (s_var 0) (s_str (s := q_rings) rfl)) (a_cons (s_dget (units1 hr) (s_var 0) (s_str (s := q_many) rfl)) a_nil)))) ss_nil)
    (ss_cons (s_dput (units1 hr) (s_var 0) (s_str (s := q_place) rfl) (s_var 1))
    (ss_one (s_ret (s_tup (a_cons (s_str (s := q_moved) rfl) (a_cons (s_dget (units1 hr) (s_var 0) (s_str (s := q_row) rfl)) (a_cons (s_var 1) a_nil)))))))))
theorem sc__law_as : FnScope ["_law_work", "_law_sign"] ["_law_work", "_law_sign"] (defScope (top 61)) := ⟨rfl, rfl, rfl, by decide +kernel, rfl, by decide +kernel, by decide +kernel⟩
theorem bi__law_as (Z : Fx K mg T) : Binds K Z.fd__law_as ["_law_work", "_law_sign"] [] := Z.F__law_as.bindsN fun _ _ _ _ _ _ us hl => match us, hl with | [_, _], _ => rfl
theorem ok__law_as (Z : Fx K mg T) : FnOk P w K mg base (L2.CX P w) 1 Z.f__law_as Z.fd__law_as ["_law_work", "_law_sign"] (spOf K T m__law_as) :=
  def_ok Z.F__law_as sc__law_as rfl rfl fun cdv A outer s H E hr tk hp => (ss_one (s_ret (s_ifExp (t_val (s_dget (units1 hr) (s_var 0) (s_str (s := q_caps) rfl))) (s_ms0 PySem.F.slot_str_upper PySem.F.type_str_upper m_upper (s_var 1)) (s_var 1))))
theorem sc__law_ink : FnScope ["_law_work", "_law_word", "_law_sign", "_law_here", "_law_mark", "_law_some", "_law_told_here", "_law_one"] ["_law_work", "_law_word", "_law_sign"] (defScope (top 62)) := ⟨rfl, rfl, rfl, by decide +kernel, rfl, by decide +kernel, by decide +kernel⟩
theorem bi__law_ink (Z : Fx K mg T) : Binds K Z.fd__law_ink ["_law_work", "_law_word", "_law_sign"] [] := Z.F__law_ink.bindsN fun _ _ _ _ _ _ us hl => match us, hl with | [_, _, _], _ => rfl
theorem ok__law_ink (Z : Fx K mg T) : FnOk P w K mg base (L2.CX P w) 2 Z.f__law_ink Z.fd__law_ink ["_law_work", "_law_word", "_law_sign"] (spOf K T m__law_ink) :=
  def_ok Z.F__law_ink sc__law_ink rfl rfl fun cdv A outer s H E hr tk hp => (ss_cons (s_if (t_val (s_call (ok__law_shut Z) (hr.mono (by decide)) tk rfl Z.g__law_shut Z.F__law_shut.kp (bi__law_shut Z) (a_cons (s_var 0) (a_cons (s_op o_add (s_dget (units1 hr) (s_var 0) (s_str (s := q_place) rfl)) s_int) a_nil)))) (ss_one (s_ret (s_tup (a_cons (s_str (s := q_locked) rfl) a_nil)))) ss_nil)
    (ss_cons (s_set (i := 3) sc__law_ink.nd rfl (.inl rfl) (s_tup (a_cons (s_dget (units1 hr) (s_var 0) (s_str (s := q_row) rfl)) (a_cons (s_dget (units1 hr) (s_var 0) (s_str (s := q_place) rfl)) a_nil))))
    (ss_cons (s_set (i := 4) sc__law_ink.nd rfl (.inr rfl) (s_op o_add (s_var 3) (s_tup (a_cons (s_call (ok__law_as Z) (hr.mono (by decide)) tk rfl Z.g__law_as Z.F__law_as.kp (bi__law_as Z) (a_cons (s_var 0) (a_cons (s_var 2) a_nil))) (a_cons (s_ifExp (t_val (s_dget (units1 hr) (s_var 0) (s_str (s := q_red) rfl))) (s_str (s := q_red) rfl) (s_str (s := q_black) rfl)) a_nil)))))
    (ss_cons (s_setComp (i := 5) (own := [("_law_one", 7)]) k_frz rfl sc__law_ink.nd rfl rfl rfl (i_seq (s_dget (units1 hr) (s_var 0) (s_str (s := q_marks) rfl))) (blkOk_by (by kernel_rfl)) rfl (by decide) (fun _ _ _ _ _ => (g_nm sc__law_ink.nd rfl (.inl rfl))) (fun _ _ _ _ _ => (ts_one (t_cmp (o_eq hr.units) (s_slice (s_var 7) (o_some s_int) (o_some s_int)) (s_slice (s_var 4) o_none (o_some s_int)) rfl))) (fun _ _ _ _ _ => (s_var 7)))
    (ss_cons (s_set (i := 6) sc__law_ink.nd rfl (.inl rfl) (s_op o_add (s_tup (a_cons (s_str (s := q_struck) rfl) a_nil)) (s_var 4)))
    (ss_cons (s_if (t_cmp (o_eq hr.units) (s_var 1) (s_str (s := q_sign) rfl) rfl) (ss_one (s_expr (s_mm PySem.F.slot_list_append PySem.F.type_list_append m_append (s_dget (units1 hr) (s_var 0) (s_str (s := q_marks) rfl)) (a_cons (s_op o_add (s_tup (a_cons (s_dget (units1 hr) (s_var 0) (s_str (s := q_many) rfl)) a_nil)) (s_var 4)) a_nil)))) (ss_one (s_if (t_cmp (o_eq hr.units) (s_var 5) (s_frz (f_lst a_nil)) rfl) (ss_one (s_set (i := 6) sc__law_ink.nd rfl (.inl rfl) (s_op o_add (s_tup (a_cons (s_str (s := q_nothing) rfl) a_nil)) (s_var 3)))) (ss_cons (s_expr (s_mm PySem.F.slot_list_remove PySem.F.type_list_remove (m_remove (units65 hr)) (s_dget (units1 hr) (s_var 0) (s_str (s := q_marks) rfl)) (a_cons (s_ix o_ix (s_var 5) (s_neg s_int)) a_nil)))
    (ss_one (s_set (i := 6) sc__law_ink.nd rfl (.inl rfl) (s_op o_add (s_tup (a_cons (s_str (s := q_lifted) rfl) a_nil)) (s_slice (s_ix o_ix (s_var 5) (s_neg s_int)) (o_some s_int) o_none))))))))
    (ss_cons (s_if (t_cmp (o_notIn (units65 hr)) (s_var 2) (s_ix o_ix (s_dget (units1 hr) (s_var 0) (s_str (s := q_machine) rfl)) s_int) rfl) (ss_one (s_expr (s_call (ok__law_go Z) (hr.mono (by decide)) tk rfl Z.g__law_go Z.F__law_go.kp (bi__law_go Z) (a_cons (s_var 0) (a_cons (s_op o_add (s_dget (units1 hr) (s_var 0) (s_str (s := q_place) rfl)) s_int) a_nil))))) ss_nil)
    (ss_one (s_ret (s_var 6))))))))))
theorem sc__law_turn : FnScope ["_law_work", "_law_word", "_law_place", "_law_tab", "_law_name"] ["_law_work", "_law_word"] (defScope (top 63)) := ⟨rfl, rfl, rfl, by decide +kernel, rfl, by decide +kernel, by decide +kernel⟩
theorem bi__law_turn (Z : Fx K mg T) : Binds K Z.fd__law_turn ["_law_work", "_law_word"] [] := Z.F__law_turn.bindsN fun _ _ _ _ _ _ us hl => match us, hl with | [_, _], _ => rfl
theorem ok__law_turn (Z : Fx K mg T) : FnOk P w K mg base (L2.CX P w) 1 Z.f__law_turn Z.fd__law_turn ["_law_work", "_law_word"] (spOf K T m__law_turn) :=
  def_ok Z.F__law_turn sc__law_turn rfl rfl fun cdv A outer s H E hr tk hp => (ss_cons (s_set (i := 2) sc__law_turn.nd rfl (.inr rfl) (s_dget (units1 hr) (s_var 0) (s_str (s := q_place) rfl)))
    (ss_cons (s_if (t_w (w_and (t_cmp (o_eq hr.units) (s_var 1) (s_str (s := q_left) rfl) rfl) (w_and1 (t_cmp o_lt (s_var 2) (s_dget (units1 hr) (s_var 0) (s_str (s := q_high) rfl)) rfl)))) (ss_one (s_dput (units1 hr) (s_var 0) (s_str (s := q_low) rfl) (s_var 2))) (ss_one (s_if (t_w (w_and (t_cmp (o_eq hr.units) (s_var 1) (s_str (s := q_right) rfl) rfl) (w_and1 (t_cmp o_gt (s_var 2) (s_dget (units1 hr) (s_var 0) (s_str (s := q_low) rfl)) rfl)))) (ss_one (s_dput (units1 hr) (s_var 0) (s_str (s := q_high) rfl) (s_var 2))) (ss_one (s_if (t_cmp (o_eq hr.units) (s_var 1) (s_str (s := q_set) rfl) rfl) (ss_one (s_dput (units1 hr) (s_var 0) (s_str (s := q_tabs) rfl) (s_op o_add (s_frz (f_comp (own := [("_law_tab", 3)]) rfl sc__law_turn.nd (i_seq (s_dget (units1 hr) (s_var 0) (s_str (s := q_tabs) rfl))) (blkOk_by (by kernel_rfl)) rfl (by decide) (fun _ _ _ _ _ => (g_nm sc__law_turn.nd rfl (.inl rfl))) (fun _ _ _ _ _ => (ts_one (t_cmp (o_ne hr.units) (s_var 3) (s_var 2) rfl))) (fun _ _ _ _ _ => (s_var 3)))) (s_frz (f_lst (a_cons (s_var 2) a_nil)))))) (ss_one (s_if (t_w (w_and (t_cmp (o_eq hr.units) (s_var 1) (s_str (s := q_clear) rfl) rfl) (w_and1 (t_cmp (o_in (units65 hr)) (s_var 2) (s_dget (units1 hr) (s_var 0) (s_str (s := q_tabs) rfl)) rfl)))) (ss_one (s_dput (units1 hr) (s_var 0) (s_str (s := q_tabs) rfl) (s_frz (f_comp (own := [("_law_tab", 3)]) rfl sc__law_turn.nd (i_seq (s_dget (units1 hr) (s_var 0) (s_str (s := q_tabs) rfl))) (blkOk_by (by kernel_rfl)) rfl (by decide) (fun _ _ _ _ _ => (g_nm sc__law_turn.nd rfl (.inl rfl))) (fun _ _ _ _ _ => (ts_one (t_cmp (o_ne hr.units) (s_var 3) (s_var 2) rfl))) (fun _ _ _ _ _ => (s_var 3)))))) (ss_one (s_if (t_cmp (o_in (units65 hr)) (s_var 1) (s_tup (a_cons (s_str (s := q_left) rfl) (a_cons (s_str (s := q_right) rfl) (a_cons (s_str (s := q_clear) rfl) a_nil)))) rfl) (ss_one (s_ret (s_tup (a_cons (s_str (s := q_locked) rfl) a_nil)))) (ss_one (s_if (t_cmp (o_eq hr.units) (s_var 1) (s_str (s := q_all) rfl) rfl) (ss_one (s_dput (units1 hr) (s_var 0) (s_str (s := q_tabs) rfl) (s_frz (f_lst a_nil)))) (ss_cons (s_set (i := 4) sc__law_turn.nd rfl (.inl rfl) (s_dget (units1 hr) (s_frzQ (q_disp (q_cons (s_str (s := q_free) rfl) (s_str (s := q_free) rfl) (q_cons (s_str (s := q_ribbon) rfl) (s_str (s := q_red) rfl) (q_cons (s_str (s := q_caps) rfl) (s_str (s := q_caps) rfl) q_nil))))) (s_var 1)))
    (ss_one (s_dput (units1 hr) (s_var 0) (s_var 4) (s_or (s_cmp (o_eq hr.units) (s_var 1) (s_str (s := q_free) rfl) rfl) (s_one (s_not (s_dget (units1 hr) (s_var 0) (s_var 4)))))))))))))))))))
    (ss_one (s_ret (s_tup (a_cons (s_str (s := q_done) rfl) a_nil))))))
theorem sc__law_step : FnScope ["_law_work", "_law_word", "_law_place", "_law_goal", "_law_row", "_law_tab"] ["_law_work", "_law_word"] (defScope (top 64)) := ⟨rfl, rfl, rfl, by decide +kernel, rfl, by decide +kernel, by decide +kernel⟩
theorem bi__law_step (Z : Fx K mg T) : Binds K Z.fd__law_step ["_law_work", "_law_word"] [] := Z.F__law_step.bindsN fun _ _ _ _ _ _ us hl => match us, hl with | [_, _], _ => rfl
theorem ok__law_step (Z : Fx K mg T) : FnOk P w K mg base (L2.CX P w) 2 Z.f__law_step Z.fd__law_step ["_law_work", "_law_word"] (spOf K T m__law_step) :=
  def_ok Z.F__law_step sc__law_step rfl rfl fun cdv A outer s H E hr tk hp => (ss_cons (s_set (i := 2) sc__law_step.nd rfl (.inr rfl) (s_dget (units1 hr) (s_var 0) (s_str (s := q_place) rfl)))
    (ss_cons (s_if (t_cmp (o_eq hr.units) (s_var 1) (s_str (s := q_back) rfl) rfl) (ss_cons (s_if (t_w (w_or (t_cmp o_lt (s_var 2) s_int rfl) (w_or1 (t_w (w_and (t_not (t_val (s_dget (units1 hr) (s_var 0) (s_str (s := q_free) rfl)))) (w_and1 (t_chain o_ge o_gt (s_var 2) (s_dget (units1 hr) (s_var 0) (s_str (s := q_low) rfl)) (s_op o_sub (s_var 2) s_int)))))))) (ss_one (s_ret (s_tup (a_cons (s_str (s := q_locked) rfl) a_nil)))) ss_nil)
    (ss_cons (s_dput (units1 hr) (s_var 0) (s_str (s := q_place) rfl) (s_op o_sub (s_var 2) s_int))
    (ss_one (s_ret (s_tup (a_cons (s_str (s := q_moved) rfl) (a_cons (s_dget (units1 hr) (s_var 0) (s_str (s := q_row) rfl)) (a_cons (s_op o_sub (s_var 2) s_int) a_nil)))))))) ss_nil)
    (ss_cons (s_if (t_cmp (o_in (units65 hr)) (s_var 1) (s_tup (a_cons (s_str (s := q_return) rfl) (a_cons (s_str (s := q_up) rfl) (a_cons (s_str (s := q_down) rfl) a_nil)))) rfl) (ss_cons (s_set (i := 4) sc__law_step.nd rfl (.inl rfl) (s_op o_add (s_dget (units1 hr) (s_var 0) (s_str (s := q_row) rfl)) (s_dget (units1 hr) (s_frzQ (q_disp (q_cons (s_str (s := q_return) rfl) (s_ix o_ix (s_dget (units1 hr) (s_var 0) (s_str (s := q_machine) rfl)) s_int) (q_cons (s_str (s := q_up) rfl) (s_neg s_int) (q_cons (s_str (s := q_down) rfl) s_int q_nil))))) (s_var 1))))
    (ss_cons (s_if (t_w (w_or (t_cmp o_lt (s_var 4) s_int rfl) (w_or1 (t_cmp o_gt (s_var 4) s_int rfl)))) (ss_one (s_ret (s_tup (a_cons (s_str (s := q_locked) rfl) a_nil)))) ss_nil)
    (ss_cons (s_dput (units1 hr) (s_var 0) (s_str (s := q_row) rfl) (s_var 4))
    (ss_cons (s_if (t_cmp (o_eq hr.units) (s_var 1) (s_str (s := q_return) rfl) rfl) (ss_cons (s_dput (units1 hr) (s_var 0) (s_str (s := q_place) rfl) (s_dget (units1 hr) (s_var 0) (s_str (s := q_low) rfl)))
    (ss_one (s_dput (units1 hr) (s_var 0) (s_str (s := q_free) rfl) s_bl))) ss_nil)
    (ss_one (s_ret (s_tup (a_cons (s_str (s := q_moved) rfl) (a_cons (s_var 4) (a_cons (s_dget (units1 hr) (s_var 0) (s_str (s := q_place) rfl)) a_nil)))))))))) ss_nil)
    (ss_cons (s_set (i := 3) sc__law_step.nd rfl (.inl rfl) (s_op o_add (s_var 2) (s_ifExp (t_cmp (o_eq hr.units) (s_var 1) (s_str (s := q_blank) rfl) rfl) s_int s_int)))
    (ss_cons (s_if (t_cmp (o_eq hr.units) (s_var 1) (s_str (s := q_tab) rfl) rfl) (ss_one (s_set (i := 3) sc__law_step.nd rfl (.inl rfl) (s_callB (c_min rfl) rfl Z.b_min boot_min (a_cons (s_op o_add (s_frz (f_comp (own := [("_law_tab", 5)]) rfl sc__law_step.nd (i_seq (s_dget (units1 hr) (s_var 0) (s_str (s := q_tabs) rfl))) (blkOk_by (by kernel_rfl)) rfl (by decide) (fun _ _ _ _ _ => (g_nm sc__law_step.nd rfl (.inl rfl))) (fun _ _ _ _ _ => (ts_one (t_cmp o_gt (s_var 5) (s_var 2) rfl))) (fun _ _ _ _ _ => (s_var 5)))) (s_frz (f_lst (a_cons s_int a_nil)))) a_nil)))) ss_nil)
    (ss_one (s_ret (s_ifExp (t_val (s_call (ok__law_shut Z) (hr.mono (by decide)) tk rfl Z.g__law_shut Z.F__law_shut.kp (bi__law_shut Z) (a_cons (s_var 0) (a_cons (s_var 3) a_nil)))) (s_tup (a_cons (s_str (s := q_locked) rfl) a_nil)) (s_call (ok__law_go Z) (hr.mono (by decide)) tk rfl Z.g__law_go Z.F__law_go.kp (bi__law_go Z) (a_cons (s_var 0) (a_cons (s_var 3) a_nil)))))))))))
theorem sc__law_press : FnScope ["_law_work", "_law_key_here", "_law_told_here"] ["_law_work", "_law_key_here"] (defScope (top 65)) := ⟨rfl, rfl, rfl, by decide +kernel, rfl, by decide +kernel, by decide +kernel⟩
theorem bi__law_press (Z : Fx K mg T) : Binds K Z.fd__law_press ["_law_work", "_law_key_here"] [] := Z.F__law_press.bindsN fun _ _ _ _ _ _ us hl => match us, hl with | [_, _], _ => rfl
theorem ok__law_press (Z : Fx K mg T) : FnOk P w K mg base (L2.CX P w) 3 Z.f__law_press Z.fd__law_press ["_law_work", "_law_key_here"] (spOf K T m__law_press) :=
  def_ok Z.F__law_press sc__law_press rfl rfl fun cdv A outer s H E hr tk hp => (ss_cons (s_if (t_cmp (o_in (units65 hr)) (s_ix o_ix (s_var 1) s_int) (s_tup (a_cons (s_str (s := q_sign) rfl) (a_cons (s_str (s := q_lift) rfl) a_nil))) rfl) (ss_one (s_set (i := 2) sc__law_press.nd rfl (.inl rfl) (s_call (ok__law_ink Z) (hr.mono (by decide)) tk rfl Z.g__law_ink Z.F__law_ink.kp (bi__law_ink Z) (a_cons (s_var 0) (a_cons (s_ix o_ix (s_var 1) s_int) (a_cons (s_ix o_ix (s_var 1) s_int) a_nil)))))) (ss_one (s_if (t_cmp (o_in (units65 hr)) (s_ix o_ix (s_var 1) s_int) (s_tup (a_cons (s_str (s := q_left) rfl) (a_cons (s_str (s := q_right) rfl) (a_cons (s_str (s := q_set) rfl) (a_cons (s_str (s := q_clear) rfl) (a_cons (s_str (s := q_all) rfl) (a_cons (s_str (s := q_free) rfl) (a_cons (s_str (s := q_ribbon) rfl) (a_cons (s_str (s := q_caps) rfl) a_nil))))))))) rfl) (ss_one (s_set (i := 2) sc__law_press.nd rfl (.inl rfl) (s_call (ok__law_turn Z) (hr.mono (by decide)) tk rfl Z.g__law_turn Z.F__law_turn.kp (bi__law_turn Z) (a_cons (s_var 0) (a_cons (s_ix o_ix (s_var 1) s_int) a_nil))))) (ss_one (s_set (i := 2) sc__law_press.nd rfl (.inl rfl) (s_call (ok__law_step Z) (hr.mono (by decide)) tk rfl Z.g__law_step Z.F__law_step.kp (bi__law_step Z) (a_cons (s_var 0) (a_cons (s_ix o_ix (s_var 1) s_int) a_nil))))))))
    (ss_cons (s_dput (units1 hr) (s_var 0) (s_str (s := q_many) rfl) (s_op o_add (s_dget (units1 hr) (s_var 0) (s_str (s := q_many) rfl)) s_int))
    (ss_one (s_ret (s_var 2)))))
theorem sc__law_worked : FnScope ["_law_machine_here", "_law_tabs", "_law_keys_here", "_law_work", "_law_row", "_law_key_here"] ["_law_machine_here", "_law_tabs", "_law_keys_here"] (defScope (top 66)) := ⟨rfl, rfl, rfl, by decide +kernel, rfl, by decide +kernel, by decide +kernel⟩
theorem bi__law_worked (Z : Fx K mg T) : Binds K Z.fd__law_worked ["_law_machine_here", "_law_tabs", "_law_keys_here"] [] := Z.F__law_worked.bindsN fun _ _ _ _ _ _ us hl => match us, hl with | [_, _, _], _ => rfl
theorem ok__law_worked (Z : Fx K mg T) : FnOk P w K mg base (L2.CX P w) 4 Z.f__law_worked Z.fd__law_worked ["_law_machine_here", "_law_tabs", "_law_keys_here"] (spOf K T m__law_worked) :=
  def_ok Z.F__law_worked sc__law_worked rfl rfl fun cdv A outer s H E hr tk hp => (ss_cons (s_set (i := 3) sc__law_worked.nd rfl (.inr rfl) (s_call (ok__law_new Z) (hr.mono (by decide)) tk rfl Z.g__law_new Z.F__law_new.kp (bi__law_new Z) (a_cons (s_var 0) (a_cons (s_var 1) a_nil))))
    (ss_cons (s_setComp (i := 4) (own := [("_law_key_here", 5)]) k_frz rfl sc__law_worked.nd rfl rfl rfl (i_seq (s_var 2)) (blkOk_by (by kernel_rfl)) rfl (by decide) (fun _ _ _ _ _ => (g_nm sc__law_worked.nd rfl (.inl rfl))) (fun _ _ _ _ _ => ts_nil) (fun _ _ _ _ _ => (s_call (ok__law_press Z) (hr.mono (by decide)) takes0 rfl Z.g__law_press Z.F__law_press.kp (bi__law_press Z) (a_cons (s_var 3) (a_cons (s_var 5) a_nil)))))
    (ss_one (s_ret (s_tup (a_cons (s_var 3) (a_cons (s_var 4) a_nil)))))))
theorem sc__law_stand : FnScope ["_law_work", "_law_colour", "_law_where"] ["_law_work"] (defScope (top 67)) := ⟨rfl, rfl, rfl, by decide +kernel, rfl, by decide +kernel, by decide +kernel⟩
theorem bi__law_stand (Z : Fx K mg T) : Binds K Z.fd__law_stand ["_law_work"] [] := Z.F__law_stand.bindsN fun _ _ _ _ _ _ us hl => match us, hl with | [_], _ => rfl
theorem ok__law_stand (Z : Fx K mg T) : FnOk P w K mg base (L2.CX P w) 1 Z.f__law_stand Z.fd__law_stand ["_law_work"] (spOf K T m__law_stand) :=
  def_ok Z.F__law_stand sc__law_stand rfl rfl fun cdv A outer s H E hr tk hp => (ss_cons (s_set (i := 1) sc__law_stand.nd rfl (.inl rfl) (s_ifExp (t_val (s_dget (units1 hr) (s_var 0) (s_str (s := q_red) rfl))) (s_str (s := q_red) rfl) (s_str (s := q_black) rfl)))
    (ss_cons (s_set (i := 2) sc__law_stand.nd rfl (.inl rfl) (s_tup (a_cons (s_dget (units1 hr) (s_var 0) (s_str (s := q_row) rfl)) (a_cons (s_dget (units1 hr) (s_var 0) (s_str (s := q_place) rfl)) (a_cons (s_dget (units1 hr) (s_var 0) (s_str (s := q_low) rfl)) (a_cons (s_dget (units1 hr) (s_var 0) (s_str (s := q_high) rfl)) (a_cons (s_callTy c_tuple rfl Z.b_tuple boot_tuple (a_cons (s_frz (f_callB c_sorted rfl Z.b_sorted boot_sorted (a_cons (s_dget (units1 hr) (s_var 0) (s_str (s := q_tabs) rfl)) a_nil))) a_nil)) a_nil)))))))
    (ss_one (s_ret (s_op o_add (s_var 2) (s_tup (a_cons (s_var 1) (a_cons (s_dget (units1 hr) (s_var 0) (s_str (s := q_caps) rfl)) (a_cons (s_dget (units1 hr) (s_var 0) (s_str (s := q_free) rfl)) a_nil)))))))))
theorem sc__law_looks : FnScope ["_law_work", "_law_some", "_law_mark", "_law_one"] ["_law_work"] (defScope (top 68)) := ⟨rfl, rfl, rfl, by decide +kernel, rfl, by decide +kernel, by decide +kernel⟩
theorem bi__law_looks (Z : Fx K mg T) : Binds K Z.fd__law_looks ["_law_work"] [] := Z.F__law_looks.bindsN fun _ _ _ _ _ _ us hl => match us, hl with | [_], _ => rfl
theorem ok__law_looks (Z : Fx K mg T) : FnOk P w K mg base (L2.CX P w) 1 Z.f__law_looks Z.fd__law_looks ["_law_work"] (spOf K T m__law_looks) :=
  def_ok Z.F__law_looks sc__law_looks rfl rfl fun cdv A outer s H E hr tk hp => (ss_cons (s_set (i := 1) sc__law_looks.nd rfl (.inr rfl) (s_frz (f_comp (own := [("_law_mark", 2)]) rfl sc__law_looks.nd (i_seq (s_dget (units1 hr) (s_var 0) (s_str (s := q_marks) rfl))) (blkOk_by (by kernel_rfl)) rfl (by decide) (fun _ _ _ _ _ => (g_nm sc__law_looks.nd rfl (.inl rfl))) (fun _ _ _ _ _ => ts_nil) (fun _ _ _ _ _ => (s_slice (s_var 2) (o_some s_int) o_none)))))
    (ss_one (s_ret (s_frz (f_comp (own := [("_law_one", 3)]) rfl sc__law_looks.nd (i_seq (s_frz (f_sortSetD rfl rfl Z.b_sorted rfl Z.b_set (s_var 1) (units65 hr)))) (blkOk_by (by kernel_rfl)) rfl (by decide) (fun _ _ _ _ _ => (g_nm sc__law_looks.nd rfl (.inl rfl))) (fun _ _ _ _ _ => ts_nil) (fun _ _ _ _ _ => (s_op o_add (s_var 3) (s_tup (a_cons (s_mm PySem.F.slot_list_count PySem.F.type_list_count (m_count (units65 hr)) (s_var 1) (a_cons (s_var 3) a_nil)) a_nil)))))))))
theorem sc__law_which : FnScope ["_law_e", "_law_own"] ["_law_e"] (defScope (top 69)) := ⟨rfl, rfl, rfl, by decide +kernel, rfl, by decide +kernel, by decide +kernel⟩
theorem bi__law_which (Z : Fx K mg T) : Binds K Z.fd__law_which ["_law_e"] [] := Z.F__law_which.bindsN fun _ _ _ _ _ _ us hl => match us, hl with | [_], _ => rfl
theorem wh_ok (Z : Fx K mg T) {cdv : Value} {A : Around} {outer : List Env} {s : Shared} {H : Hp} {Q : VK} {a : Addr} {oe : Obj} {c : Nat} (c1 : 1 ≤ c) (c2 : c ≤ 10) (hz : Zc (.ref (T.exc c)) none oe) (hf : ∃ vs, oe.data = .fields vs)
    (hr : L2H.RoomH 0 (A.deeper (envOfC "_law_which" (defScope (top 69)) s.heap.objs.size Z.f__law_which cdv))) (hq : SmT.TagEnd K c H Q) :
    ∃ t, PSs (L2H.cxH SmT.CXF P w K mg base ["_law_e", "_law_own"] "_law_which" (defScope (top 69)) Z.f__law_which cdv A outer s H (fun _ _ _ => False) (a, oe)) (defBody (top 69)) t ∧ t { nx := fun _ H' => Q .non H', rt := Q } (L2.start ["_law_e", "_law_own"] [.ref a]) H := by
  have I := SmT.call_isP (X := L2H.cxH SmT.CXF P w K mg base ["_law_e", "_law_own"] "_law_which" (defScope (top 69)) Z.f__law_which cdv A outer s H (fun _ _ _ => False) (a, oe)) (a := a) (C := T.exc c) (oe := oe) ⟨List.mem_singleton.mpr rfl, hz.1, hz.2, hf⟩ (Z.xf.exc c c1 c2)
  have hu : (L2H.cxH SmT.CXF P w K mg base ["_law_e", "_law_own"] "_law_which" (defScope (top 69)) Z.f__law_which cdv A outer s H (fun _ _ _ => False) (a, oe)).A.units + 65 < cLine := by have q : A.units + 3 + 16 * 0 + 200 < cLine := hr.un; show A.units + 3 + 65 < cLine; omega
  refine ⟨SmT.tWhich K T (T.exc c) a, ?_, SmT.which_read Z.xf c1 c2 hq⟩
  exact pss_cons (ps_set (i := 1) sc__law_which.nd rfl (.inl rfl) (pe_lst (pa_cons (pe_callB I rfl Z.b_isinstance PyProof.Rows.boot_isinstance (pa_cons (pe_var rfl (.inl rfl)) (pa_cons (pe_glob (v := .ref (T.exc 1)) rfl Z.gx_NoMachine rfl) pa_nil))) (pa_cons (pe_callB I rfl Z.b_isinstance PyProof.Rows.boot_isinstance (pa_cons (pe_var rfl (.inl rfl)) (pa_cons (pe_glob (v := .ref (T.exc 2)) rfl Z.gx_NoKeys rfl) pa_nil))) (pa_cons (pe_callB I rfl Z.b_isinstance PyProof.Rows.boot_isinstance (pa_cons (pe_var rfl (.inl rfl)) (pa_cons (pe_glob (v := .ref (T.exc 3)) rfl Z.gx_NoKey rfl) pa_nil))) (pa_cons (pe_callB I rfl Z.b_isinstance PyProof.Rows.boot_isinstance (pa_cons (pe_var rfl (.inl rfl)) (pa_cons (pe_glob (v := .ref (T.exc 4)) rfl Z.gx_NoPlace rfl) pa_nil))) pa_nil)))))) (pss_cons (ps_expr (pe_bm PySem.F.plainAttrs_list PySem.F.slot_list_extend PySem.F.type_list_extend mt_extend (pe_var rfl (.inl rfl)) (pa_cons (pe_lst (pa_cons (pe_callB I rfl Z.b_isinstance PyProof.Rows.boot_isinstance (pa_cons (pe_var rfl (.inl rfl)) (pa_cons (pe_glob (v := .ref (T.exc 5)) rfl Z.gx_NoGoal rfl) pa_nil))) (pa_cons (pe_callB I rfl Z.b_isinstance PyProof.Rows.boot_isinstance (pa_cons (pe_var rfl (.inl rfl)) (pa_cons (pe_glob (v := .ref (T.exc 6)) rfl Z.gx_NoStrikes rfl) pa_nil))) (pa_cons (pe_callB I rfl Z.b_isinstance PyProof.Rows.boot_isinstance (pa_cons (pe_var rfl (.inl rfl)) (pa_cons (pe_glob (v := .ref (T.exc 7)) rfl Z.gx_NoText rfl) pa_nil))) (pa_cons (pe_callB I rfl Z.b_isinstance PyProof.Rows.boot_isinstance (pa_cons (pe_var rfl (.inl rfl)) (pa_cons (pe_glob (v := .ref (T.exc 8)) rfl Z.gx_NoNumbers rfl) pa_nil))) pa_nil))))) pa_nil)))
    (pss_cons (ps_expr (pe_bm PySem.F.plainAttrs_list PySem.F.slot_list_extend PySem.F.type_list_extend mt_extend (pe_var rfl (.inl rfl)) (pa_cons (pe_lst (pa_cons (pe_callB I rfl Z.b_isinstance PyProof.Rows.boot_isinstance (pa_cons (pe_var rfl (.inl rfl)) (pa_cons (pe_glob (v := .ref (T.exc 9)) rfl Z.gx_TooWide rfl) pa_nil))) (pa_cons (pe_callB I rfl Z.b_isinstance PyProof.Rows.boot_isinstance (pa_cons (pe_var rfl (.inl rfl)) (pa_cons (pe_glob (v := .ref (T.exc 10)) rfl Z.gx_Nothing rfl) pa_nil))) pa_nil))) pa_nil)))
    (pss_cons (ps_if (PW.pt (pw_or (pt_cmpR op_ne (pe_bm PySem.F.plainAttrs_list PySem.F.slot_list_count PySem.F.type_list_count (SmT.mt_countD hu) (pe_var rfl (.inl rfl)) (pa_cons pe_bl pa_nil)) pe_int (nomark _)) (pw_or1 (pt_not (pt_val (pe_callB I rfl Z.b_isinstance PyProof.Rows.boot_isinstance (pa_cons (pe_var rfl (.inl rfl)) (pa_cons (pe_bltn (v := .ty "ValueError") rfl Z.b_ValueError (by decide +kernel) rfl) pa_nil)))))))) pss_never pss_nil)
    (pss_one (ps_ret (pe_tup (pa_cons pe_str (pa_cons (pe_bm PySem.F.plainAttrs_list PySem.F.slot_list_index PySem.F.type_list_index mt_index (pe_var rfl (.inl rfl)) (pa_cons pe_bl pa_nil)) pa_nil))))))))
theorem sc__law_ask : FnScope ["_law_what", "_law_machine_here", "_law_keys_here", "_law_e"] ["_law_what", "_law_machine_here", "_law_keys_here"] (defScope (top 70)) := ⟨rfl, rfl, rfl, by decide +kernel, rfl, by decide +kernel, by decide +kernel⟩
theorem bi__law_ask (Z : Fx K mg T) : Binds K Z.fd__law_ask ["_law_what", "_law_machine_here", "_law_keys_here"] [] := Z.F__law_ask.bindsN fun _ _ _ _ _ _ us hl => match us, hl with | [_, _, _], _ => rfl
theorem ok__law_ask (Z : Fx K mg T) : FnOk P w K mg base (L2.CX P w) 9 Z.f__law_ask Z.fd__law_ask ["_law_what", "_law_machine_here", "_law_keys_here"] (spOf K T m__law_ask_v6) :=
  def_ok Z.F__law_ask sc__law_ask rfl rfl fun cdv A outer s H E hr tk hp => (ss_one (s_try (i := 3) rfl rfl sc__law_ask.nd rfl rfl ⟨rfl, rfl, .inl Z.gx_InkError⟩ tk Z.xf (fun W pn xe tk hp => (ss_one (s_ret (s_ifExp (t_cmp (o_eq hr.units) (s_var 0) s_int rfl) (s_call (ok_needless Z) (hr.mono (by decide)) tk rfl Z.g_needless Z.F_needless.kp (bi_needless Z) (a_cons (s_var 1) (a_cons (s_var 2) a_nil))) (s_call (ok_lean Z) (hr.mono (by decide)) tk rfl Z.g_lean Z.F_lean.kp (bi_lean Z) (a_cons (s_var 1) (a_cons (s_var 2) a_nil))))))) (fun a oe pn c c1 c2 hz hf => SmT.pe_which (k := 0) Z.F__law_which sc__law_which (bi__law_which Z) (hr.mono (by decide)) rfl Z.g__law_which rfl (.inl rfl) hz hf (fun cdv A outer s H Q hr2 hq => wh_ok Z c1 c2 hz hf hr2 hq))))
theorem sc__law_both : FnScope ["_law_machine_here", "_law_keys_here", "_law_work"] ["_law_machine_here", "_law_keys_here"] (defScope (top 71)) := ⟨rfl, rfl, rfl, by decide +kernel, rfl, by decide +kernel, by decide +kernel⟩
theorem bi__law_both (Z : Fx K mg T) : Binds K Z.fd__law_both ["_law_machine_here", "_law_keys_here"] [] := Z.F__law_both.bindsN fun _ _ _ _ _ _ us hl => match us, hl with | [_, _], _ => rfl
theorem ok__law_both (Z : Fx K mg T) : FnOk P w K mg base (L2.CX P w) 5 Z.f__law_both Z.fd__law_both ["_law_machine_here", "_law_keys_here"] (spOf K T m__law_both) :=
  def_ok Z.F__law_both sc__law_both rfl rfl fun cdv A outer s H E hr tk hp => (ss_cons (s_set (i := 2) sc__law_both.nd rfl (.inl rfl) (s_ix o_ix (s_call (ok__law_worked Z) (hr.mono (by decide)) tk rfl Z.g__law_worked Z.F__law_worked.kp (bi__law_worked Z) (a_cons (s_var 0) (a_cons (s_tup a_nil) (a_cons (s_var 1) a_nil)))) s_int))
    (ss_one (s_ret (s_tup (a_cons (s_call (ok__law_looks Z) (hr.mono (by decide)) tk rfl Z.g__law_looks Z.F__law_looks.kp (bi__law_looks Z) (a_cons (s_var 2) a_nil)) (a_cons (s_call (ok__law_stand Z) (hr.mono (by decide)) tk rfl Z.g__law_stand Z.F__law_stand.kp (bi__law_stand Z) (a_cons (s_var 2) a_nil)) a_nil))))))
theorem sc_law : FnScope ["_law_script", "_law_town", "_law_most", "_law_keys_here", "_law_goal", "_law_wish", "_law_row", "_law_number", "_law_key_here", "_law_found", "_law_some", "_law_long", "_law_machine_here", "_law_second", "_law_less", "_law_one", "_law_two", "_law_place", "_law_what"] ["_law_script"] (defScope (top 72)) := ⟨rfl, rfl, rfl, by decide +kernel, rfl, by decide +kernel, by decide +kernel⟩
theorem bi_law (Z : Fx K mg T) : Binds K Z.fd_law ["_law_script"] [] := Z.F_law.bindsN fun _ _ _ _ _ _ us hl => match us, hl with | [_], _ => rfl
theorem ok_law (Z : Fx K mg T) : FnOk P w K mg base (L2.CX P w) 10 Z.f_law Z.fd_law ["_law_script"] (spOf K T m_law_k06) :=
  def_ok Z.F_law sc_law rfl rfl fun cdv A outer s H E hr tk hp => (ss_cons (s_set (i := 1) sc_law.nd rfl (.inl rfl) (s_new (f_lst a_nil)))
    (ss_cons (s_set (i := 2) sc_law.nd rfl (.inl rfl) (s_call (ok__law_pick Z) (hr.mono (by decide)) tk rfl Z.g__law_pick Z.F__law_pick.kp (bi__law_pick Z) (a_cons (s_var 0) (a_cons (s_var 1) (a_cons (s_frz (f_lst (a_cons s_int (a_cons s_int (a_cons s_int a_nil))))) a_nil)))))
    (ss_cons (s_par (i := 12) (j := 13) rfl sc_law.nd rfl rfl (by decide) rfl rfl (a_cons (s_call (ok__law_machine Z) (hr.mono (by decide)) tk rfl Z.g__law_machine Z.F__law_machine.kp (bi__law_machine Z) (a_cons (s_var 0) (a_cons (s_var 1) a_nil))) (a_cons (s_call (ok__law_machine Z) (hr.mono (by decide)) tk rfl Z.g__law_machine Z.F__law_machine.kp (bi__law_machine Z) (a_cons (s_var 0) (a_cons (s_var 1) a_nil))) a_nil)))
    (ss_cons (s_set (i := 3) sc_law.nd rfl (.inr rfl) (s_call (ok__law_keys Z) (hr.mono (by decide)) tk rfl Z.g__law_keys Z.F__law_keys.kp (bi__law_keys Z) (a_cons (s_var 0) (a_cons (s_var 1) (a_cons (s_var 2) a_nil)))))
    (ss_cons (s_set (i := 4) sc_law.nd rfl (.inr rfl) (s_call (ok__law_both Z) (hr.mono (by decide)) tk rfl Z.g__law_both Z.F__law_both.kp (bi__law_both Z) (a_cons (s_var 12) (a_cons (s_var 3) a_nil))))
    (ss_cons (s_setComp (i := 5) (own := [("_law_number", 7)]) k_frz rfl sc_law.nd rfl rfl rfl (i_range1 rfl Z.b_range (s_callB c_len rfl Z.b_len boot_len (a_cons (s_var 3) a_nil))) (blkOk_by (by kernel_rfl)) rfl (by decide) (fun _ _ _ _ _ => (g_nm sc_law.nd rfl (.inl rfl))) (fun _ _ _ _ _ => (ts_one (t_cmp (o_eq hr.units) (s_call (ok__law_both Z) (hr.mono (by decide)) takes0 rfl Z.g__law_both Z.F__law_both.kp (bi__law_both Z) (a_cons (s_var 12) (a_cons (s_op o_add (s_slice (s_var 3) o_none (o_some (s_var 7))) (s_slice (s_var 3) (o_some (s_op o_add (s_var 7) s_int)) o_none)) a_nil))) (s_var 4) rfl))) (fun _ _ _ _ _ => (s_var 7)))
    (ss_cons (s_if (t_cmp (o_ne hr.units) (s_call (ok__law_ask Z) (hr.mono (by decide)) tk rfl Z.g__law_ask Z.F__law_ask.kp (bi__law_ask Z) (a_cons s_int (a_cons (s_var 12) (a_cons (s_var 3) a_nil)))) (s_var 5) rfl) (ss_one (s_ret s_bl)) ss_nil)
    (ss_cons (s_set (i := 6) sc_law.nd rfl (.inl rfl) (s_frz (f_callTy c_list rfl Z.b_list rfl (a_cons (s_var 3) a_nil))))
    (ss_cons (s_set (i := 7) sc_law.nd rfl (.inl rfl) s_int)
    (ss_cons (s_for hp rfl (i_seq (s_var 3)) (g_nm sc_law.nd rfl (.inl rfl)) (ss_cons (s_set (i := 14) sc_law.nd rfl (.inl rfl) (s_op o_add (s_slice (s_var 6) o_none (o_some (s_var 7))) (s_slice (s_var 6) (o_some (s_op o_add (s_var 7) s_int)) o_none)))
    (ss_one (s_if (t_cmp (o_eq hr.units) (s_call (ok__law_both Z) (hr.mono (by decide)) tk rfl Z.g__law_both Z.F__law_both.kp (bi__law_both Z) (a_cons (s_var 12) (a_cons (s_var 14) a_nil))) (s_var 4) rfl) (ss_one (s_set (i := 6) sc_law.nd rfl (.inl rfl) (s_var 14))) (ss_one (s_set (i := 7) sc_law.nd rfl (.inl rfl) (s_op o_add (s_var 7) s_int)))))))
    (ss_cons (s_set (i := 9) sc_law.nd rfl (.inl rfl) (s_call (ok__law_ask Z) (hr.mono (by decide)) tk rfl Z.g__law_ask Z.F__law_ask.kp (bi__law_ask Z) (a_cons s_int (a_cons (s_var 12) (a_cons (s_var 3) a_nil)))))
    (ss_cons (s_if (t_w (w_or (t_cmp (o_ne hr.units) (s_var 9) (s_callTy c_tuple rfl Z.b_tuple boot_tuple (a_cons (s_var 6) a_nil)) rfl) (w_or (t_cmp (o_ne hr.units) (s_call (ok_state Z) (hr.mono (by decide)) tk rfl Z.g_state Z.F_state.kp (bi_state Z) (a_cons (s_var 12) (a_cons (s_var 9) a_nil))) (s_call (ok_state Z) (hr.mono (by decide)) tk rfl Z.g_state Z.F_state.kp (bi_state Z) (a_cons (s_var 12) (a_cons (s_var 3) a_nil))) rfl) (w_or1 (t_not (t_val (s_call (ok_same_look Z) (hr.mono (by decide)) tk rfl Z.g_same_look Z.F_same_look.kp (bi_same_look Z) (a_cons (s_var 12) (a_cons (s_var 9) (a_cons (s_var 3) a_nil)))))))))) (ss_one (s_ret s_bl)) ss_nil)
    (ss_cons (s_par (i := 15) (j := 16) rfl sc_law.nd rfl rfl (by decide) rfl rfl (a_cons (s_ix o_ix (s_call (ok__law_worked Z) (hr.mono (by decide)) tk rfl Z.g__law_worked Z.F__law_worked.kp (bi__law_worked Z) (a_cons (s_var 12) (a_cons (s_tup a_nil) (a_cons (s_var 3) a_nil)))) s_int) (a_cons (s_ix o_ix (s_call (ok__law_worked Z) (hr.mono (by decide)) tk rfl Z.g__law_worked Z.F__law_worked.kp (bi__law_worked Z) (a_cons (s_var 13) (a_cons (s_tup a_nil) (a_cons (s_var 3) a_nil)))) s_int) a_nil)))
    (ss_cons (s_setComp (i := 10) (own := [("_law_place", 17)]) k_frz rfl sc_law.nd rfl rfl rfl (i_range1 rfl Z.b_range (s_callB c_len rfl Z.b_len boot_len (a_cons (s_var 3) a_nil))) (blkOk_by (by kernel_rfl)) rfl (by decide) (fun _ _ _ _ _ => (g_nm sc_law.nd rfl (.inl rfl))) (fun _ _ _ _ _ => (ts_one (t_cmp (o_ne hr.units) (s_ix o_ix (s_var 15) (s_var 17)) (s_ix o_ix (s_var 16) (s_var 17)) rfl))) (fun _ _ _ _ _ => (s_var 17)))
    (ss_cons (s_if (t_w (w_or (t_cmp (o_ne hr.units) (s_call (ok_parted Z) (hr.mono (by decide)) tk rfl Z.g_parted Z.F_parted.kp (bi_parted Z) (a_cons (s_var 12) (a_cons (s_var 13) (a_cons (s_var 3) a_nil)))) (s_ix o_ix (s_op o_add (s_var 10) (s_frz (f_lst (a_cons s_non a_nil)))) s_int) rfl) (w_or1 (t_cmp o_notN (s_call (ok_parted Z) (hr.mono (by decide)) tk rfl Z.g_parted Z.F_parted.kp (bi_parted Z) (a_cons (s_var 12) (a_cons (s_var 12) (a_cons (s_var 3) a_nil)))) s_non rfl)))) (ss_one (s_ret s_bl)) ss_nil)
    (ss_cons (s_set (i := 11) sc_law.nd rfl (.inr rfl) (s_op o_mulT (s_tup (a_cons (s_tup (a_cons (s_str (s := q_blank) rfl) a_nil)) (a_cons (s_tup (a_cons (s_str (s := q_back) rfl) a_nil)) a_nil))) s_int))
    (ss_cons (s_if (t_w (w_or (t_cmp (o_eq hr.units) (s_call (ok__law_ask Z) (hr.mono (by decide)) tk rfl Z.g__law_ask Z.F__law_ask.kp (bi__law_ask Z) (a_cons s_int (a_cons (s_var 12) (a_cons (s_var 11) a_nil)))) (s_tup (a_cons (s_str (s := q_refused) rfl) (a_cons s_int a_nil))) rfl) (w_or1 (t_cmp (o_ne hr.units) (s_call (ok__law_ask Z) (hr.mono (by decide)) tk rfl Z.g__law_ask Z.F__law_ask.kp (bi__law_ask Z) (a_cons s_int (a_cons (s_var 12) (a_cons (s_var 11) a_nil)))) (s_tup a_nil) rfl)))) (ss_one (s_ret s_bl)) ss_nil)
    (ss_one (s_ret (s_cmp (o_eq hr.units) (s_frz (f_comp (own := [("_law_what", 18)]) rfl sc_law.nd (i_range1 rfl Z.b_range s_int) (blkOk_by (by kernel_rfl)) rfl (by decide) (fun _ _ _ _ _ => (g_nm sc_law.nd rfl (.inl rfl))) (fun _ _ _ _ _ => ts_nil) (fun _ _ _ _ _ => (s_call (ok__law_ask Z) (hr.mono (by decide)) takes0 rfl Z.g__law_ask Z.F__law_ask.kp (bi__law_ask Z) (a_cons (s_var 18) (a_cons (s_var 12) (a_cons (s_op o_add (s_var 11) (s_tup (a_cons (s_tup (a_cons (s_str (s := q_up) rfl) a_nil)) a_nil))) a_nil))))))) (s_op o_mul (s_frz (f_lst (a_cons (s_tup (a_cons (s_str (s := q_refused) rfl) (a_cons s_int a_nil))) a_nil))) s_int) rfl))))))))))))))))))))
end
end Lw
/-! ## Lh06 -/
namespace Lw
open PySem PySem.Spec PyProof.Rows L2 RZ Sm
/-! ### the head -/
def d_is_whole : He.DefD := ⟨("is_whole", none), "is_whole", "is_whole", defArgs (top 24), defBody (top 24), defScope (top 24), [], []⟩
def d_is_one_of : He.DefD := ⟨("is_one_of", none), "is_one_of", "is_one_of", defArgs (top 25), defBody (top 25), defScope (top 25), [], []⟩
def d_is_rising : He.DefD := ⟨("is_rising", none), "is_rising", "is_rising", defArgs (top 26), defBody (top 26), defScope (top 26), [], []⟩
def d_is_machine : He.DefD := ⟨("is_machine", none), "is_machine", "is_machine", defArgs (top 27), defBody (top 27), defScope (top 27), [], []⟩
def d_need_machine : He.DefD := ⟨("need_machine", none), "need_machine", "need_machine", defArgs (top 28), defBody (top 28), defScope (top 28), [], []⟩
def d_end_of : He.DefD := ⟨("end_of", none), "end_of", "end_of", defArgs (top 29), defBody (top 29), defScope (top 29), [], []⟩
def d_is_key : He.DefD := ⟨("is_key", none), "is_key", "is_key", defArgs (top 30), defBody (top 30), defScope (top 30), [], []⟩
def d_need_keys : He.DefD := ⟨("need_keys", none), "need_keys", "need_keys", defArgs (top 31), defBody (top 31), defScope (top 31), [], []⟩
def d_struck_as : He.DefD := ⟨("struck_as", none), "struck_as", "struck_as", defArgs (top 32), defBody (top 32), defScope (top 32), [], []⟩
def d_Machine___init__ : He.DefD := ⟨("Machine", some "__init__"), "__init__", "Machine.__init__", defArgs (inClass (top 35) 0), defBody (inClass (top 35) 0), defScope (inClass (top 35) 0), [], []⟩
def d_Machine_is_locked : He.DefD := ⟨("Machine", some "is_locked"), "is_locked", "Machine.is_locked", defArgs (inClass (top 35) 1), defBody (inClass (top 35) 1), defScope (inClass (top 35) 1), [], []⟩
def d_Machine_go_on : He.DefD := ⟨("Machine", some "go_on"), "go_on", "Machine.go_on", defArgs (inClass (top 35) 2), defBody (inClass (top 35) 2), defScope (inClass (top 35) 2), [], []⟩
def d_Machine_strike : He.DefD := ⟨("Machine", some "strike"), "strike", "Machine.strike", defArgs (inClass (top 35) 3), defBody (inClass (top 35) 3), defScope (inClass (top 35) 3), [], []⟩
def d_Machine_lift : He.DefD := ⟨("Machine", some "lift"), "lift", "Machine.lift", defArgs (inClass (top 35) 4), defBody (inClass (top 35) 4), defScope (inClass (top 35) 4), [], []⟩
def d_Machine_move : He.DefD := ⟨("Machine", some "move"), "move", "Machine.move", defArgs (inClass (top 35) 5), defBody (inClass (top 35) 5), defScope (inClass (top 35) 5), [], []⟩
def d_Machine_roll : He.DefD := ⟨("Machine", some "roll"), "roll", "Machine.roll", defArgs (inClass (top 35) 6), defBody (inClass (top 35) 6), defScope (inClass (top 35) 6), [], []⟩
def d_Machine_set_up : He.DefD := ⟨("Machine", some "set_up"), "set_up", "Machine.set_up", defArgs (inClass (top 35) 7), defBody (inClass (top 35) 7), defScope (inClass (top 35) 7), [], []⟩
def d_Machine_press : He.DefD := ⟨("Machine", some "press"), "press", "Machine.press", defArgs (inClass (top 35) 8), defBody (inClass (top 35) 8), defScope (inClass (top 35) 8), [], []⟩
def d_Machine_stand : He.DefD := ⟨("Machine", some "stand"), "stand", "Machine.stand", defArgs (inClass (top 35) 9), defBody (inClass (top 35) 9), defScope (inClass (top 35) 9), [], []⟩
def d_worked : He.DefD := ⟨("worked", none), "worked", "worked", defArgs (top 36), defBody (top 36), defScope (top 36), [], []⟩
def d_need_both : He.DefD := ⟨("need_both", none), "need_both", "need_both", defArgs (top 37), defBody (top 37), defScope (top 37), [], []⟩
def d_state : He.DefD := ⟨("state", none), "state", "state", defArgs (top 38), defBody (top 38), defScope (top 38), [], []⟩
def d_marks_of : He.DefD := ⟨("marks_of", none), "marks_of", "marks_of", defArgs (top 40), defBody (top 40), defScope (top 40), [], []⟩
def d_look_of : He.DefD := ⟨("look_of", none), "look_of", "look_of", defArgs (top 41), defBody (top 41), defScope (top 41), [], []⟩
def d_same_look : He.DefD := ⟨("same_look", none), "same_look", "same_look", defArgs (top 42), defBody (top 42), defScope (top 42), [], []⟩
def d_left_by : He.DefD := ⟨("left_by", none), "left_by", "left_by", defArgs (top 45), defBody (top 45), defScope (top 45), [], []⟩
def d_need_few : He.DefD := ⟨("need_few", none), "need_few", "need_few", defArgs (top 46), defBody (top 46), defScope (top 46), [], []⟩
def d_needless : He.DefD := ⟨("needless", none), "needless", "needless", defArgs (top 47), defBody (top 47), defScope (top 47), [], []⟩
def d_lean : He.DefD := ⟨("lean", none), "lean", "lean", defArgs (top 48), defBody (top 48), defScope (top 48), [], []⟩
def d_parted : He.DefD := ⟨("parted", none), "parted", "parted", defArgs (top 49), defBody (top 49), defScope (top 49), [], []⟩
def d__law_cell_at : He.DefD := ⟨("_law_cell_at", none), "_law_cell_at", "_law_cell_at", defArgs (top 51), defBody (top 51), defScope (top 51), [], []⟩
def d__law_mixed : He.DefD := ⟨("_law_mixed", none), "_law_mixed", "_law_mixed", defArgs (top 52), defBody (top 52), defScope (top 52), [], []⟩
def d__law_draw : He.DefD := ⟨("_law_draw", none), "_law_draw", "_law_draw", defArgs (top 53), defBody (top 53), defScope (top 53), [], []⟩
def d__law_pick : He.DefD := ⟨("_law_pick", none), "_law_pick", "_law_pick", defArgs (top 54), defBody (top 54), defScope (top 54), [], []⟩
def d__law_machine : He.DefD := ⟨("_law_machine", none), "_law_machine", "_law_machine", defArgs (top 55), defBody (top 55), defScope (top 55), [], []⟩
def d__law_key : He.DefD := ⟨("_law_key", none), "_law_key", "_law_key", defArgs (top 56), defBody (top 56), defScope (top 56), [], []⟩
def d__law_keys : He.DefD := ⟨("_law_keys", none), "_law_keys", "_law_keys", defArgs (top 57), defBody (top 57), defScope (top 57), [], []⟩
def d__law_new : He.DefD := ⟨("_law_new", none), "_law_new", "_law_new", defArgs (top 58), defBody (top 58), defScope (top 58), [], []⟩
def d__law_shut : He.DefD := ⟨("_law_shut", none), "_law_shut", "_law_shut", defArgs (top 59), defBody (top 59), defScope (top 59), [], []⟩
def d__law_go : He.DefD := ⟨("_law_go", none), "_law_go", "_law_go", defArgs (top 60), defBody (top 60), defScope (top 60), [], []⟩
def d__law_as : He.DefD := ⟨("_law_as", none), "_law_as", "_law_as", defArgs (top 61), defBody (top 61), defScope (top 61), [], []⟩
def d__law_ink : He.DefD := ⟨("_law_ink", none), "_law_ink", "_law_ink", defArgs (top 62), defBody (top 62), defScope (top 62), [], []⟩
def d__law_turn : He.DefD := ⟨("_law_turn", none), "_law_turn", "_law_turn", defArgs (top 63), defBody (top 63), defScope (top 63), [], []⟩
def d__law_step : He.DefD := ⟨("_law_step", none), "_law_step", "_law_step", defArgs (top 64), defBody (top 64), defScope (top 64), [], []⟩
def d__law_press : He.DefD := ⟨("_law_press", none), "_law_press", "_law_press", defArgs (top 65), defBody (top 65), defScope (top 65), [], []⟩
def d__law_worked : He.DefD := ⟨("_law_worked", none), "_law_worked", "_law_worked", defArgs (top 66), defBody (top 66), defScope (top 66), [], []⟩
def d__law_stand : He.DefD := ⟨("_law_stand", none), "_law_stand", "_law_stand", defArgs (top 67), defBody (top 67), defScope (top 67), [], []⟩
def d__law_looks : He.DefD := ⟨("_law_looks", none), "_law_looks", "_law_looks", defArgs (top 68), defBody (top 68), defScope (top 68), [], []⟩
def d__law_which : He.DefD := ⟨("_law_which", none), "_law_which", "_law_which", defArgs (top 69), defBody (top 69), defScope (top 69), [], []⟩
def d__law_ask : He.DefD := ⟨("_law_ask", none), "_law_ask", "_law_ask", defArgs (top 70), defBody (top 70), defScope (top 70), [], []⟩
def d__law_both : He.DefD := ⟨("_law_both", none), "_law_both", "_law_both", defArgs (top 71), defBody (top 71), defScope (top 71), [], []⟩
def d_law : He.DefD := ⟨("law", none), "law", "law", defArgs (top 72), defBody (top 72), defScope (top 72), [], []⟩
def fn : List He.DefD := [d_is_whole, d_is_one_of, d_is_rising, d_is_machine, d_need_machine, d_end_of, d_is_key, d_need_keys, d_struck_as, d_Machine___init__, d_Machine_is_locked, d_Machine_go_on, d_Machine_strike, d_Machine_lift, d_Machine_move, d_Machine_roll, d_Machine_set_up, d_Machine_press, d_Machine_stand, d_worked, d_need_both, d_state, d_marks_of, d_look_of, d_same_look, d_left_by, d_need_few, d_needless, d_lean, d_parted, d__law_cell_at, d__law_mixed, d__law_draw, d__law_pick, d__law_machine, d__law_key, d__law_keys, d__law_new, d__law_shut, d__law_go, d__law_as, d__law_ink, d__law_turn, d__law_step, d__law_press, d__law_worked, d__law_stand, d__law_looks, d__law_which, d__law_ask, d__law_both, d_law]
def fa : List He.Fa := [.glo "is_whole", .glo "is_one_of", .glo "is_rising", .glo "is_machine", .glo "need_machine", .glo "end_of", .glo "is_key", .glo "need_keys", .glo "struck_as", .meth "Machine" "is_locked", .meth "Machine" "go_on", .meth "Machine" "strike", .meth "Machine" "lift", .meth "Machine" "move", .meth "Machine" "roll", .meth "Machine" "set_up", .meth "Machine" "press", .meth "Machine" "stand", .glo "worked", .glo "need_both", .glo "state", .glo "marks_of", .glo "look_of", .glo "same_look", .glo "left_by", .glo "need_few", .glo "needless", .glo "lean", .glo "parted", .glo "_law_cell_at", .glo "_law_mixed", .glo "_law_draw", .glo "_law_pick", .glo "_law_machine", .glo "_law_key", .glo "_law_keys", .glo "_law_new", .glo "_law_shut", .glo "_law_go", .glo "_law_as", .glo "_law_ink", .glo "_law_turn", .glo "_law_step", .glo "_law_press", .glo "_law_worked", .glo "_law_stand", .glo "_law_looks", .glo "_law_which", .glo "_law_ask", .glo "_law_both", .glo "law", .noat "Machine" "dead", .noat "Machine" "down", .noat "Machine" "end", .noat "Machine" "row", .noat "Machine" "place", .noat "Machine" "low", .noat "Machine" "high", .noat "Machine" "tabs", .noat "Machine" "colour", .noat "Machine" "caps", .noat "Machine" "is_free", .noat "Machine" "marks", .noat "Machine" "rings", .noat "Machine" "many", .cls "Machine", .glo "Machine", .mkr "Machine", .glo "InkError", .glo "NoKey", .glo "NoPlace", .glo "NoGoal", .glo "NoStrikes", .glo "NoText", .glo "NoNumbers", .glo "TooWide", .glo "Nothing", .free "ValueError", .exc "NoMachine", .glo "NoMachine", .exc "NoKeys", .glo "NoKeys", .str "LETTERS" "abcdefghijklmnopqrstuvwxyz", .str "GREAT" "ABCDEFGHIJKLMNOPQRSTUVWXYZ", .str "DEAD" "'^~", .str "SIGNS" "abcdefghijklmnopqrstuvwxyz0123456789.,-'^~", .glo "MOVES", .glo "TURNS", .int "LEAST" 8, .int "WIDEST" 40, .int "KEYS" 4000, .int "ROWS" 60, .int "BELL" 10, .int "MOST" 60, .free "all", .free "bool", .free "enumerate", .free "int", .free "isinstance", .free "len", .free "list", .free "min", .free "range", .free "set", .free "sorted", .free "str", .free "tuple", .free "zip"]
def ts : List TF := [.exc, .tup "MOVES" [q_blank, q_half, q_back, q_tab, q_return, q_up, q_down], .tup "TURNS" [q_left, q_right, q_set, q_clear, q_all, q_free, q_ribbon, q_caps]]
def tab (K : PySem.W.Frag) : Tab := ⟨fun i => match i with | 0 => He.ga K "Machine" | _ => 0, fun i => match i with | 0 => ["dead", "down", "end", "row", "place", "low", "high", "tabs", "colour", "caps", "is_free", "marks", "rings", "many"] | _ => [], fun i => match i with | 0 => He.ga K "InkError" | 1 => He.ga K "NoMachine" | 2 => He.ga K "NoKeys" | 3 => He.ga K "NoKey" | 4 => He.ga K "NoPlace" | 5 => He.ga K "NoGoal" | 6 => He.ga K "NoStrikes" | 7 => He.ga K "NoText" | 8 => He.ga K "NoNumbers" | 9 => He.ga K "TooWide" | 10 => He.ga K "Nothing" | _ => 0⟩
theorem fx {K : PySem.W.Frag} {h : Heap} {mg : Str → Option Value} (X : K.In h) (G : h.Ns mainGlobals mg) (c : SaysX fa fn ts K) : ∃ Z : Fx K mg (tab K), Z.f_law = He.ga K "law" := by
  obtain ⟨fd_is_whole, F_is_whole⟩ := c.d.def_ 0 (d := d_is_whole) rfl
  obtain ⟨fd_is_one_of, F_is_one_of⟩ := c.d.def_ 1 (d := d_is_one_of) rfl
  obtain ⟨fd_is_rising, F_is_rising⟩ := c.d.def_ 2 (d := d_is_rising) rfl
  obtain ⟨fd_is_machine, F_is_machine⟩ := c.d.def_ 3 (d := d_is_machine) rfl
  obtain ⟨fd_need_machine, F_need_machine⟩ := c.d.def_ 4 (d := d_need_machine) rfl
  obtain ⟨fd_end_of, F_end_of⟩ := c.d.def_ 5 (d := d_end_of) rfl
  obtain ⟨fd_is_key, F_is_key⟩ := c.d.def_ 6 (d := d_is_key) rfl
  obtain ⟨fd_need_keys, F_need_keys⟩ := c.d.def_ 7 (d := d_need_keys) rfl
  obtain ⟨fd_struck_as, F_struck_as⟩ := c.d.def_ 8 (d := d_struck_as) rfl
  obtain ⟨fd_Machine___init__, F_Machine___init__⟩ := c.d.def_ 9 (d := d_Machine___init__) rfl
  obtain ⟨fd_Machine_is_locked, F_Machine_is_locked⟩ := c.d.def_ 10 (d := d_Machine_is_locked) rfl
  obtain ⟨fd_Machine_go_on, F_Machine_go_on⟩ := c.d.def_ 11 (d := d_Machine_go_on) rfl
  obtain ⟨fd_Machine_strike, F_Machine_strike⟩ := c.d.def_ 12 (d := d_Machine_strike) rfl
  obtain ⟨fd_Machine_lift, F_Machine_lift⟩ := c.d.def_ 13 (d := d_Machine_lift) rfl
  obtain ⟨fd_Machine_move, F_Machine_move⟩ := c.d.def_ 14 (d := d_Machine_move) rfl
  obtain ⟨fd_Machine_roll, F_Machine_roll⟩ := c.d.def_ 15 (d := d_Machine_roll) rfl
  obtain ⟨fd_Machine_set_up, F_Machine_set_up⟩ := c.d.def_ 16 (d := d_Machine_set_up) rfl
  obtain ⟨fd_Machine_press, F_Machine_press⟩ := c.d.def_ 17 (d := d_Machine_press) rfl
  obtain ⟨fd_Machine_stand, F_Machine_stand⟩ := c.d.def_ 18 (d := d_Machine_stand) rfl
  obtain ⟨fd_worked, F_worked⟩ := c.d.def_ 19 (d := d_worked) rfl
  obtain ⟨fd_need_both, F_need_both⟩ := c.d.def_ 20 (d := d_need_both) rfl
  obtain ⟨fd_state, F_state⟩ := c.d.def_ 21 (d := d_state) rfl
  obtain ⟨fd_marks_of, F_marks_of⟩ := c.d.def_ 22 (d := d_marks_of) rfl
  obtain ⟨fd_look_of, F_look_of⟩ := c.d.def_ 23 (d := d_look_of) rfl
  obtain ⟨fd_same_look, F_same_look⟩ := c.d.def_ 24 (d := d_same_look) rfl
  obtain ⟨fd_left_by, F_left_by⟩ := c.d.def_ 25 (d := d_left_by) rfl
  obtain ⟨fd_need_few, F_need_few⟩ := c.d.def_ 26 (d := d_need_few) rfl
  obtain ⟨fd_needless, F_needless⟩ := c.d.def_ 27 (d := d_needless) rfl
  obtain ⟨fd_lean, F_lean⟩ := c.d.def_ 28 (d := d_lean) rfl
  obtain ⟨fd_parted, F_parted⟩ := c.d.def_ 29 (d := d_parted) rfl
  obtain ⟨fd__law_cell_at, F__law_cell_at⟩ := c.d.def_ 30 (d := d__law_cell_at) rfl
  obtain ⟨fd__law_mixed, F__law_mixed⟩ := c.d.def_ 31 (d := d__law_mixed) rfl
  obtain ⟨fd__law_draw, F__law_draw⟩ := c.d.def_ 32 (d := d__law_draw) rfl
  obtain ⟨fd__law_pick, F__law_pick⟩ := c.d.def_ 33 (d := d__law_pick) rfl
  obtain ⟨fd__law_machine, F__law_machine⟩ := c.d.def_ 34 (d := d__law_machine) rfl
  obtain ⟨fd__law_key, F__law_key⟩ := c.d.def_ 35 (d := d__law_key) rfl
  obtain ⟨fd__law_keys, F__law_keys⟩ := c.d.def_ 36 (d := d__law_keys) rfl
  obtain ⟨fd__law_new, F__law_new⟩ := c.d.def_ 37 (d := d__law_new) rfl
  obtain ⟨fd__law_shut, F__law_shut⟩ := c.d.def_ 38 (d := d__law_shut) rfl
  obtain ⟨fd__law_go, F__law_go⟩ := c.d.def_ 39 (d := d__law_go) rfl
  obtain ⟨fd__law_as, F__law_as⟩ := c.d.def_ 40 (d := d__law_as) rfl
  obtain ⟨fd__law_ink, F__law_ink⟩ := c.d.def_ 41 (d := d__law_ink) rfl
  obtain ⟨fd__law_turn, F__law_turn⟩ := c.d.def_ 42 (d := d__law_turn) rfl
  obtain ⟨fd__law_step, F__law_step⟩ := c.d.def_ 43 (d := d__law_step) rfl
  obtain ⟨fd__law_press, F__law_press⟩ := c.d.def_ 44 (d := d__law_press) rfl
  obtain ⟨fd__law_worked, F__law_worked⟩ := c.d.def_ 45 (d := d__law_worked) rfl
  obtain ⟨fd__law_stand, F__law_stand⟩ := c.d.def_ 46 (d := d__law_stand) rfl
  obtain ⟨fd__law_looks, F__law_looks⟩ := c.d.def_ 47 (d := d__law_looks) rfl
  obtain ⟨fd__law_which, F__law_which⟩ := c.d.def_ 48 (d := d__law_which) rfl
  obtain ⟨fd__law_ask, F__law_ask⟩ := c.d.def_ 49 (d := d__law_ask) rfl
  obtain ⟨fd__law_both, F__law_both⟩ := c.d.def_ 50 (d := d__law_both) rfl
  obtain ⟨fd_law, F_law⟩ := c.d.def_ 51 (d := d_law) rfl
  obtain ⟨t_LETTERS, g_LETTERS⟩ := He.str_ok X G (c.d.fact 82 (f := .str "LETTERS" "abcdefghijklmnopqrstuvwxyz") rfl)
  obtain ⟨t_GREAT, g_GREAT⟩ := He.str_ok X G (c.d.fact 83 (f := .str "GREAT" "ABCDEFGHIJKLMNOPQRSTUVWXYZ") rfl)
  obtain ⟨t_DEAD, g_DEAD⟩ := He.str_ok X G (c.d.fact 84 (f := .str "DEAD" "'^~") rfl)
  obtain ⟨t_SIGNS, g_SIGNS⟩ := He.str_ok X G (c.d.fact 85 (f := .str "SIGNS" "abcdefghijklmnopqrstuvwxyz0123456789.,-'^~") rfl)
  obtain ⟨t_LEAST, g_LEAST⟩ := He.int_ok X G (c.d.fact 88 (f := .int "LEAST" 8) rfl)
  obtain ⟨t_WIDEST, g_WIDEST⟩ := He.int_ok X G (c.d.fact 89 (f := .int "WIDEST" 40) rfl)
  obtain ⟨t_KEYS, g_KEYS⟩ := He.int_ok X G (c.d.fact 90 (f := .int "KEYS" 4000) rfl)
  obtain ⟨t_ROWS, g_ROWS⟩ := He.int_ok X G (c.d.fact 91 (f := .int "ROWS" 60) rfl)
  obtain ⟨t_BELL, g_BELL⟩ := He.int_ok X G (c.d.fact 92 (f := .int "BELL" 10) rfl)
  obtain ⟨t_MOST, g_MOST⟩ := He.int_ok X G (c.d.fact 93 (f := .int "MOST" 60) rfl)
  refine ⟨Fx.mk (He.ga K "is_whole")
    (fd_is_whole)
    (F_is_whole)
    (He.glo_ok X G (c.d.fact 0 (f := .glo "is_whole") rfl))
    (He.ga K "is_one_of")
    (fd_is_one_of)
    (F_is_one_of)
    (He.glo_ok X G (c.d.fact 1 (f := .glo "is_one_of") rfl))
    (He.ga K "is_rising")
    (fd_is_rising)
    (F_is_rising)
    (He.glo_ok X G (c.d.fact 2 (f := .glo "is_rising") rfl))
    (He.ga K "is_machine")
    (fd_is_machine)
    (F_is_machine)
    (He.glo_ok X G (c.d.fact 3 (f := .glo "is_machine") rfl))
    (He.ga K "need_machine")
    (fd_need_machine)
    (F_need_machine)
    (He.glo_ok X G (c.d.fact 4 (f := .glo "need_machine") rfl))
    (He.ga K "end_of")
    (fd_end_of)
    (F_end_of)
    (He.glo_ok X G (c.d.fact 5 (f := .glo "end_of") rfl))
    (He.ga K "is_key")
    (fd_is_key)
    (F_is_key)
    (He.glo_ok X G (c.d.fact 6 (f := .glo "is_key") rfl))
    (He.ga K "need_keys")
    (fd_need_keys)
    (F_need_keys)
    (He.glo_ok X G (c.d.fact 7 (f := .glo "need_keys") rfl))
    (He.ga K "struck_as")
    (fd_struck_as)
    (F_struck_as)
    (He.glo_ok X G (c.d.fact 8 (f := .glo "struck_as") rfl))
    (He.ma K (He.ga K "Machine") "__init__")
    (fd_Machine___init__)
    (F_Machine___init__)
    (He.ma K (He.ga K "Machine") "is_locked")
    (fd_Machine_is_locked)
    (F_Machine_is_locked)
    (He.meth_ok (c.d.fact 9 (f := .meth "Machine" "is_locked") rfl))
    (He.ma K (He.ga K "Machine") "go_on")
    (fd_Machine_go_on)
    (F_Machine_go_on)
    (He.meth_ok (c.d.fact 10 (f := .meth "Machine" "go_on") rfl))
    (He.ma K (He.ga K "Machine") "strike")
    (fd_Machine_strike)
    (F_Machine_strike)
    (He.meth_ok (c.d.fact 11 (f := .meth "Machine" "strike") rfl))
    (He.ma K (He.ga K "Machine") "lift")
    (fd_Machine_lift)
    (F_Machine_lift)
    (He.meth_ok (c.d.fact 12 (f := .meth "Machine" "lift") rfl))
    (He.ma K (He.ga K "Machine") "move")
    (fd_Machine_move)
    (F_Machine_move)
    (He.meth_ok (c.d.fact 13 (f := .meth "Machine" "move") rfl))
    (He.ma K (He.ga K "Machine") "roll")
    (fd_Machine_roll)
    (F_Machine_roll)
    (He.meth_ok (c.d.fact 14 (f := .meth "Machine" "roll") rfl))
    (He.ma K (He.ga K "Machine") "set_up")
    (fd_Machine_set_up)
    (F_Machine_set_up)
    (He.meth_ok (c.d.fact 15 (f := .meth "Machine" "set_up") rfl))
    (He.ma K (He.ga K "Machine") "press")
    (fd_Machine_press)
    (F_Machine_press)
    (He.meth_ok (c.d.fact 16 (f := .meth "Machine" "press") rfl))
    (He.ma K (He.ga K "Machine") "stand")
    (fd_Machine_stand)
    (F_Machine_stand)
    (He.meth_ok (c.d.fact 17 (f := .meth "Machine" "stand") rfl))
    (He.ga K "worked")
    (fd_worked)
    (F_worked)
    (He.glo_ok X G (c.d.fact 18 (f := .glo "worked") rfl))
    (He.ga K "need_both")
    (fd_need_both)
    (F_need_both)
    (He.glo_ok X G (c.d.fact 19 (f := .glo "need_both") rfl))
    (He.ga K "state")
    (fd_state)
    (F_state)
    (He.glo_ok X G (c.d.fact 20 (f := .glo "state") rfl))
    (He.ga K "marks_of")
    (fd_marks_of)
    (F_marks_of)
    (He.glo_ok X G (c.d.fact 21 (f := .glo "marks_of") rfl))
    (He.ga K "look_of")
    (fd_look_of)
    (F_look_of)
    (He.glo_ok X G (c.d.fact 22 (f := .glo "look_of") rfl))
    (He.ga K "same_look")
    (fd_same_look)
    (F_same_look)
    (He.glo_ok X G (c.d.fact 23 (f := .glo "same_look") rfl))
    (He.ga K "left_by")
    (fd_left_by)
    (F_left_by)
    (He.glo_ok X G (c.d.fact 24 (f := .glo "left_by") rfl))
    (He.ga K "need_few")
    (fd_need_few)
    (F_need_few)
    (He.glo_ok X G (c.d.fact 25 (f := .glo "need_few") rfl))
    (He.ga K "needless")
    (fd_needless)
    (F_needless)
    (He.glo_ok X G (c.d.fact 26 (f := .glo "needless") rfl))
    (He.ga K "lean")
    (fd_lean)
    (F_lean)
    (He.glo_ok X G (c.d.fact 27 (f := .glo "lean") rfl))
    (He.ga K "parted")
    (fd_parted)
    (F_parted)
    (He.glo_ok X G (c.d.fact 28 (f := .glo "parted") rfl))
    (He.ga K "_law_cell_at")
    (fd__law_cell_at)
    (F__law_cell_at)
    (He.glo_ok X G (c.d.fact 29 (f := .glo "_law_cell_at") rfl))
    (He.ga K "_law_mixed")
    (fd__law_mixed)
    (F__law_mixed)
    (He.glo_ok X G (c.d.fact 30 (f := .glo "_law_mixed") rfl))
    (He.ga K "_law_draw")
    (fd__law_draw)
    (F__law_draw)
    (He.glo_ok X G (c.d.fact 31 (f := .glo "_law_draw") rfl))
    (He.ga K "_law_pick")
    (fd__law_pick)
    (F__law_pick)
    (He.glo_ok X G (c.d.fact 32 (f := .glo "_law_pick") rfl))
    (He.ga K "_law_machine")
    (fd__law_machine)
    (F__law_machine)
    (He.glo_ok X G (c.d.fact 33 (f := .glo "_law_machine") rfl))
    (He.ga K "_law_key")
    (fd__law_key)
    (F__law_key)
    (He.glo_ok X G (c.d.fact 34 (f := .glo "_law_key") rfl))
    (He.ga K "_law_keys")
    (fd__law_keys)
    (F__law_keys)
    (He.glo_ok X G (c.d.fact 35 (f := .glo "_law_keys") rfl))
    (He.ga K "_law_new")
    (fd__law_new)
    (F__law_new)
    (He.glo_ok X G (c.d.fact 36 (f := .glo "_law_new") rfl))
    (He.ga K "_law_shut")
    (fd__law_shut)
    (F__law_shut)
    (He.glo_ok X G (c.d.fact 37 (f := .glo "_law_shut") rfl))
    (He.ga K "_law_go")
    (fd__law_go)
    (F__law_go)
    (He.glo_ok X G (c.d.fact 38 (f := .glo "_law_go") rfl))
    (He.ga K "_law_as")
    (fd__law_as)
    (F__law_as)
    (He.glo_ok X G (c.d.fact 39 (f := .glo "_law_as") rfl))
    (He.ga K "_law_ink")
    (fd__law_ink)
    (F__law_ink)
    (He.glo_ok X G (c.d.fact 40 (f := .glo "_law_ink") rfl))
    (He.ga K "_law_turn")
    (fd__law_turn)
    (F__law_turn)
    (He.glo_ok X G (c.d.fact 41 (f := .glo "_law_turn") rfl))
    (He.ga K "_law_step")
    (fd__law_step)
    (F__law_step)
    (He.glo_ok X G (c.d.fact 42 (f := .glo "_law_step") rfl))
    (He.ga K "_law_press")
    (fd__law_press)
    (F__law_press)
    (He.glo_ok X G (c.d.fact 43 (f := .glo "_law_press") rfl))
    (He.ga K "_law_worked")
    (fd__law_worked)
    (F__law_worked)
    (He.glo_ok X G (c.d.fact 44 (f := .glo "_law_worked") rfl))
    (He.ga K "_law_stand")
    (fd__law_stand)
    (F__law_stand)
    (He.glo_ok X G (c.d.fact 45 (f := .glo "_law_stand") rfl))
    (He.ga K "_law_looks")
    (fd__law_looks)
    (F__law_looks)
    (He.glo_ok X G (c.d.fact 46 (f := .glo "_law_looks") rfl))
    (He.ga K "_law_which")
    (fd__law_which)
    (F__law_which)
    (He.glo_ok X G (c.d.fact 47 (f := .glo "_law_which") rfl))
    (He.ga K "_law_ask")
    (fd__law_ask)
    (F__law_ask)
    (He.glo_ok X G (c.d.fact 48 (f := .glo "_law_ask") rfl))
    (He.ga K "_law_both")
    (fd__law_both)
    (F__law_both)
    (He.glo_ok X G (c.d.fact 49 (f := .glo "_law_both") rfl))
    (He.ga K "law")
    (fd_law)
    (F_law)
    (He.glo_ok X G (c.d.fact 50 (f := .glo "law") rfl))
    (⟨rfl, He.cls_ok (c.d.fact 65 (f := .cls "Machine") rfl), noats (by intro f hf; simp only [List.mem_cons, List.not_mem_nil, or_false] at hf; rcases hf with rfl | rfl | rfl | rfl | rfl | rfl | rfl | rfl | rfl | rfl | rfl | rfl | rfl | rfl; exact (c.d.fact 51 (f := .noat "Machine" "dead") rfl); exact (c.d.fact 52 (f := .noat "Machine" "down") rfl); exact (c.d.fact 53 (f := .noat "Machine" "end") rfl); exact (c.d.fact 54 (f := .noat "Machine" "row") rfl); exact (c.d.fact 55 (f := .noat "Machine" "place") rfl); exact (c.d.fact 56 (f := .noat "Machine" "low") rfl); exact (c.d.fact 57 (f := .noat "Machine" "high") rfl); exact (c.d.fact 58 (f := .noat "Machine" "tabs") rfl); exact (c.d.fact 59 (f := .noat "Machine" "colour") rfl); exact (c.d.fact 60 (f := .noat "Machine" "caps") rfl); exact (c.d.fact 61 (f := .noat "Machine" "is_free") rfl); exact (c.d.fact 62 (f := .noat "Machine" "marks") rfl); exact (c.d.fact 63 (f := .noat "Machine" "rings") rfl); exact (c.d.fact 64 (f := .noat "Machine" "many") rfl)), (by decide +kernel), (by decide +kernel)⟩)
    (He.glo_ok X G (c.d.fact 66 (f := .glo "Machine") rfl))
    (He.mkr_ok (c.d.fact 67 (f := .mkr "Machine") rfl))
    (He.glo_ok X G (c.d.fact 68 (f := .glo "InkError") rfl))
    (He.glo_ok X G (c.d.fact 69 (f := .glo "NoKey") rfl))
    (He.glo_ok X G (c.d.fact 70 (f := .glo "NoPlace") rfl))
    (He.glo_ok X G (c.d.fact 71 (f := .glo "NoGoal") rfl))
    (He.glo_ok X G (c.d.fact 72 (f := .glo "NoStrikes") rfl))
    (He.glo_ok X G (c.d.fact 73 (f := .glo "NoText") rfl))
    (He.glo_ok X G (c.d.fact 74 (f := .glo "NoNumbers") rfl))
    (He.glo_ok X G (c.d.fact 75 (f := .glo "TooWide") rfl))
    (He.glo_ok X G (c.d.fact 76 (f := .glo "Nothing") rfl))
    (exF_of (c.t 0 rfl) (fun c h => by match c, h with | 0, _ => rfl | 1, _ => rfl | 2, _ => rfl | 3, _ => rfl | 4, _ => rfl | 5, _ => rfl | 6, _ => rfl | 7, _ => rfl | 8, _ => rfl | 9, _ => rfl | 10, _ => rfl | n + 11, h => omega))
    (He.free_ok X G (c.d.fact 77 (f := .free "ValueError") rfl))
    ((He.exc_ok (c.d.fact 78 (f := .exc "NoMachine") rfl)).1)
    (He.glo_ok X G (c.d.fact 79 (f := .glo "NoMachine") rfl))
    ((He.exc_ok (c.d.fact 78 (f := .exc "NoMachine") rfl)).2.1)
    ((He.exc_ok (c.d.fact 78 (f := .exc "NoMachine") rfl)).2.2.1)
    ((He.exc_ok (c.d.fact 78 (f := .exc "NoMachine") rfl)).2.2.2)
    ((He.exc_ok (c.d.fact 80 (f := .exc "NoKeys") rfl)).1)
    (He.glo_ok X G (c.d.fact 81 (f := .glo "NoKeys") rfl))
    ((He.exc_ok (c.d.fact 80 (f := .exc "NoKeys") rfl)).2.1)
    ((He.exc_ok (c.d.fact 80 (f := .exc "NoKeys") rfl)).2.2.1)
    ((He.exc_ok (c.d.fact 80 (f := .exc "NoKeys") rfl)).2.2.2)
    (t_LETTERS)
    (g_LETTERS)
    (t_GREAT)
    (g_GREAT)
    (t_DEAD)
    (g_DEAD)
    (t_SIGNS)
    (g_SIGNS)
    (He.ga K "MOVES")
    (He.glo_ok X G (c.d.fact 86 (f := .glo "MOVES") rfl))
    ((Sm.TF.kt (c.t 1 rfl)))
    (He.ga K "TURNS")
    (He.glo_ok X G (c.d.fact 87 (f := .glo "TURNS") rfl))
    ((Sm.TF.kt (c.t 2 rfl)))
    (t_LEAST)
    (g_LEAST)
    (t_WIDEST)
    (g_WIDEST)
    (t_KEYS)
    (g_KEYS)
    (t_ROWS)
    (g_ROWS)
    (t_BELL)
    (g_BELL)
    (t_MOST)
    (g_MOST)
    (He.free_ok X G (c.d.fact 94 (f := .free "all") rfl))
    (He.free_ok X G (c.d.fact 95 (f := .free "bool") rfl))
    (He.free_ok X G (c.d.fact 96 (f := .free "enumerate") rfl))
    (He.free_ok X G (c.d.fact 97 (f := .free "int") rfl))
    (He.free_ok X G (c.d.fact 98 (f := .free "isinstance") rfl))
    (He.free_ok X G (c.d.fact 99 (f := .free "len") rfl))
    (He.free_ok X G (c.d.fact 100 (f := .free "list") rfl))
    (He.free_ok X G (c.d.fact 101 (f := .free "min") rfl))
    (He.free_ok X G (c.d.fact 102 (f := .free "range") rfl))
    (He.free_ok X G (c.d.fact 103 (f := .free "set") rfl))
    (He.free_ok X G (c.d.fact 104 (f := .free "sorted") rfl))
    (He.free_ok X G (c.d.fact 105 (f := .free "str") rfl))
    (He.free_ok X G (c.d.fact 106 (f := .free "tuple") rfl))
    (He.free_ok X G (c.d.fact 107 (f := .free "zip") rfl)), rfl⟩
def nms0 : List PySem.Str := ["InkError", "NoMachine", "NoKeys", "NoKey", "NoPlace", "NoGoal", "NoStrikes", "NoText", "NoNumbers", "TooWide", "Nothing", "LETTERS", "GREAT", "FIGURES", "DEAD", "SIGNS", "MOVES", "TURNS", "LEAST", "WIDEST", "KEYS", "ROWS", "is_whole", "is_one_of", "is_rising", "is_machine", "need_machine", "end_of", "is_key", "need_keys"]
def nms1 : List PySem.Str := ["struck_as", "BELL", "Machine", "worked", "need_both", "state", "marks_of", "look_of", "same_look", "MOST", "left_by", "need_few", "needless", "lean", "parted", "_law_cell_at", "_law_mixed", "_law_draw", "_law_pick", "_law_machine", "_law_key", "_law_keys", "_law_new", "_law_shut", "_law_go", "_law_as", "_law_ink", "_law_turn", "_law_step", "_law_press"]
def nms2 : List PySem.Str := ["_law_worked", "_law_stand", "_law_looks", "_law_which", "_law_ask", "_law_both"]
def nms : List PySem.Str := nms0 ++ nms1 ++ nms2
abbrev Rw : PySem.W.OpenRow := PySem.W.OpenLaw.row PySem.Challenge.rw_inkcarriage_k06_whole_lean
abbrev hk : PySem.W.Hook := hookX 5 fa fn ts
def ob (s : PySem.W.SharedT) : AlX := obsXG 5 fa fn ts (HandSHeadRun.getT s)
theorem ob_eq (s : PySem.W.SharedT) : ob s = hk.obs s.abs := obsXG_eq (HandSHeadRun.getT_eq s)
theorem run (w : World) : HandSHeadRun.RunEq Rw (PySem.W.view Rw.prog [72]) hk ob 9000 nms w := by
  intro os
  kernel_rfl
end Lw
section
open PySem PySem.W PySem.Calls PyProof.Rows
theorem Lw.holds_of (hm : ∀ ns : List Int, ns.length ≤ 63 → ∃ S', Lw.m_law_k06 [.src (ns.map Sm.D.int)] [] = .ok (.bl true) S') : PySem.Challenge.rw_inkcarriage_k06_whole_lean.Holds := by
  w_on; o_law
  refine HandSHeadRun.head_any (r := OpenLaw.row PySem.Challenge.rw_inkcarriage_k06_whole_lean) (q := view (OpenLaw.row PySem.Challenge.rw_inkcarriage_k06_whole_lean).prog [72]) (H := Lw.hk) (ob := Lw.ob) (M := 9000) (loose := Lw.nms) (d := HandSHeadRun.topDef (OpenLaw.row PySem.Challenge.rw_inkcarriage_k06_whole_lean).prog 72) (kwd := []) Lw.ob_eq
    (by kernel_rfl) (fun s => by kernel_rfl) Lw.run (by kernel_rfl) (by kernel_rfl) (by kernel_rfl) (by rfl) (by first | assumption | decide +kernel) (by decide +kernel) ⟨rfl, rfl, rfl, rfl, rfl, by decide +kernel⟩ ?hw ?hc
  case hw => w_witness2
  case hc =>
    refine L2.walk_ofE (l := PySem.Challenge.rw_inkcarriage_k06_whole_lean) (n := 63) (k := 10) (x := "_law_script") (CX := Sm.CXA) rfl (by decide) (by kernel_rfl) ⟨rfl, by decide, by decide⟩ ?F ?G
    case F =>
      intro w mg fa h Y G hmg0
      obtain ⟨K, KX, c⟩ := Y
      have hmg : mg ("law" : PySem.Str) = some (.ref fa) := by
        have e : (HandSHeadRun.topDef (OpenLaw.row PySem.Challenge.rw_inkcarriage_k06_whole_lean).prog 72).name = ("law" : PySem.Str) := by kernel_rfl
        rw [← e]
        exact hmg0
      obtain ⟨Z, hZ⟩ := Lw.fx KX G c
      have e := Z.g_law.symm.trans hmg
      rw [hZ] at e
      have hf : Z.f_law = fa := by rw [hZ]; exact (Value.ref.inj (Option.some.inj e))
      have b := L2.FunD.bindsA (ps := ["_law_script"]) Z.F_law fun _ _ _ _ _ _ us hl => match us, hl with | [_], _ => rfl
      exact ⟨K, Z.fd_law, Sm.spOf K (Lw.tab K) Lw.m_law_k06, KX, fun s v => b s [v] rfl, fun H a ns hl hO hS => Sm.sp_end hO hS (hm ns hl), fun base _ _ => hf ▸ Sm.cxa_of (Lw.ok_law Z)⟩
    case G => exact Sm.cxa_no
end
theorem PySem.Challenge.cw_inkcarriage_k06_whole_lean_holds : PySem.Challenge.rw_inkcarriage_k06_whole_lean.Holds :=
  Lw.holds_of Lw.law_k06
