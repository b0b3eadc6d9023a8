import PyProof.Rows.All
import Wide.All
import OpenK.AllK
import Wide.FinOn
import HandS.ForMost
import HandS.Exc
import HandS.ExcOwn
import HandS.ExcInit
import HandS.WordsExc
import HandS.TryMany
import HandS.DictComp
import HandS.Deep
import HandS.TupAny
import HandS.Wide
import HandS.WideBits
import HandS.Conv
import HandS.Zip
import HandS.IsInst
import HandS.Defaults
import HandS.Flow
import HandS.Star
import HandS.TupMul
import HandS.TupLe
import KE.SortData
import KE.DataMinMax
import HandS.SortInts
import HandS.WordsDict
import KE.KTupSum
import HandS.Small
import HandS.Style
import HandS.Head0
import HandS.Head1
import HandS.Head2
import HandS.Head3
import HandS.HeadEnd
import HandS.HeadHook4
import PySem.Challenge.RW_quorumbench_k90_whole_marks_and_tokens_a
set_option Elab.async false
set_option linter.all false
set_option maxRecDepth 100000
set_option maxHeartbeats 0
/-! The pure layer, part 1: plain data, states, what a state says of the heap. -/
namespace QB
open PySem PySem.Spec PyProof.Rows L2

inductive D where
  | non | bl (b : Bool) | int (i : Int) | str (x : Str)
  | tup (ds : List D) | lst (ds : List D) | wls (ds : List D) | dct (kvs : List (Key × D)) | ref (k : Nat)
inductive Cell where
  | lst (ds : List D) | dct (kvs : List (Key × D))
inductive Slot where
  | no | val (d : D) | own (c : Cell)
abbrev PEnv := List Slot
abbrev Store := List Cell
abbrev Pl := Nat ⊕ Nat
/-- a state: slots, cells, where the places stand, the heap -/
structure S8 where
  env : PEnv
  st : Store
  ad : Pl → Addr
  H : Hp
/-- what a value is read against: mutable addresses, the cells, the heap -/
structure Wd where
  K : PySem.W.Frag
  M : Addr → Prop
  n : Nat
  c : Nat → Addr
  H : Hp
def KL (K : PySem.W.Frag) (a : Addr) (xs : List V) : Prop :=
  ∃ (o : Obj) (its : Array Value) (n : Nat), K.lookup a = some o ∧ o.cls = .type "list" ∧ o.dict = none ∧ o.data = .seq its n ∧ its.size ≤ sizeLine ∧ Vals xs its.toList
def KT (K : PySem.W.Frag) (a : Addr) (xs : List V) : Prop :=
  ∃ (o : Obj) (its : Array Value) (n : Nat), K.lookup a = some o ∧ o.cls = .type "tuple" ∧ o.data = .seq its n ∧ its.size ≤ sizeLine ∧ Vals xs its.toList
/-- a tracked object that may not change -/
def Still (w : Wd) (a : Addr) (u : HO) : Prop := ¬ w.M a ∧ Rd w.H a u
def RdL (w : Wd) (a : Addr) (xs : List V) : Prop := ¬ w.M a ∧ w.H a = some (.lst xs)
/-- a written list, a locked one -/
def RdW (w : Wd) (a : Addr) (xs : List V) : Prop := Still w a (.lst xs) ∨ KL w.K a xs
def RdT (w : Wd) (a : Addr) (xs : List V) : Prop := Still w a (.tup xs) ∨ KT w.K a xs
/-- a dict, locked for good -/
def RdD (w : Wd) (a : Addr) (es : List (Key × V)) : Prop := ¬ w.M a ∧ ∃ o, w.H a = some (.frz o (.dK es))
theorem RdL.sq {w : Wd} {a : Addr} {xs : List V} (h : RdL w a xs) : SqL w.K w.H a xs := .inl (.inl h.2)
theorem RdW.sq {w : Wd} {a : Addr} {xs : List V} (h : RdW w a xs) : SqL w.K w.H a xs := h.elim (fun h => .inl h.2) .inr
theorem RdT.sq {w : Wd} {a : Addr} {xs : List V} (h : RdT w a xs) : SqT w.K w.H a xs := h.elim (fun h => .inl h.2) .inr
mutual
def Rp (w : Wd) : D → V → Prop
  | .non, v => v = .non
  | .bl b, v => v = .bl b
  | .int i, v => v = .int i
  | .str x, v => v = .str x
  | .tup ds, v => ∃ a xs, v = .ref a ∧ RdT w a xs ∧ RpL w ds xs
  | .lst ds, v => ∃ a xs, v = .ref a ∧ RdL w a xs ∧ RpL w ds xs
  | .wls ds, v => ∃ a xs, v = .ref a ∧ RdW w a xs ∧ RpL w ds xs
  | .dct kvs, v => ∃ a es, v = .ref a ∧ RdD w a es ∧ RpK w kvs es
  | .ref k, v => k < w.n ∧ v = .ref (w.c k)
def RpL (w : Wd) : List D → List V → Prop
  | [], vs => vs = []
  | d :: ds, vs => ∃ x xs, vs = x :: xs ∧ Rp w d x ∧ RpL w ds xs
def RpK (w : Wd) : List (Key × D) → List (Key × V) → Prop
  | [], es => es = []
  | (k, d) :: r, es => ∃ x xs, es = (k, x) :: xs ∧ Rp w d x ∧ RpK w r xs
end
theorem Rd.imp {H H' : Hp} {a : Addr} {u : HO} (h : Rd H a u) (k : ∀ o, H a = some o → H' a = some o) : Rd H' a u := by
  rcases h with h | ⟨o, h⟩
  · exact .inl (k _ h)
  · exact .inr ⟨o, k _ h⟩
theorem Rd.ne {H : Hp} {a : Addr} {u : HO} (h : Rd H a u) : H a ≠ none := by
  rcases h with h | ⟨o, h⟩ <;> rw [h] <;> intro z <;> cases z
/-- from one to another: all that stands still does so there, the cells are where they were -/
structure Wd.Le (w w' : Wd) : Prop where
  K : w'.K = w.K
  still : ∀ a o, w.H a = some o → ¬ w.M a → w'.H a = some o ∧ ¬ w'.M a
  n : w.n ≤ w'.n
  c : ∀ k, k < w.n → w'.c k = w.c k
section
variable {w w' : Wd}
theorem Wd.Le.st (l : w.Le w') {a : Addr} {u : HO} (h : Still w a u) : Still w' a u := by
  obtain ⟨h1, h2⟩ := h
  have hn := Rd.ne h2
  cases e : w.H a with
  | none => exact absurd e hn
  | some o =>
    have q := l.still a o e h1
    exact ⟨q.2, Rd.imp h2 fun o' e' => by rw [e] at e'; cases e'; exact q.1⟩
theorem Wd.Le.rdL (l : w.Le w') {a : Addr} {xs : List V} (h : RdL w a xs) : RdL w' a xs := by
  obtain ⟨h1, h2⟩ := h
  have q := l.still a _ h2 h1
  exact ⟨q.2, q.1⟩
theorem Wd.Le.rdD (l : w.Le w') {a : Addr} {xs : List (Key × V)} (h : RdD w a xs) : RdD w' a xs := by
  obtain ⟨h1, o, h2⟩ := h
  have q := l.still a _ h2 h1
  exact ⟨q.2, o, q.1⟩
theorem Wd.Le.rdW (l : w.Le w') {a : Addr} {xs : List V} (h : RdW w a xs) : RdW w' a xs := by
  unfold RdW; rw [l.K]; exact h.imp l.st id
theorem Wd.Le.rdT (l : w.Le w') {a : Addr} {xs : List V} (h : RdT w a xs) : RdT w' a xs := by
  unfold RdT; rw [l.K]; exact h.imp l.st id
mutual
theorem Wd.Le.rp (l : w.Le w') : ∀ (d : D) (v : V), Rp w d v → Rp w' d v
  | .non, _, h => by unfold Rp at *; exact h
  | .bl _, _, h => by unfold Rp at *; exact h
  | .int _, _, h => by unfold Rp at *; exact h
  | .str _, _, h => by unfold Rp at *; exact h
  | .tup ds, v, h => by
    unfold Rp at *
    obtain ⟨a, xs, e, h1, h2⟩ := h
    exact ⟨a, xs, e, l.rdT h1, Wd.Le.rpL l ds xs h2⟩
  | .lst ds, v, h => by
    unfold Rp at *
    obtain ⟨a, xs, e, h1, h2⟩ := h
    exact ⟨a, xs, e, l.rdL h1, Wd.Le.rpL l ds xs h2⟩
  | .wls ds, v, h => by
    unfold Rp at *
    obtain ⟨a, xs, e, h1, h2⟩ := h
    exact ⟨a, xs, e, l.rdW h1, Wd.Le.rpL l ds xs h2⟩
  | .dct kvs, v, h => by
    unfold Rp at *
    obtain ⟨a, xs, e, h1, h2⟩ := h
    exact ⟨a, xs, e, l.rdD h1, Wd.Le.rpK l kvs xs h2⟩
  | .ref k, v, h => by
    unfold Rp at *
    obtain ⟨h1, h2⟩ := h
    exact ⟨Nat.lt_of_lt_of_le h1 l.n, by rw [l.c k h1]; exact h2⟩
theorem Wd.Le.rpL (l : w.Le w') : ∀ (ds : List D) (vs : List V), RpL w ds vs → RpL w' ds vs
  | [], _, h => by unfold RpL at *; exact h
  | d :: ds, vs, h => by
    unfold RpL at *
    obtain ⟨x, xs, e, h1, h2⟩ := h
    exact ⟨x, xs, e, Wd.Le.rp l d x h1, Wd.Le.rpL l ds xs h2⟩
theorem Wd.Le.rpK (l : w.Le w') : ∀ (ds : List (Key × D)) (vs : List (Key × V)), RpK w ds vs → RpK w' ds vs
  | [], _, h => by unfold RpK at *; exact h
  | (k, d) :: ds, vs, h => by
    unfold RpK at *
    obtain ⟨x, xs, e, h1, h2⟩ := h
    exact ⟨x, xs, e, Wd.Le.rp l d x h1, Wd.Le.rpK l ds xs h2⟩
end
theorem Wd.Le.refl (w : Wd) : w.Le w := ⟨rfl, fun _ _ h m => ⟨h, m⟩, Nat.le_refl _, fun _ _ => rfl⟩
end
/-! lists of representations -/
section
variable {w : Wd}
theorem RpL.length : ∀ {ds : List D} {vs : List V}, RpL w ds vs → vs.length = ds.length
  | [], _, h => by unfold RpL at h; subst h; rfl
  | d :: ds, _, h => by
    unfold RpL at h
    obtain ⟨x, xs, rfl, _, h2⟩ := h
    simp [RpL.length h2]
theorem RpL.cons {d : D} {ds : List D} {v : V} {vs : List V} (h : Rp w d v) (h2 : RpL w ds vs) : RpL w (d :: ds) (v :: vs) := by
  unfold RpL; exact ⟨v, vs, rfl, h, h2⟩
theorem RpL.nil : RpL w [] [] := by unfold RpL; rfl
theorem RpL.of_cons {d : D} {ds : List D} {vs : List V} (h : RpL w (d :: ds) vs) : ∃ x xs, vs = x :: xs ∧ Rp w d x ∧ RpL w ds xs := by
  unfold RpL at h; exact h
theorem RpL.of_nil {vs : List V} (h : RpL w [] vs) : vs = [] := by unfold RpL at h; exact h
theorem RpL.append : ∀ {ds es : List D} {vs ws : List V}, RpL w ds vs → RpL w es ws → RpL w (ds ++ es) (vs ++ ws)
  | [], es, vs, ws, h, h2 => by rw [h.of_nil]; exact h2
  | d :: ds, es, vs, ws, h, h2 => by
    obtain ⟨x, xs, rfl, h3, h4⟩ := h.of_cons
    exact .cons h3 (RpL.append h4 h2)
theorem RpL.get : ∀ {ds : List D} {vs : List V} {i : Nat} {d : D}, RpL w ds vs → ds[i]? = some d → ∃ v, vs[i]? = some v ∧ Rp w d v
  | [], _, i, d, _, e => by simp at e
  | d :: ds, _, 0, d', h, e => by
    obtain ⟨x, xs, rfl, h3, h4⟩ := h.of_cons
    simp at e; subst e
    exact ⟨x, rfl, h3⟩
  | d :: ds, _, i + 1, d', h, e => by
    obtain ⟨x, xs, rfl, h3, h4⟩ := h.of_cons
    obtain ⟨v, e1, h5⟩ := RpL.get (i := i) h4 (by simpa using e)
    exact ⟨v, by simpa using e1, h5⟩
theorem RpL.getV : ∀ {ds : List D} {vs : List V} {i : Nat} {v : V}, RpL w ds vs → vs[i]? = some v → ∃ d, ds[i]? = some d ∧ Rp w d v
  | [], _, i, d, h, e => by rw [h.of_nil] at e; simp at e
  | d :: ds, _, 0, d', h, e => by
    obtain ⟨x, xs, rfl, h3, h4⟩ := h.of_cons
    simp at e; subst e
    exact ⟨d, rfl, h3⟩
  | d :: ds, _, i + 1, d', h, e => by
    obtain ⟨x, xs, rfl, h3, h4⟩ := h.of_cons
    obtain ⟨v, e1, h5⟩ := RpL.getV (i := i) h4 (by simpa using e)
    exact ⟨v, by simpa using e1, h5⟩
theorem RpL.set {d : D} {v : V} (r : Rp w d v) : ∀ {ds : List D} {vs : List V} (i : Nat), RpL w ds vs → RpL w (ds.set i d) (vs.set i v)
  | [], _, _, h => by rw [h.of_nil]; exact .nil
  | _ :: ds, _, 0, h => by
    obtain ⟨x, xs, rfl, h3, h4⟩ := h.of_cons
    exact .cons r h4
  | _ :: ds, _, i + 1, h => by
    obtain ⟨x, xs, rfl, h3, h4⟩ := h.of_cons
    exact .cons h3 (RpL.set r i h4)
theorem RpL.take : ∀ {ds : List D} {vs : List V} (n : Nat), RpL w ds vs → RpL w (ds.take n) (vs.take n)
  | _, _, 0, _ => by simp only [List.take_zero]; exact .nil
  | [], _, _ + 1, h => by rw [h.of_nil]; exact .nil
  | _ :: ds, _, n + 1, h => by
    obtain ⟨x, xs, rfl, h3, h4⟩ := h.of_cons
    exact .cons h3 (RpL.take n h4)
theorem RpL.drop : ∀ {ds : List D} {vs : List V} (n : Nat), RpL w ds vs → RpL w (ds.drop n) (vs.drop n)
  | _, _, 0, h => h
  | [], _, _ + 1, h => by rw [h.of_nil]; exact .nil
  | _ :: ds, _, n + 1, h => by
    obtain ⟨x, xs, rfl, h3, h4⟩ := h.of_cons
    exact RpL.drop n h4
theorem RpL.erase : ∀ {ds : List D} {vs : List V} (n : Nat), RpL w ds vs → RpL w (ds.eraseIdx n) (vs.eraseIdx n)
  | [], _, _, h => by rw [h.of_nil]; exact .nil
  | _ :: ds, _, 0, h => by
    obtain ⟨x, xs, rfl, h3, h4⟩ := h.of_cons
    exact h4
  | _ :: ds, _, n + 1, h => by
    obtain ⟨x, xs, rfl, h3, h4⟩ := h.of_cons
    exact .cons h3 (RpL.erase n h4)
theorem RpL.reverse : ∀ {ds : List D} {vs : List V}, RpL w ds vs → RpL w ds.reverse vs.reverse
  | [], _, h => by rw [h.of_nil]; exact .nil
  | _ :: ds, _, h => by
    obtain ⟨x, xs, rfl, h3, h4⟩ := h.of_cons
    rw [List.reverse_cons, List.reverse_cons]
    exact (RpL.reverse h4).append (.cons h3 .nil)
theorem RpL.ints : ∀ (ns : List Int), RpL w (ns.map D.int) (ns.map V.int)
  | [] => .nil
  | n :: ns => .cons (by unfold Rp; rfl) (RpL.ints ns)
theorem RpL.of_ints : ∀ {ns : List Int} {vs : List V}, RpL w (ns.map D.int) vs → vs = ns.map V.int
  | [], _, h => h.of_nil
  | n :: ns, _, h => by
    obtain ⟨x, xs, rfl, h3, h4⟩ := RpL.of_cons (d := .int n) (ds := ns.map D.int) h
    unfold Rp at h3
    rw [h3, RpL.of_ints h4]; rfl
end
/-! ### the places -/
def cont (env : PEnv) (st : Store) : Pl → Option Cell
  | .inl i => match env[i]? with
    | some (.own c) => some c
    | _ => none
  | .inr k => st[k]?
def S8.cont (S : S8) : Pl → Option Cell := QB.cont S.env S.st
/-- the mutable addresses: foreign ones (Z), those of the places -/
def Mu (Z : Addr → Prop) (S : S8) : Addr → Prop := fun a => Z a ∨ ∃ p c, S.cont p = some c ∧ S.ad p = a
def S8.wd (S : S8) (K : PySem.W.Frag) (Z : Addr → Prop) : Wd := ⟨K, Mu Z S, S.st.length, fun k => S.ad (.inr k), S.H⟩
def CellAt (w : Wd) : Cell → Addr → Prop
  | .lst ds, a => ∃ xs, w.H a = some (.lst xs) ∧ RpL w ds xs
  | .dct kvs, a => ∃ es, w.H a = some (.dK es) ∧ RpK w kvs es
structure Rel (K : PySem.W.Frag) (Z : Addr → Prop) (σ : L2.St) (S : S8) : Prop where
  len : S.env.length = σ.length
  val : ∀ (i : Nat) d, S.env[i]? = some (Slot.val d) → ∃ v, σ[i]? = some (some v) ∧ Rp (S.wd K Z) d v
  own : ∀ (i : Nat) c, S.env[i]? = some (Slot.own c) → σ[i]? = some (some (V.ref (S.ad (.inl i))))
  cell : ∀ p c, S.cont p = some c → CellAt (S.wd K Z) c (S.ad p)
  inj : ∀ p q c d, S.cont p = some c → S.cont q = some d → S.ad p = S.ad q → p = q
  zf : ∀ p c, S.cont p = some c → ¬ Z (S.ad p)
  zt : ∀ a, Z a → S.H a ≠ none
/-- what a piece of code may have done -/
structure Tr (S S' : S8) : Prop where
  dom : ∀ a, S.H a ≠ none → S'.H a ≠ none
  keep : ∀ a o, S.H a = some o → (∀ p c, S.cont p = some c → S.ad p ≠ a) → S'.H a = some o
  fresh : ∀ p c, S'.cont p = some c → (∃ q d, S.cont q = some d ∧ S.ad q = S'.ad p) ∨ S.H (S'.ad p) = none
  n : S.st.length ≤ S'.st.length
  c : ∀ k, k < S.st.length → S'.ad (.inr k) = S.ad (.inr k)
theorem Tr.refl (S : S8) : Tr S S := ⟨fun _ h => h, fun _ _ h _ => h, fun p c h => .inl ⟨p, c, h, rfl⟩, Nat.le_refl _, fun _ _ => rfl⟩
theorem Tr.trans {S S1 S2 : S8} (a : Tr S S1) (b : Tr S1 S2) : Tr S S2 where
  dom := fun x h => b.dom x (a.dom x h)
  keep := fun x o h m => by
    refine b.keep x o (a.keep x o h m) fun p c hp e => ?_
    rcases a.fresh p c hp with ⟨q, d, hq, eq⟩ | hn
    · exact m q d hq (eq.trans e)
    · rw [e, h] at hn; cases hn
  fresh := fun p c hp => by
    rcases b.fresh p c hp with ⟨q, d, hq, eq⟩ | hn
    · rcases a.fresh q d hq with ⟨q', d', hq', eq'⟩ | hn
      · exact .inl ⟨q', d', hq', eq'.trans eq⟩
      · exact .inr (by rw [← eq]; exact hn)
    · refine .inr ?_
      cases e : S.H (S2.ad p) with
      | none => rfl
      | some o => exact absurd hn (a.dom _ (by rw [e]; intro z; cases z))
  n := Nat.le_trans a.n b.n
  c := fun k h => (b.c k (Nat.lt_of_lt_of_le h a.n)).trans (a.c k h)
theorem Tr.le {K : PySem.W.Frag} {Z : Addr → Prop} {S S' : S8} (t : Tr S S') : (S.wd K Z).Le (S'.wd K Z) where
  K := rfl
  still := fun a o h m => by
    have m2 : ¬ Z a := fun z => m (.inl z)
    have m3 : ∀ p c, S.cont p = some c → S.ad p ≠ a := fun p c hp e => m (.inr ⟨p, c, hp, e⟩)
    refine ⟨t.keep a o h m3, ?_⟩
    rintro (z | ⟨p, c, hp, e⟩)
    · exact m2 z
    · rcases t.fresh p c hp with ⟨q, d, hq, eq⟩ | hn
      · exact m3 q d hq (eq.trans e)
      · have h' : S.H a = some o := h
        rw [e, h'] at hn; cases hn
  n := t.n
  c := t.c
section
variable {K : PySem.W.Frag} {Z : Addr → Prop} {S S' : S8}
theorem Tr.rp (t : Tr S S') {d : D} {v : V} (h : Rp (S.wd K Z) d v) : Rp (S'.wd K Z) d v := (t.le (K := K) (Z := Z)).rp d v h
theorem Tr.rpL (t : Tr S S') {d : List D} {v : List V} (h : RpL (S.wd K Z) d v) : RpL (S'.wd K Z) d v := (t.le (K := K) (Z := Z)).rpL d v h
theorem Tr.rpK (t : Tr S S') {d : List (Key × D)} {v : List (Key × V)} (h : RpK (S.wd K Z) d v) : RpK (S'.wd K Z) d v := (t.le (K := K) (Z := Z)).rpK d v h
end
end QB

/-! The pure layer, part 2: results, what is wanted of them, expressions. -/
namespace QB
open PySem PySem.Spec PyProof.Rows L2

structure Exn where
  cls : Str
  fs : List (Str × D)
inductive Res (α : Type) where
  | ok (a : α) (e : PEnv) (s : Store) | exc (x : Exn) (e : PEnv) (s : Store) | bad
abbrev M (α : Type) := PEnv → Store → Res α
def rt {α : Type} (a : α) : M α := fun e s => .ok a e s
def fail {α : Type} : M α := fun _ _ => .bad
def opt {α : Type} : Option α → M α
  | some a => rt a
  | none => fail
def Res.andThen {α β : Type} (r : Res α) (f : α → M β) : Res β := match r with
  | .ok a e s => f a e s
  | .exc x e s => .exc x e s
  | .bad => .bad
def bnd {α β : Type} (m : M α) (f : α → M β) : M β := fun e s => (m e s).andThen f
section
variable {α β : Type} {f : α → M β} {a : α} {e : PEnv} {s : Store} {x : Exn}
@[simp] theorem andThen_ok : (Res.ok a e s).andThen f = f a e s := rfl
@[simp] theorem andThen_exc : (Res.exc x e s : Res α).andThen f = .exc x e s := rfl
@[simp] theorem andThen_bad : (Res.bad : Res α).andThen f = .bad := rfl
@[simp] theorem rt_app : rt a e s = .ok a e s := rfl
@[simp] theorem fail_app : (fail e s : Res α) = .bad := rfl
@[simp] theorem opt_some : opt (some a) = rt a := rfl
@[simp] theorem opt_none : opt (none : Option α) = fail := rfl
@[simp] theorem bnd_app {m : M α} : bnd m f e s = (m e s).andThen f := rfl
end
/-- fields of an exception -/
def RpF (w : Wd) : List (Str × D) → List (Str × V) → Prop
  | [], es => es = []
  | (k, d) :: r, es => ∃ x xs, es = (k, x) :: xs ∧ Rp w d x ∧ RpF w r xs
theorem Wd.Le.rpF {w w' : Wd} (l : w.Le w') : ∀ (ds : List (Str × D)) (vs : List (Str × V)), RpF w ds vs → RpF w' ds vs
  | [], _, h => h
  | (k, d) :: ds, vs, h => by
    obtain ⟨x, xs, e, h1, h2⟩ := h
    exact ⟨x, xs, e, l.rp d x h1, Wd.Le.rpF l ds xs h2⟩
def ExAt (mg : Str → Option Value) (w : Wd) (x : Exn) (C dd : Addr) : Prop := mg x.cls = some (.ref C) ∧ ∃ vs, Still w dd (.xd vs) ∧ RpF w x.fs vs

section
variable {K : PySem.W.Frag} {mg : Str → Option Value} {Z : Addr → Prop} {σ : L2.St} {S S1 : S8} {α β : Type}
def Wp (K : PySem.W.Frag) (Z : Addr → Prop) (σ : L2.St) (S : S8) (r : Res α) (Q : α → S8 → Prop) (Qx : Exn → S8 → Prop) : Prop := match r with
  | .ok a e s => ∀ S' : S8, S'.env = e → S'.st = s → Rel K Z σ S' → Tr S S' → Q a S'
  | .exc x e s => ∀ S' : S8, S'.env = e → S'.st = s → Rel K Z σ S' → Tr S S' → Qx x S'
  | .bad => False
theorem Wp.from {r : Res α} {Q : α → S8 → Prop} {Qx : Exn → S8 → Prop} (h : Wp K Z σ S r Q Qx) (t : Tr S S1) : Wp K Z σ S1 r Q Qx := by
  cases r with
  | ok a e s => exact fun S' h1 h2 R T => h S' h1 h2 R (t.trans T)
  | exc x e s => exact fun S' h1 h2 R T => h S' h1 h2 R (t.trans T)
  | bad => exact h
theorem Wp.imp {r : Res α} {Q Q' : α → S8 → Prop} {Qx : Exn → S8 → Prop} (h : Wp K Z σ S r Q Qx) (k : ∀ a S', Rel K Z σ S' → Tr S S' → Q a S' → Q' a S') : Wp K Z σ S r Q' Qx := by
  cases r with
  | ok a e s => exact fun S' h1 h2 R T => k a S' R T (h S' h1 h2 R T)
  | exc x e s => exact h
  | bad => exact h
theorem Wp.bnd {m : M α} {f : α → M β} {Q : β → S8 → Prop} {Q' : α → S8 → Prop} {Qx : Exn → S8 → Prop} (h : Wp K Z σ S (QB.bnd m f S.env S.st) Q Qx)
    (k : ∀ a S', Rel K Z σ S' → Tr S S' → Wp K Z σ S' (f a S'.env S'.st) Q Qx → Q' a S') : Wp K Z σ S (m S.env S.st) Q' Qx := by
  rw [bnd_app] at h
  cases e : m S.env S.st with
  | ok a e' s' =>
    rw [e] at h
    intro S' h1 h2 R T
    refine k a S' R T ?_
    rw [h1, h2]
    exact Wp.from h T
  | exc x e' s' => rw [e] at h; exact h
  | bad => rw [e] at h; exact h
theorem Wp.here {a : α} {Q : α → S8 → Prop} {Qx : Exn → S8 → Prop} (h : Wp K Z σ S (.ok a S.env S.st) Q Qx) (R : Rel K Z σ S) : Q a S := h S rfl rfl R (Tr.refl S)
end

/-! ### new objects -/
section
variable {K : PySem.W.Frag} {Z : Addr → Prop} {σ : L2.St} {S : S8}
theorem CellAt.ne {w : Wd} {c : Cell} {a : Addr} (h : CellAt w c a) : w.H a ≠ none := by
  cases c with
  | lst ds => obtain ⟨xs, e, _⟩ := h; rw [e]; intro z; cases z
  | dct kvs => obtain ⟨xs, e, _⟩ := h; rw [e]; intro z; cases z
theorem Wd.Le.cell {w w' : Wd} (l : w.Le w') {c : Cell} {a : Addr} (e : w'.H a = w.H a) (h : CellAt w c a) : CellAt w' c a := by
  cases c with
  | lst ds => obtain ⟨xs, h1, h2⟩ := h; exact ⟨xs, e.trans h1, l.rpL _ _ h2⟩
  | dct kvs => obtain ⟨xs, h1, h2⟩ := h; exact ⟨xs, e.trans h1, l.rpK _ _ h2⟩
theorem Rel.notMu (R : Rel K Z σ S) {p : Addr} (h : S.H p = none) : ¬ Mu Z S p := by
  rintro (z | ⟨q, c, hq, e⟩)
  · exact R.zt p z h
  · have := (R.cell q c hq).ne
    rw [e] at this
    exact this h
abbrev S8.up (S : S8) (H' : Hp) : S8 := { S with H := H' }
theorem Tr.up {H' : Hp} (x : ∀ a o, S.H a = some o → H' a = some o) : Tr S (S.up H') where
  dom := fun a h => by
    cases e : S.H a with
    | none => exact absurd e h
    | some o => show H' a ≠ none; rw [x a o e]; intro z; cases z
  keep := fun a o h _ => x a o h
  fresh := fun p c h => .inl ⟨p, c, h, rfl⟩
  n := Nat.le_refl _
  c := fun _ _ => rfl
theorem Rel.up (R : Rel K Z σ S) {H' : Hp} (x : ∀ a o, S.H a = some o → H' a = some o) : Rel K Z σ (S.up H') where
  len := R.len
  val := fun i d h => by
    obtain ⟨v, e, r⟩ := R.val i d h
    exact ⟨v, e, (Tr.up x).rp r⟩
  own := R.own
  cell := fun p c h => by
    have q := R.cell p c h
    refine ((Tr.up x).le (K := K) (Z := Z)).cell ?_ q
    have n := q.ne
    show H' (S.ad p) = S.H (S.ad p)
    cases e : S.H (S.ad p) with
    | none => exact absurd e n
    | some o => exact x _ o e
  inj := R.inj
  zf := R.zf
  zt := fun a z => (Tr.up x).dom a (R.zt a z)
theorem ext_new {H : Hp} {p : Addr} {o : HO} (h : H p = none) : ∀ a u, H a = some u → upd H p o a = some u := fun a u e => by
  rw [upd_ne (ne_of_none e h)]; exact e
theorem Rel.newTup (R : Rel K Z σ S) {p : Addr} (h : S.H p = none) {ds : List D} {xs : List V} (r : RpL (S.wd K Z) ds xs) :
    Rp ((S.up (upd S.H p (.tup xs))).wd K Z) (.tup ds) (.ref p) := by
  unfold Rp
  exact ⟨p, xs, rfl, .inl ⟨R.notMu h, .inl upd_same⟩, (Tr.up (ext_new h)).rpL r⟩
def addZ (Z : Addr → Prop) (p : Addr) : Addr → Prop := fun a => Z a ∨ a = p
/-- a new object, foreign so far -/
theorem Rel.addNew (R : Rel K Z σ S) {p : Addr} {o : HO} (h : S.H p = none) : Rel K (addZ Z p) σ (S.up (upd S.H p o)) := by
  have x := ext_new (o := o) h
  have R' := R.up x
  have le : ((S.up (upd S.H p o)).wd K Z).Le ((S.up (upd S.H p o)).wd K (addZ Z p)) ∨ True := .inr trivial
  have lf : (S.wd K Z).Le ((S.up (upd S.H p o)).wd K (addZ Z p)) := by
    have l := (Tr.up x).le (K := K) (Z := Z)
    refine ⟨rfl, fun a u e m => ⟨(l.still a u e m).1, ?_⟩, l.n, l.c⟩
    have e' : S.H a = some u := e
    rintro ((z | z) | ⟨q, c, hq, e2⟩)
    · exact m (.inl z)
    · rw [z, h] at e'; cases e'
    · exact m (.inr ⟨q, c, hq, e2⟩)
  refine ⟨R.len, fun i d hi => ?_, R.own, fun q c hq => ?_, R.inj, fun q c hq => ?_, fun a z => ?_⟩
  · obtain ⟨v, e, r⟩ := R.val i d hi
    exact ⟨v, e, lf.rp d v r⟩
  · have k := R.cell q c hq
    refine lf.cell ?_ k
    have n := k.ne
    show upd S.H p o (S.ad q) = S.H (S.ad q)
    exact upd_ne (fun z => n (by rw [z]; exact h))
  · rintro (z | z)
    · exact R.zf q c hq z
    · have n := (R.cell q c hq).ne
      rw [z] at n
      exact n h
  · rcases z with z | z
    · exact (Tr.up x).dom a (R.zt a z)
    · rw [z]; show upd S.H p o p ≠ none; rw [upd_same]; intro q; cases q
theorem le_new (R : Rel K Z σ S) {p : Addr} {o : HO} (h : S.H p = none) : (S.wd K Z).Le ((S.up (upd S.H p o)).wd K (addZ Z p)) := by
  have l := (Tr.up (ext_new (o := o) h)).le (K := K) (Z := Z)
  refine ⟨rfl, fun a u e m => ⟨(l.still a u e m).1, ?_⟩, l.n, l.c⟩
  have e' : S.H a = some u := e
  rintro ((z | z) | ⟨q, c, hq, e2⟩)
  · exact m (.inl z)
  · rw [z, h] at e'; cases e'
  · exact m (.inr ⟨q, c, hq, e2⟩)
/-- a foreign object is frozen -/
theorem le_freeze {p : Addr} : (S.wd K (addZ Z p)).Le (S.wd K Z) :=
  ⟨rfl, fun a o e m => ⟨e, fun z => m (z.imp .inl id)⟩, Nat.le_refl _, fun _ _ => rfl⟩
theorem Rel.dropZ {p : Addr} (R : Rel K (addZ Z p) σ S) : Rel K Z σ S where
  len := R.len
  val := fun i d h => let ⟨v, e, r⟩ := R.val i d h; ⟨v, e, le_freeze.rp d v r⟩
  own := R.own
  cell := fun q c h => le_freeze.cell rfl (R.cell q c h)
  inj := R.inj
  zf := fun q c h z => R.zf q c h (.inl z)
  zt := fun a z => R.zt a (.inl z)
def Cell.d : Cell → D
  | .lst ds => .lst ds
  | .dct kvs => .dct kvs
theorem CellAt.frozen {w w' : Wd} {ds : List D} {p : Addr} (l : w.Le w') (m : ¬ w'.M p) (eH : w'.H p = w.H p) (h : CellAt w (.lst ds) p) : Rp w' (.lst ds) (.ref p) := by
  obtain ⟨xs, e, r⟩ := h; unfold Rp; exact ⟨p, xs, rfl, ⟨m, eH.trans e⟩, l.rpL _ _ r⟩
/-- a foreign object turns -/
theorem le_turn {p : Addr} {o : HO} (m : Mu Z S p) : (S.wd K Z).Le ((S.up (upd S.H p o)).wd K Z) :=
  ⟨rfl, fun a u e n => ⟨by
    have : a ≠ p := fun z => n (by rw [z]; exact m)
    show upd S.H p o a = some u
    rw [upd_ne this]; exact e, n⟩, Nat.le_refl _, fun _ _ => rfl⟩
theorem Rel.turn (R : Rel K Z σ S) {p : Addr} {o : HO} (z : Z p) : Rel K Z σ (S.up (upd S.H p o)) where
  len := R.len
  val := fun i d h => let ⟨v, e, r⟩ := R.val i d h; ⟨v, e, (le_turn (.inl z)).rp d v r⟩
  own := R.own
  cell := fun q c h => by
    refine (le_turn (.inl z)).cell ?_ (R.cell q c h)
    have : S.ad q ≠ p := fun e => R.zf q c h (by rw [e]; exact z)
    show upd S.H p o (S.ad q) = S.H (S.ad q)
    exact upd_ne this
  inj := R.inj
  zf := R.zf
  zt := fun a y => by
    by_cases e : a = p
    · subst e; show upd S.H a o a ≠ none; rw [upd_same]; intro q; cases q
    · show upd S.H p o a ≠ none; rw [upd_ne e]; exact R.zt a y
theorem Tr.turn {S0 : S8} (T : Tr S0 S) {p : Addr} {o : HO} (hp : S0.H p = none) : Tr S0 (S.up (upd S.H p o)) where
  dom := fun a h => by
    by_cases e : a = p
    · subst e; exact absurd hp h
    · show upd S.H p o a ≠ none; rw [upd_ne e]; exact T.dom a h
  keep := fun a u h n => by
    have e : a ≠ p := fun z => by rw [z, hp] at h; cases h
    show upd S.H p o a = some u
    rw [upd_ne e]; exact T.keep a u h n
  fresh := T.fresh
  n := T.n
  c := T.c
theorem Rel.notMu_z {p : Addr} (R : Rel K (addZ Z p) σ S) (h : ¬ Z p) : ¬ Mu Z S p := by
  rintro (z | ⟨q, c, hq, e⟩)
  · exact h z
  · exact R.zf q c hq (.inr e)
end
end QB

/-! The pure layer, part 3: the judgements, names, constants, displays. -/
namespace QB
open PySem PySem.Spec PyProof.Rows L2

/-- how a result is told by a value: foreign addresses, slots, the state ahead, the state behind -/
abbrev RK (α : Type) := (Addr → Prop) → L2.St → S8 → S8 → α → V → Prop
inductive Bv where
  | v (d : D) | s (i : Nat)
def rE (K : PySem.W.Frag) : RK D := fun Z _ _ S d v => Rp (S.wd K Z) d v
def rB (K : PySem.W.Frag) : RK Bv := fun Z σ _ S b v => match b with
  | .v d => Rp (S.wd K Z) d v
  | .s i => σ[i]? = some (some v)
/-- a new mutable object -/
def rF (K : PySem.W.Frag) : RK Cell := fun Z σ S0 S c v => ∃ p, v = .ref p ∧ S0.H p = none ∧ ¬ Z p ∧ Rel K (addZ Z p) σ S ∧ CellAt (S.wd K (addZ Z p)) c p
def Qx (K : PySem.W.Frag) (mg : Str → Option Value) (W : WX) (Z : Addr → Prop) (σ : L2.St) : Exn → S8 → Prop := fun x S' => ∀ C dd, ExAt mg (S'.wd K Z) x C dd → W (.ref C) (some dd) σ S'.H
def tG {α : Type} (K : PySem.W.Frag) (mg : Str → Option Value) (W : WX) (R : RK α) (m : M α) : TE := fun σ H Q =>
  ∃ Z S, S.H = H ∧ Rel K Z σ S ∧ Wp K Z σ S (m S.env S.st) (fun a S' => ∀ v, R Z σ S S' a v → Q v S'.H) (Qx K mg W Z σ)
def PEv (X : Cx) (W : WX) (e : Expr) (m : M D) : Prop := PE X e (tG X.K X.mg W (rE X.K) m)
def PBv (X : Cx) (W : WX) (e : Expr) (m : M Bv) : Prop := PE X e (tG X.K X.mg W (rB X.K) m)
def PFr (X : Cx) (W : WX) (e : Expr) (m : M Cell) : Prop := PE X e (tG X.K X.mg W (rF X.K) m)
def tGA (K : PySem.W.Frag) (mg : Str → Option Value) (W : WX) (m : M (List D)) : TA := fun σ H Q =>
  ∃ Z S, S.H = H ∧ Rel K Z σ S ∧ Wp K Z σ S (m S.env S.st) (fun ds S' => ∀ vs, RpL (S'.wd K Z) ds vs → Q vs S'.H) (Qx K mg W Z σ)
def PAv (X : Cx) (W : WX) (es : List Expr) (m : M (List D)) : Prop := PA X es (tGA X.K X.mg W m)
theorem PE.weak {X : Cx} {e : Expr} {t t' : TE} (h : PE X e t) (k : ∀ σ H Q, t' σ H Q → t σ H Q) : PE X e t' := ⟨fun pins s σ H Q I q => h.run pins s σ H Q I (k σ H Q q)⟩
theorem PA.weak {X : Cx} {e : List Expr} {t t' : TA} (h : PA X e t) (k : ∀ σ H Q, t' σ H Q → t σ H Q) : PA X e t' := ⟨fun pos pins s σ H Q I q => h.run pos pins s σ H Q I (k σ H Q q)⟩
theorem PT.weak {X : Cx} {e : Expr} {t t' : TT} (h : PT X e t) (k : ∀ σ H Q, t' σ H Q → t σ H Q) : PT X e t' := ⟨fun pins s σ H Q I q => h.run pins s σ H Q I (k σ H Q q)⟩
theorem PS.weak {X : Cx} {e : Stmt} {t t' : TS} (h : PS X e t) (k : ∀ D σ H, t' D σ H → t D σ H) : PS X e t' := ⟨fun pins s σ H D I q => h.run pins s σ H D I (k D σ H q)⟩
theorem PSs.weak {X : Cx} {e : List Stmt} {t t' : TS} (h : PSs X e t) (k : ∀ D σ H, t' D σ H → t D σ H) : PSs X e t' := ⟨fun pins s σ H D I q => h.run pins s σ H D I (k D σ H q)⟩

section
variable {X : Cx} {W : WX} {e : Expr} {pos : Pos}
/-! ### names -/
def varM (i : Nat) : M D := fun e s => match e[i]? with
  | some (.val d) => .ok d e s
  | _ => .bad
def bvarM (i : Nat) : M Bv := fun e s => match e[i]? with
  | some (.val d) => .ok (.v d) e s
  | some (.own _) => .ok (.s i) e s
  | _ => .bad
theorem ev_var (i : Nat) {x : Str} (h : PE X (.Name x pos) (tVar i) := by exact pv _) : PEv X W (.Name x pos) (varM i) := by
  refine PE.weak h fun σ H Q q => ?_
  obtain ⟨Z, S, rfl, R, hw⟩ := q
  unfold varM at hw
  split at hw
  · rename_i d e
    obtain ⟨v, e1, r1⟩ := R.val i d e
    exact ⟨v, e1, hw.here R v r1⟩
  · exact hw.elim
theorem bv_var (i : Nat) {x : Str} (h : PE X (.Name x pos) (tVar i) := by exact pv _) : PBv X W (.Name x pos) (bvarM i) := by
  refine PE.weak h fun σ H Q q => ?_
  obtain ⟨Z, S, rfl, R, hw⟩ := q
  unfold bvarM at hw
  split at hw
  · rename_i d e
    obtain ⟨v, e1, r1⟩ := R.val i d e
    exact ⟨v, e1, hw.here R v r1⟩
  · rename_i c e
    exact ⟨_, R.own i c e, hw.here R _ (R.own i c e)⟩
  · exact hw.elim
def toB (m : M D) : M Bv := bnd m fun d => rt (.v d)
theorem PEv.b {m : M D} (h : PEv X W e m) : PBv X W e (toB m) := by
  refine PE.weak h fun σ H Q q => ?_
  obtain ⟨Z, S, rfl, R, hw⟩ := q
  exact ⟨Z, S, rfl, R, Wp.bnd hw fun d S1 R1 T1 h1 v r1 => h1.here R1 v r1⟩
/-! ### constants -/
theorem ev_cst {v : V} {d : D} (h : PE X e (tC v)) (r : ∀ w, Rp w d v) : PEv X W e (rt d) := by
  refine PE.weak h fun σ H Q q => ?_
  obtain ⟨Z, S, rfl, R, hw⟩ := q
  exact hw.here R v (r _)
theorem ev_int {i : Int} {j : Nat} : PEv X W (.Constant (.int i) j pos) (rt (.int i)) := ev_cst pe_int fun w => by unfold Rp; rfl
theorem ev_bl {i : Bool} {j : Nat} : PEv X W (.Constant (.bool i) j pos) (rt (.bl i)) := ev_cst pe_bl fun w => by unfold Rp; rfl
theorem ev_non {j : Nat} : PEv X W (.Constant .none j pos) (rt .non) := ev_cst pe_non fun w => by unfold Rp; rfl
theorem ev_str {x : Str} {j : Nat} : PEv X W (.Constant (.str x) j pos) (rt (.str x)) := ev_cst pe_str fun w => by unfold Rp; rfl
/-- a constant of the module -/
theorem ev_glob {x : Str} {u : Value} {v : V} {d : D} (hg : Gl X x) (hm : X.mg x = some u) (rv : RelV v u) (r : ∀ w : Wd, w.K = X.K → Rp w d v) (hd : (x == ("__debug__" : Str)) = false := by decide) : PEv X W (.Name x pos) (rt d) := by
  refine PE.weak (pe_glob hg hm rv hd) fun σ H Q q => ?_
  obtain ⟨Z, S, rfl, R, hw⟩ := q
  exact hw.here R v (r _ rfl)
/-! ### lists of arguments -/
theorem av_nil : PAv X W [] (rt []) := by
  refine PA.weak pa_nil fun σ H Q q => ?_
  obtain ⟨Z, S, rfl, R, hw⟩ := q
  exact hw.here R [] RpL.nil
def consM (m : M D) (ms : M (List D)) : M (List D) := bnd m fun d => bnd ms fun ds => rt (d :: ds)
theorem av_cons {es : List Expr} {m : M D} {ms : M (List D)} (h : PEv X W e m) (hs : PAv X W es ms) (hst : starEach (e :: es) X.env = (false, eval e X.env) :: starEach es X.env := by rfl) : PAv X W (e :: es) (consM m ms) := by
  refine PA.weak (pa_cons h hs hst) fun σ H Q q => ?_
  obtain ⟨Z, S, rfl, R, hw⟩ := q
  refine ⟨Z, S, rfl, R, Wp.bnd hw fun d S1 R1 T1 h1 v r1 => ?_⟩
  refine ⟨Z, S1, rfl, R1, Wp.bnd h1 fun ds S2 R2 T2 h2 vs r2 => ?_⟩
  exact h2.here R2 _ (.cons (T2.rp r1) r2)
/-! ### displays -/
def szOk (n : Nat) : Bool := Nat.ble n 16777216
theorem szOk_le {n : Nat} (h : szOk n = true) : n ≤ sizeLine := by rw [sizeLine_eq]; exact Nat.le_of_ble_eq_true h
def chk (b : Bool) {α : Type} (m : M α) : M α := fun e s => match b with
  | true => m e s
  | false => .bad
@[simp] theorem chk_true {α : Type} {m : M α} : chk true m = m := rfl
@[simp] theorem chk_false {α : Type} {m : M α} : chk false m = fail := rfl
def tupM (m : M (List D)) : M D := bnd m fun ds => chk (szOk ds.length) (rt (.tup ds))
def lstM (m : M (List D)) : M Cell := bnd m fun ds => chk (szOk ds.length) (rt (.lst ds))
theorem Wp.chk {K : PySem.W.Frag} {Z : Addr → Prop} {σ : L2.St} {S : S8} {b : Bool} {α : Type} {m : M α} {Q : α → S8 → Prop} {Qx : Exn → S8 → Prop} (h : Wp K Z σ S (QB.chk b m S.env S.st) Q Qx) : b = true ∧ Wp K Z σ S (m S.env S.st) Q Qx := by
  cases b with
  | true => exact ⟨rfl, h⟩
  | false => exact h.elim
theorem ev_tup {es : List Expr} {x1} {ms : M (List D)} (h : PAv X W es ms) : PEv X W (.Tuple es x1 pos) (tupM ms) := by
  refine PE.weak (pe_tup h) fun σ H Q q => ?_
  obtain ⟨Z, S, rfl, R, hw⟩ := q
  refine ⟨Z, S, rfl, R, Wp.bnd hw fun ds S1 R1 T1 h1 vs r1 => ?_⟩
  obtain ⟨hb, h2⟩ := h1.chk
  refine ⟨by rw [r1.length]; exact szOk_le hb, fun p hp => ?_⟩
  exact h2 (S1.up (upd S1.H p (.tup vs))) rfl rfl (R1.up (ext_new hp)) (Tr.up (ext_new hp)) _ (R1.newTup hp r1)
theorem fr_lst {es : List Expr} {ms : M (List D)} (h : PAv X W es ms) : PFr X W (.List es pos) (lstM ms) := by
  refine PE.weak (pe_lst h) fun σ H Q q => ?_
  obtain ⟨Z, S, rfl, R, hw⟩ := q
  refine ⟨Z, S, rfl, R, Wp.bnd hw fun ds S1 R1 T1 h1 vs r1 => ?_⟩
  obtain ⟨hb, h2⟩ := h1.chk
  refine ⟨by rw [r1.length]; exact szOk_le hb, fun p hp => ?_⟩
  refine h2 (S1.up (upd S1.H p (.lst vs))) rfl rfl (R1.up (ext_new hp)) (Tr.up (ext_new hp)) _ ⟨p, rfl, ?_, fun z => R1.zt p z hp, R1.addNew hp, vs, upd_same, (le_new R1 hp).rpL _ _ r1⟩
  cases e : S.H p with
  | none => rfl
  | some o => exact absurd hp (T1.dom p (by rw [e]; intro z; cases z))
/-- the new object as a value -/
def frz (m : M Cell) : M D := bnd m fun c => rt c.d
theorem PE.ghost {X : Cx} {e : Expr} {t : TE} (h : PE X e t) : PE X e (fun σ H Q => t σ H (fun v H' => Q v H' ∨ ∃ d u, H' d = some u ∧ Mut (some u) ∧ ∀ od, Q v (upd H' d (.frz od u)))) := by
  refine ⟨fun pins s σ H Q I hw => thn (h.run pins s σ H _ I hw) fun v s1 ⟨x, H1, I1, r, q⟩ => ?_⟩
  rcases q with q | ⟨d, u, hd, mu, q⟩
  · exact ⟨x, H1, I1, r, q⟩
  · obtain ⟨od, I2⟩ := I1.lock hd mu
    exact ⟨x, _, I2, r, q od⟩
theorem PFr.frz {m : M Cell} (h : PFr X W e m) : PEv X W e (frz m) := by
  refine PE.weak (PE.ghost h) fun σ H Q q => ?_
  obtain ⟨Z, S, rfl, R, hw⟩ := q
  refine ⟨Z, S, rfl, R, ?_⟩
  have hw' : Wp X.K Z σ S (bnd m (fun c => rt c.d) S.env S.st) (fun a S' => ∀ v, rE X.K Z σ S S' a v → Q v S'.H) (Qx X.K X.mg W Z σ) := hw
  rw [bnd_app] at hw'
  cases e1 : m S.env S.st with
  | bad => rw [e1] at hw'; exact hw'
  | exc x e' s' => rw [e1] at hw'; exact hw'
  | ok c e' s' =>
    rw [e1] at hw'
    intro S' he hs R1 T1 v r1
    obtain ⟨p, rfl, hp, hz, R2, hc⟩ := r1
    cases c with
    | lst ds => exact .inl (hw' S' he hs R1 T1 _ (hc.frozen le_freeze (R2.notMu_z hz) rfl))
    | dct kvs =>
      obtain ⟨es, e2, rk⟩ := hc
      refine .inr ⟨p, .dK es, e2, trivial, fun od => ?_⟩
      have R3 := R2.turn (o := .frz od (.dK es)) (.inr rfl)
      refine hw' (S'.up (upd S'.H p (.frz od (.dK es)))) he hs R3.dropZ (T1.turn hp) _ ?_
      show Rp _ (.dct kvs) (.ref p)
      unfold Rp
      refine ⟨p, es, rfl, ⟨R3.notMu_z hz, od, upd_same⟩, ?_⟩
      exact le_freeze.rpK _ _ ((le_turn (.inl (.inr rfl))).rpK _ _ rk)
/-- .. as a new cell -/
def cellM (m : M Cell) : M D := bnd m fun c => fun e s => .ok (.ref s.length) e (s ++ [c])
end
end QB

/-! The pure layer, part 4: places made, contents read, operators. -/
namespace QB
open PySem PySem.Spec PyProof.Rows L2

section
variable {K : PySem.W.Frag} {Z : Addr → Prop} {σ : L2.St} {S S0 : S8}
/-! ### a foreign object becomes a cell -/
def adCell (S : S8) (p : Addr) : Pl → Addr
  | .inl i => S.ad (.inl i)
  | .inr k => if k = S.st.length then p else S.ad (.inr k)
abbrev S8.pushCell (S : S8) (c : Cell) (p : Addr) : S8 := ⟨S.env, S.st ++ [c], adCell S p, S.H⟩
theorem cont_push {c : Cell} {p : Addr} : ∀ {q : Pl} {d : Cell}, (S.pushCell c p).cont q = some d → (q = .inr S.st.length ∧ d = c ∧ (S.pushCell c p).ad q = p) ∨ (S.cont q = some d ∧ (S.pushCell c p).ad q = S.ad q)
  | .inl i, d, h => .inr ⟨h, rfl⟩
  | .inr k, d, h => by
    have h' : (S.st ++ [c])[k]? = some d := h
    by_cases e : k = S.st.length
    · subst e
      rw [List.getElem?_append_right (Nat.le_refl _)] at h'
      simp at h'
      exact .inl ⟨rfl, h'.symm, if_pos rfl⟩
    · refine .inr ⟨?_, if_neg e⟩
      by_cases l : k < S.st.length
      · rw [List.getElem?_append_left l] at h'; exact h'
      · rw [List.getElem?_append_right (by omega)] at h'
        have : k - S.st.length ≠ 0 := by omega
        cases q : k - S.st.length with
        | zero => exact absurd q this
        | succ n => rw [q] at h'; simp at h'
theorem cont_old {c : Cell} {p : Addr} {q : Pl} {d : Cell} (h : S.cont q = some d) : (S.pushCell c p).cont q = some d ∧ (S.pushCell c p).ad q = S.ad q := by
  cases q with
  | inl i => exact ⟨h, rfl⟩
  | inr k =>
    have h' : S.st[k]? = some d := h
    have l : k < S.st.length := (List.getElem?_eq_some_iff.mp h').1
    exact ⟨(List.getElem?_append_left l).trans h', if_neg (Nat.ne_of_lt l)⟩
theorem le_push {c : Cell} {p : Addr} : (S.wd K (addZ Z p)).Le ((S.pushCell c p).wd K Z) := by
  refine ⟨rfl, fun a o e m => ⟨e, ?_⟩, ?_, fun k h => if_neg (Nat.ne_of_lt h)⟩
  · rintro (z | ⟨q, d, hq, eq⟩)
    · exact m (.inl (.inl z))
    · rcases cont_push hq with ⟨_, _, e2⟩ | ⟨h2, e2⟩
      · exact m (.inl (.inr (eq.symm.trans e2)))
      · exact m (.inr ⟨q, d, h2, e2.symm.trans eq⟩)
  · show S.st.length ≤ (S.st ++ [c]).length
    simp
theorem Rel.toCell {c : Cell} {p : Addr} (R : Rel K (addZ Z p) σ S) (hz : ¬ Z p) (hc : CellAt (S.wd K (addZ Z p)) c p) : Rel K Z σ (S.pushCell c p) where
  len := R.len
  val := fun i d h => let ⟨v, e, r⟩ := R.val i d h; ⟨v, e, le_push.rp d v r⟩
  own := R.own
  cell := fun q d h => by
    rcases cont_push h with ⟨_, e1, e2⟩ | ⟨h2, e2⟩
    · rw [e1, e2]; exact le_push.cell rfl hc
    · rw [e2]; exact le_push.cell rfl (R.cell q d h2)
  inj := fun q r c1 c2 h1 h2 e => by
    rcases cont_push h1 with ⟨e1, _, a1⟩ | ⟨k1, a1⟩
    · rcases cont_push h2 with ⟨e2, _, a2⟩ | ⟨k2, a2⟩
      · rw [e1, e2]
      · exact absurd (.inr (a2.symm.trans (e.symm.trans a1))) (R.zf r c2 k2)
    · rcases cont_push h2 with ⟨e2, _, a2⟩ | ⟨k2, a2⟩
      · exact absurd (.inr (a1.symm.trans (e.trans a2))) (R.zf q c1 k1)
      · exact R.inj q r c1 c2 k1 k2 (a1.symm.trans (e.trans a2))
  zf := fun q d h z => by
    rcases cont_push h with ⟨_, _, a1⟩ | ⟨k1, a1⟩
    · rw [a1] at z; exact hz z
    · rw [a1] at z; exact R.zf q d k1 (.inl z)
  zt := fun a z => R.zt a (.inl z)
theorem Tr.toCell {c : Cell} {p : Addr} (T : Tr S0 S) (hp : S0.H p = none) : Tr S0 (S.pushCell c p) where
  dom := T.dom
  keep := T.keep
  fresh := fun q d h => by
    rcases cont_push h with ⟨_, _, a1⟩ | ⟨k1, a1⟩
    · rw [a1]; exact .inr hp
    · rw [a1]; exact T.fresh q d k1
  n := Nat.le_trans T.n (by show S.st.length ≤ (S.st ++ [c]).length; simp)
  c := fun k h => (if_neg (Nat.ne_of_lt (Nat.lt_of_lt_of_le h T.n))).trans (T.c k h)
theorem PFr.cell {X : Cx} {W : WX} {e : Expr} {m : M Cell} (h : PFr X W e m) : PEv X W e (cellM m) := by
  refine PE.weak h fun σ H Q q => ?_
  obtain ⟨Z, S, rfl, R, hw⟩ := q
  refine ⟨Z, S, rfl, R, ?_⟩
  have hw' : Wp X.K Z σ S (bnd m (fun c => fun e s => .ok (D.ref s.length) e (s ++ [c])) S.env S.st) (fun a S' => ∀ v, rE X.K Z σ S S' a v → Q v S'.H) (Qx X.K X.mg W Z σ) := hw
  rw [bnd_app] at hw'
  cases e1 : m S.env S.st with
  | bad => rw [e1] at hw'; exact hw'
  | exc x e' s' => rw [e1] at hw'; exact hw'
  | ok c e' s' =>
    rw [e1] at hw'
    intro S' he hs R1 T1 v r1
    obtain ⟨p, rfl, hp, hz, R2, hc⟩ := r1
    have k := hw' (S'.pushCell c p) he (by show S'.st ++ [c] = s' ++ [c]; rw [hs]) (R2.toCell hz hc) (T1.toCell hp)
    refine k _ ?_
    unfold rE Rp
    refine ⟨?_, ?_⟩
    · show s'.length < (S'.st ++ [c]).length
      rw [hs]; simp
    · show V.ref p = V.ref (if s'.length = S'.st.length then p else _)
      rw [hs, if_pos rfl]
end

/-! ### contents -/
def rd (b : Bv) : M D := fun e s => match b with
  | .v (.ref k) => (match s[k]? with
    | some c => .ok c.d e s
    | none => .bad)
  | .v d => .ok d e s
  | .s i => (match e[i]? with
    | some (.own c) => .ok c.d e s
    | _ => .bad)
section
variable {e : PEnv} {s : Store}
@[simp] theorem rd_non : rd (.v .non) e s = .ok .non e s := rfl
@[simp] theorem rd_bl {b : Bool} : rd (.v (.bl b)) e s = .ok (.bl b) e s := rfl
@[simp] theorem rd_int {b : Int} : rd (.v (.int b)) e s = .ok (.int b) e s := rfl
@[simp] theorem rd_str {b : Str} : rd (.v (.str b)) e s = .ok (.str b) e s := rfl
@[simp] theorem rd_tup {b : List D} : rd (.v (.tup b)) e s = .ok (.tup b) e s := rfl
@[simp] theorem rd_lst {b : List D} : rd (.v (.lst b)) e s = .ok (.lst b) e s := rfl
@[simp] theorem rd_wls {b : List D} : rd (.v (.wls b)) e s = .ok (.wls b) e s := rfl
@[simp] theorem rd_dct {b : List (Key × D)} : rd (.v (.dct b)) e s = .ok (.dct b) e s := rfl
theorem rd_ref {k : Nat} {c : Cell} (h : s[k]? = some c) : rd (.v (.ref k)) e s = .ok c.d e s := by
  show (match s[k]? with | some c => Res.ok c.d e s | none => .bad) = _
  rw [h]
theorem rd_own {i : Nat} {c : Cell} (h : e[i]? = some (.own c)) : rd (.s i) e s = .ok c.d e s := by
  show (match e[i]? with | some (.own c) => Res.ok c.d e s | _ => .bad) = _
  rw [h]
end
/-- what is read: the top may be mutable -/
def Rt (w : Wd) : D → V → Prop
  | .lst ds, v => ∃ a xs, v = .ref a ∧ w.H a = some (.lst xs) ∧ RpL w ds xs
  | .dct kvs, v => ∃ a es, v = .ref a ∧ Rd w.H a (.dK es) ∧ RpK w kvs es
  | .ref _, _ => False
  | .non, v => v = .non
  | .bl b, v => v = .bl b
  | .int i, v => v = .int i
  | .str x, v => v = .str x
  | .tup ds, v => ∃ a xs, v = .ref a ∧ RdT w a xs ∧ RpL w ds xs
  | .wls ds, v => ∃ a xs, v = .ref a ∧ RdW w a xs ∧ RpL w ds xs
theorem CellAt.rt {w : Wd} {c : Cell} {a : Addr} (h : CellAt w c a) : Rt w c.d (.ref a) := by
  cases c with
  | lst ds => obtain ⟨xs, e, r⟩ := h; exact ⟨a, xs, rfl, e, r⟩
  | dct kvs => obtain ⟨xs, e, r⟩ := h; exact ⟨a, xs, rfl, .inl e, r⟩
theorem Rp.rt {w : Wd} {d : D} {v : V} (h : Rp w d v) (n : ∀ k, d ≠ .ref k) : Rt w d v := by
  cases d with
  | ref k => exact absurd rfl (n k)
  | lst ds => unfold Rp at h; obtain ⟨a, xs, e, h1, h2⟩ := h; exact ⟨a, xs, e, h1.2, h2⟩
  | dct ds => unfold Rp at h; obtain ⟨a, xs, e, h1, h2⟩ := h; exact ⟨a, xs, e, .inr h1.2, h2⟩
  | _ => unfold Rp at h; exact h
theorem Wd.Le.rt_still {w w' : Wd} (l : w.Le w') (hk : ∀ a o, w.H a = some o → w'.H a = some o) {d : D} {v : V} (h : Rt w d v) : Rt w' d v := by
  cases d with
  | ref k => exact h
  | lst ds => obtain ⟨a, xs, e, h1, h2⟩ := h; exact ⟨a, xs, e, hk _ _ h1, l.rpL _ _ h2⟩
  | dct ds => obtain ⟨a, xs, e, h1, h2⟩ := h; exact ⟨a, xs, e, Rd.imp h1 (hk a), l.rpK _ _ h2⟩
  | tup ds => obtain ⟨a, xs, e, h1, h2⟩ := h; exact ⟨a, xs, e, l.rdT h1, l.rpL _ _ h2⟩
  | wls ds => obtain ⟨a, xs, e, h1, h2⟩ := h; exact ⟨a, xs, e, l.rdW h1, l.rpL _ _ h2⟩
  | _ => exact h
section
variable {K : PySem.W.Frag} {Z : Addr → Prop} {σ : L2.St} {S S0 : S8} {α : Type}
theorem Rel.rd_ok (R : Rel K Z σ S) {b : Bv} {v : V} (r : rB K Z σ S0 S b v) {f : D → M α} {Q : α → S8 → Prop} {Qx : Exn → S8 → Prop} (h : Wp K Z σ S (bnd (rd b) f S.env S.st) Q Qx) :
    ∃ d, Rt (S.wd K Z) d v ∧ Wp K Z σ S (f d S.env S.st) Q Qx := by
  rw [bnd_app] at h
  cases b with
  | v d =>
    cases d with
    | ref k =>
      have r' : Rp (S.wd K Z) (.ref k) v := r
      unfold Rp at r'
      obtain ⟨hk, e⟩ := r'
      have hk' : k < S.st.length := hk
      have hc : S.st[k]? = some S.st[k] := by simp [hk']
      rw [rd_ref hc] at h
      refine ⟨_, ?_, h⟩
      rw [e]
      exact (R.cell (.inr k) _ hc).rt
    | _ => exact ⟨_, Rp.rt r (fun k z => by cases z), h⟩
  | s i =>
    cases hi : S.env[i]? with
    | none =>
      have z : rd (.s i) S.env S.st = .bad := by
        show (match S.env[i]? with | some (.own c) => Res.ok c.d S.env S.st | _ => .bad) = _
        rw [hi]
      rw [z] at h; exact h.elim
    | some sl =>
      cases sl with
      | own c =>
        rw [rd_own hi] at h
        have e := R.own i c hi
        have e2 : σ[i]? = some (some v) := r
        rw [e] at e2
        cases e2
        refine ⟨_, (R.cell (.inl i) c ?_).rt, h⟩
        show (match S.env[i]? with | some (.own c) => some c | _ => none) = some c
        rw [hi]
      | _ =>
        have z : rd (.s i) S.env S.st = .bad := by
          show (match S.env[i]? with | some (.own c) => Res.ok c.d S.env S.st | _ => .bad) = _
          rw [hi]
        rw [z] at h; exact h.elim
theorem rB_tr {S1 : S8} (T : Tr S S1) {b : Bv} {v : V} (r : rB K Z σ S0 S b v) : rB K Z σ S0 S1 b v := by
  cases b with
  | v d => exact T.rp (K := K) (Z := Z) r
  | s i => exact r
end
/-- a value that is to come, over any further heap -/
def Fin (K : PySem.W.Frag) (Z : Addr → Prop) (S : S8) (d : D) (Q : VK) : Prop := ∀ H', (∀ a o, S.H a = some o → H' a = some o) → ∀ w, Rp ((S.up H').wd K Z) d w → Q w H'
section
variable {K : PySem.W.Frag} {mg : Str → Option Value} {Z : Addr → Prop} {σ : L2.St} {S S0 : S8} {Q : VK}
theorem Wp.fin {W : WX} {d : D} (R : Rel K Z σ S) (h : Wp K Z σ S (rt d S.env S.st) (fun a S' => ∀ v, rE K Z σ S0 S' a v → Q v S'.H) (Qx K mg W Z σ)) : Fin K Z S d Q :=
  fun H' x w r => h (S.up H') rfl rfl (R.up x) (Tr.up x) w r
theorem Fin.now {d : D} {v : V} (h : Fin K Z S d Q) (r : Rp (S.wd K Z) d v) : Q v S.H := h S.H (fun _ _ e => e) v r
theorem Fin.tup {ds : List D} (h : Fin K Z S (.tup ds) Q) (R : Rel K Z σ S) {xs : List V} (r : RpL (S.wd K Z) ds xs) : ∀ p, S.H p = none → Q (.ref p) (upd S.H p (.tup xs)) := fun p hp =>
  h _ (ext_new hp) _ (R.newTup hp r)
theorem Fin.lst {ds : List D} (h : Fin K Z S (.lst ds) Q) (R : Rel K Z σ S) {xs : List V} (r : RpL (S.wd K Z) ds xs) : ∀ p, S.H p = none → Q (.ref p) (upd S.H p (.lst xs)) := fun p hp => by
  refine h _ (ext_new hp) _ ?_
  unfold Rp
  exact ⟨p, xs, rfl, ⟨R.notMu hp, upd_same⟩, (Tr.up (ext_new hp)).rpL r⟩
end
theorem Wp.opt {K : PySem.W.Frag} {Z : Addr → Prop} {σ : L2.St} {S : S8} {α : Type} {o : Option α} {Q : α → S8 → Prop} {Qx : Exn → S8 → Prop} (h : Wp K Z σ S (QB.opt o S.env S.st) Q Qx) : ∃ a, o = some a ∧ Wp K Z σ S (rt a S.env S.st) Q Qx := by
  cases o with
  | none => exact h.elim
  | some a => exact ⟨a, rfl, h⟩
/-! ### operators -/
abbrev Op2 := D → D → Option D
def OpS (X : Cx) (f : Op2) (r : R2) : Prop := ∀ (Z : Addr → Prop) (σ : L2.St) (S : S8) (x y : D) (u v : V) (d : D) (Q : VK), Rel X.K Z σ S → Rt (S.wd X.K Z) x u → Rt (S.wd X.K Z) y v → f x y = some d → Fin X.K Z S d Q → r u v S.H Q
def op2M (f : Op2) (ma mb : M Bv) : M D := bnd ma fun x => bnd mb fun y => bnd (rd x) fun dx => bnd (rd y) fun dy => opt (f dx dy)
def op1M (f : D → Option D) (ma : M Bv) : M D := bnd ma fun x => bnd (rd x) fun dx => opt (f dx)
section
variable {X : Cx} {W : WX} {a b c : Expr} {ma mb mc : M Bv} {f f' : Op2} {r r' : R2} {pos : Pos}
theorem bin_go (hf : OpS X f r) {σ : L2.St} {H : Hp} {Q : VK} (q : tG X.K X.mg W (rE X.K) (op2M f ma mb) σ H Q) : tOp r (tG X.K X.mg W (rB X.K) ma) (tG X.K X.mg W (rB X.K) mb) σ H Q := by
  obtain ⟨Z, S, rfl, R, hw⟩ := q
  refine ⟨Z, S, rfl, R, Wp.bnd hw fun x S1 R1 T1 h1 u r1 => ?_⟩
  refine ⟨Z, S1, rfl, R1, Wp.bnd h1 fun y S2 R2 T2 h2 v r2 => ?_⟩
  obtain ⟨dx, t1, h3⟩ := R2.rd_ok (S0 := S) (rB_tr T2 r1) h2
  obtain ⟨dy, t2, h4⟩ := R2.rd_ok (S0 := S1) r2 h3
  obtain ⟨d, e, h5⟩ := Wp.opt h4
  exact hf Z σ S2 dx dy u v d Q R2 t1 t2 e (Wp.fin R2 h5)
theorem ev_bin {op : Operator} (ho : OpR X (binaryOp op) r) (hf : OpS X f r) (ha : PBv X W a ma) (hb : PBv X W b mb) : PEv X W (.BinOp a op b pos) (op2M f ma mb) :=
  PE.weak (pe_op ho ha hb) fun _ _ _ q => bin_go hf q
theorem ev_cmp {op : CmpOp} (ho : OpR X (compareOp op) r) (hf : OpS X f r) (ha : PBv X W a ma) (hb : PBv X W b mb) (hm : behindInMarks op b = false) : PEv X W (.Compare a [op] [b] pos) (op2M f ma mb) :=
  PE.weak (pe_cmpR ho ha hb hm) fun _ _ _ q => bin_go hf q
/-- a < b < c -/
def chainM (f f' : Op2) (ma mb mc : M Bv) : M D := bnd ma fun x => bnd mb fun y => bnd (rd x) fun dx => bnd (rd y) fun dy => bnd (opt (f dx dy)) fun z => match z with
  | .bl true => bnd mc fun w => bnd (rd y) fun dy => bnd (rd w) fun dw => opt (f' dy dw)
  | .bl false => rt (.bl false)
  | _ => fail
/-- an operator whose answer is a truth value -/
def OpB (X : Cx) (f : Op2) (r : R2) : Prop := ∀ (Z : Addr → Prop) (σ : L2.St) (S : S8) (x y : D) (u v : V) (d : D) (Q : VK), Rel X.K Z σ S → Rt (S.wd X.K Z) x u → Rt (S.wd X.K Z) y v → f x y = some d → ∃ k, d = .bl k ∧ (Q (.bl k) S.H → r u v S.H Q)
theorem OpB.s (h : OpB X f r) : OpS X f r := fun Z σ S x y u v d Q R t1 t2 e k => by
  obtain ⟨b, e1, h1⟩ := h Z σ S x y u v d Q R t1 t2 e
  subst e1
  exact h1 (k.now (by unfold Rp; rfl))
theorem chain_go (hf : OpB X f r) (hf' : OpS X f' r') {σ : L2.St} {H : Hp} {Q : VK} (q : tG X.K X.mg W (rE X.K) (chainM f f' ma mb mc) σ H Q) :
    tChain r r' (tG X.K X.mg W (rB X.K) ma) (tG X.K X.mg W (rB X.K) mb) (tG X.K X.mg W (rB X.K) mc) σ H Q := by
  obtain ⟨Z, S, rfl, R, hw⟩ := q
  refine ⟨Z, S, rfl, R, Wp.bnd hw fun x S1 R1 T1 h1 u r1 => ?_⟩
  refine ⟨Z, S1, rfl, R1, Wp.bnd h1 fun y S2 R2 T2 h2 v r2 => ?_⟩
  obtain ⟨dx, t1, h3⟩ := R2.rd_ok (S0 := S) (rB_tr T2 r1) h2
  obtain ⟨dy, t2, h4⟩ := R2.rd_ok (S0 := S1) r2 h3
  rw [bnd_app] at h4
  cases e : f dx dy with
  | none => rw [e] at h4; exact h4.elim
  | some d =>
    rw [e, opt_some, rt_app, andThen_ok] at h4
    obtain ⟨k, e1, hk⟩ := hf Z σ S2 dx dy u v d (fun z H3 => ∃ k, z = .bl k ∧ (if k = true then tG X.K X.mg W (rB X.K) mc σ H3 fun w' H4 => r' v w' H4 Q else Q (.bl false) H3)) R2 t1 t2 e
    subst e1
    refine hk ⟨k, rfl, ?_⟩
    cases k with
    | false => exact iteF ((Wp.fin R2 h4).now (by unfold Rp; rfl))
    | true =>
      refine iteT ⟨Z, S2, rfl, R2, Wp.bnd h4 fun w S3 R3 T3 h5 z r3 => ?_⟩
      obtain ⟨dy', t3, h6⟩ := R3.rd_ok (S0 := S1) (rB_tr T3 r2) h5
      obtain ⟨dw, t4, h7⟩ := R3.rd_ok (S0 := S2) r3 h6
      obtain ⟨d, e, h8⟩ := Wp.opt h7
      exact hf' Z σ S3 dy' dw v z d Q R3 t3 t4 e (Wp.fin R3 h8)
theorem ev_chain {op op' : CmpOp} (ho : OpR X (compareOp op) r) (ho' : OpR X (compareOp op') r') (hf : OpB X f r) (hf' : OpB X f' r') (ha : PBv X W a ma) (hb : PBv X W b mb) (hc : PBv X W c mc)
    (hm : lastMarks [op, op'] [b, c] = false := by with_unfolding_all rfl) :
    PEv X W (.Compare a [op, op'] [b, c] pos) (chainM f f' ma mb mc) := PE.weak (pe_chain ho ho' ha hb hc hm) fun _ _ _ q => chain_go hf hf'.s q
end
end QB

/-! The pure layer, part 5: the operators one by one. -/
namespace QB
open PySem PySem.Spec PyProof.Rows L2
section
variable {X : Cx}
theorem rp_int {w : Wd} {i : Int} : Rp w (.int i) (.int i) := by unfold Rp; rfl
theorem rp_bl {w : Wd} {i : Bool} : Rp w (.bl i) (.bl i) := by unfold Rp; rfl
theorem rp_str {w : Wd} {i : Str} : Rp w (.str i) (.str i) := by unfold Rp; rfl
theorem rp_non {w : Wd} : Rp w .non .non := by unfold Rp; rfl
theorem szOk_add {w : Wd} {xs ys : List D} {us vs : List V} (r1 : RpL w xs us) (r2 : RpL w ys vs) (h : szOk (xs.length + ys.length) = true) : us.length + vs.length ≤ sizeLine := by
  rw [r1.length, r2.length]; exact szOk_le h
/-! ### sums, products -/
def intD (C : Int → Int → Bool) (g : Int → Int → Int) : Op2
  | .int i, .int j => if C i j = true then some (.int (g i j)) else none
  | _, _ => none
theorem opS_int {C : Int → Int → Bool} {P : Int → Int → Prop} {g : Int → Int → Int} (hc : ∀ i j, C i j = true → P i j) : OpS X (intD C g) (rI P fun i j => .int (g i j)) := by
  intro Z σ S x y u v d Q R t1 t2 e k
  unfold intD at e
  split at e
  · rename_i i j
    split at e
    · rename_i hh
      cases e
      exact ⟨i, j, t1, t2, hc i j hh, k.now rp_int⟩
    · cases e
  · cases e
def addD : Op2
  | .int i, .int j => some (.int (i + j))
  | .tup xs, .tup ys => if szOk (xs.length + ys.length) = true then some (.tup (xs ++ ys)) else none
  | .lst xs, .lst ys => if szOk (xs.length + ys.length) = true then some (.lst (xs ++ ys)) else none
  | _, _ => none
def rAddA (K : PySem.W.Frag) : R2 := fun x y H Q => (rI0 (fun i j => .int (i + j)) x y H Q ∨ rCatA K x y H Q) ∨ rCat x y H Q
theorem op_addA : OpR X (binaryOp .Add) (rAddA X.K) := (op_add.or op_catA).or op_cat
theorem opS_add : OpS X addD (rAddA X.K) := by
  intro Z σ S x y u v d Q R t1 t2 e k
  unfold addD at e
  split at e
  · rename_i i j
    cases e
    exact .inl (.inl ⟨i, j, t1, t2, k.now rp_int⟩)
  · rename_i xs ys
    split at e
    · rename_i hs
      cases e
      obtain ⟨a, us, rfl, h1, r1⟩ := t1
      obtain ⟨b, vs, rfl, h2, r2⟩ := t2
      refine .inl (.inr ⟨a, b, us, vs, rfl, rfl, h1.sq, h2.sq, szOk_add r1 r2 hs, ?_, ?_, ?_⟩)
      · intro e
        subst e
        cases xs with
        | nil => exact k.now (by unfold Rp; exact ⟨b, vs, rfl, h2, r2⟩)
        | cons x xs => obtain ⟨_, _, z, _⟩ := r1.of_cons; cases z
      · intro _ e
        subst e
        cases ys with
        | nil => exact k.now (by rw [List.append_nil]; unfold Rp; exact ⟨a, us, rfl, h1, r1⟩)
        | cons x xs => obtain ⟨_, _, z, _⟩ := r2.of_cons; cases z
      · intro _ _ p hp
        exact k.tup R (r1.append r2) p hp
    · cases e
  · rename_i xs ys
    split at e
    · rename_i hs
      cases e
      obtain ⟨a, us, rfl, h1, r1⟩ := t1
      obtain ⟨b, vs, rfl, h2, r2⟩ := t2
      exact .inr ⟨a, b, us, vs, rfl, rfl, h1, h2, szOk_add r1 r2 hs, k.lst R (r1.append r2)⟩
    · cases e
  · cases e
def subD : Op2 := intD (fun _ _ => true) fun i j => i - j
theorem op_subA : OpR X (binaryOp .Sub) (rI (fun _ _ => True) fun i j => .int (i - j)) := opI fun _ _ _ _ _ _ _ _ q => sub_int q
theorem opS_sub : OpS X subD (rI (fun _ _ => True) fun i j => .int (i - j)) := opS_int fun _ _ _ => trivial
def small64 (i : Int) : Bool := decide (-(2 ^ 64) < i) && decide (i < 2 ^ 64)
theorem small64_ok {i : Int} (h : small64 i = true) : -(2 ^ 64) < i ∧ i < 2 ^ 64 := by
  unfold small64 at h
  simp only [Bool.and_eq_true, decide_eq_true_eq] at h
  exact h
/-- [x, ..] * k -/
def repD (xs : List D) (k : Nat) : List D := (List.replicate k xs).flatten
theorem RpL.rep {w : Wd} {ds : List D} {vs : List V} (r : RpL w ds vs) : ∀ k, RpL w (repD ds k) (List.replicate k vs).flatten
  | 0 => .nil
  | k + 1 => by
    unfold repD
    rw [List.replicate_succ, List.replicate_succ, List.flatten_cons, List.flatten_cons]
    exact r.append (RpL.rep r k)
def mulD : Op2
  | .int i, .int j => if (small64 i || small64 j) = true then some (.int (i * j)) else none
  | .lst xs, .int k => if (decide (-(2 ^ 20) < k) && decide (k < 2 ^ 20) && szOk (xs.length * k.toNat)) = true then some (.lst (repD xs k.toNat)) else none
  | .tup xs, .int k => if (decide (2 ≤ k) && decide (k ≤ 1000) && decide (xs.length ≤ 1000) && !xs.isEmpty) = true then some (.tup (repD xs k.toNat)) else none
  | _, _ => none
def rMulA (K : PySem.W.Frag) : R2 := fun x y H Q => (rI CMul (fun i j => .int (i * j)) x y H Q ∨ rRep x y H Q) ∨ rRepT K x y H Q
theorem op_mulA : OpR X (binaryOp .Mult) (rMulA X.K) := (op_mul.or op_rep).or op_repT
theorem opS_mul : OpS X mulD (rMulA X.K) := by
  intro Z σ S x y u v d Q R t1 t2 e k
  unfold mulD at e
  split at e
  · rename_i i j
    split at e
    · rename_i hh
      cases e
      refine .inl (.inl ⟨i, j, t1, t2, ?_, k.now rp_int⟩)
      rcases Bool.or_eq_true _ _ ▸ hh with h | h
      · exact .inl (small64_ok h)
      · exact .inr (small64_ok h)
    · cases e
  · rename_i xs j
    split at e
    · rename_i hh
      cases e
      simp only [Bool.and_eq_true, decide_eq_true_eq] at hh
      obtain ⟨a, us, rfl, h1, r1⟩ := t1
      refine .inl (.inr ⟨a, j, us, rfl, t2, h1, by omega, by omega, by rw [r1.length]; exact szOk_le hh.2, k.lst R (r1.rep _)⟩)
    · cases e
  · rename_i xs j
    split at e
    · rename_i hh
      cases e
      simp only [Bool.and_eq_true, decide_eq_true_eq, Bool.not_eq_true'] at hh
      obtain ⟨a, us, rfl, h1, r1⟩ := t1
      refine .inr ⟨a, j, us, rfl, t2, h1.sq, ?_, hh.1.1.1, hh.1.1.2, by rw [r1.length]; exact hh.1.2, k.tup R (r1.rep _)⟩
      intro z
      subst z
      cases xs with
      | nil => simp at hh
      | cons x xs => obtain ⟨_, _, z, _⟩ := r1.of_cons; cases z
    · cases e
  · cases e
/-! ### division and the rest -/
def pos64 (j : Int) : Bool := decide (0 < j) && decide (j < 2 ^ 64)
theorem log2_le {n k : Nat} (h : n < 2 ^ k) (hk : 0 < k) : n.log2 < k := PySem.Flt.log2_lt_of hk h
theorem pos64_ok {j : Int} (h : pos64 j = true) : CDivW 0 j := by
  unfold pos64 at h
  simp only [Bool.and_eq_true, decide_eq_true_eq] at h
  refine ⟨h.1, Nat.lt_trans (log2_le (k := 64) ?_ (by decide)) (by decide)⟩
  have : (j.natAbs : Int) = j := by omega
  omega
def fdivD : Op2 := intD (fun _ j => pos64 j) fun i j => i / j
theorem opS_fdiv : OpS X fdivD (rI CDivW fun i j => .int (i / j)) := opS_int fun i j h => pos64_ok h
def modD : Op2 := intD (fun _ j => decide (0 < j)) fun i j => i % j
theorem opS_mod : OpS X modD (rI (fun _ j => 0 < j) fun i j => .int (i % j)) := opS_int fun i j h => of_decide_eq_true h
def powD : Op2 := intD (fun i j => decide (0 ≤ j) && decide (j ≤ 1000) && small64 i) fun i j => i ^ j.toNat
theorem powOk {i j : Int} (h : (decide (0 ≤ j) && decide (j ≤ 1000) && small64 i) = true) : CPow i j := by
  simp only [Bool.and_eq_true, decide_eq_true_eq] at h
  have := small64_ok h.2
  exact ⟨h.1.1, by omega, by omega⟩
theorem opS_pow : OpS X powD (rI CPow fun i j => .int (i ^ j.toNat)) := opS_int fun i j h => powOk h
def shlD : Op2 := intD (fun i j => decide (0 ≤ j) && decide (j ≤ 1000) && small64 i) fun i j => i * 2 ^ j.toNat
theorem opS_shl : OpS X shlD (rI CPow fun i j => .int (i * 2 ^ j.toNat)) := opS_int fun i j h => powOk h
def shrD : Op2 := intD (fun i j => decide (0 ≤ j)) fun i j => i / 2 ^ j.toNat
theorem opS_shr : OpS X shrD (rI (fun _ j => 0 ≤ j) fun i j => .int (i / 2 ^ j.toNat)) := opS_int fun i j h => of_decide_eq_true h
theorem opS_int0 {g : Int → Int → Int} : OpS X (intD (fun _ _ => true) g) (rI0 fun i j => .int (g i j)) := by
  intro Z σ S x y u v d Q R t1 t2 e k
  unfold intD at e
  split at e
  · rename_i i j
    rw [if_pos rfl] at e
    cases e
    exact ⟨i, j, t1, t2, k.now rp_int⟩
  · cases e
def andD : Op2 := intD (fun _ _ => true) Builtin.bitAnd
def orD : Op2 := intD (fun _ _ => true) Builtin.bitOr
def xorD : Op2 := intD (fun _ _ => true) Builtin.bitXor
theorem opS_and : OpS X andD (rI0 fun i j => .int (Builtin.bitAnd i j)) := opS_int0
theorem opS_or : OpS X orD (rI0 fun i j => .int (Builtin.bitOr i j)) := opS_int0
theorem opS_xor : OpS X xorD (rI0 fun i j => .int (Builtin.bitXor i j)) := opS_int0
/-! ### comparisons of ints, of tuples of ints -/
def intsOf : List D → Option (List Int)
  | [] => some []
  | .int i :: r => (intsOf r).map (i :: ·)
  | _ => none
theorem intsOf_map : ∀ {ds : List D} {ns : List Int}, intsOf ds = some ns → ds = ns.map D.int
  | [], ns, h => by cases h; rfl
  | d :: ds, ns, h => by
    cases d with
    | int i =>
      unfold intsOf at h
      cases e : intsOf ds with
      | none => rw [e] at h; cases h
      | some l => rw [e] at h; cases h; rw [intsOf_map e]; rfl
    | _ => cases h
theorem intsOf_ints : ∀ ns : List Int, intsOf (ns.map D.int) = some ns
  | [] => rfl
  | n :: ns => by
    show (intsOf (ns.map D.int)).map (n :: ·) = _
    rw [intsOf_ints ns]; rfl
def cmpD (g : Int → Int → Bool) : Op2
  | .int i, .int j => some (.bl (g i j))
  | _, _ => none
theorem opB_cmp {g : Int → Int → Bool} : OpB X (cmpD g) (rI0 fun i j => .bl (g i j)) := by
  intro Z σ S x y u v d Q R t1 t2 e
  unfold cmpD at e
  split at e
  · rename_i i j
    cases e
    exact ⟨_, rfl, fun q => ⟨i, j, t1, t2, q⟩⟩
  · cases e
def ltD : Op2
  | .int i, .int j => some (.bl (decide (i < j)))
  | .tup xs, .tup ys => match intsOf xs, intsOf ys with
    | some ns, some ms => some (.bl (HT.lexLt ns ms))
    | _, _ => none
  | _, _ => none
def rLtA (K : PySem.W.Frag) : R2 := fun x y H Q => rI0 (fun i j => .bl (decide (i < j))) x y H Q ∨ rLtT K x y H Q
theorem op_ltA (hu : X.A.units < cLine) : OpR X (compareOp .Lt) (rLtA X.K) := op_lt.or (op_ltT hu)
theorem opB_lt : OpB X ltD (rLtA X.K) := by
  intro Z σ S x y u v d Q R t1 t2 e
  unfold ltD at e
  split at e
  · rename_i i j
    cases e
    exact ⟨_, rfl, fun q => .inl ⟨i, j, t1, t2, q⟩⟩
  · rename_i xs ys
    split at e
    · rename_i ns ms e1 e2
      cases e
      obtain ⟨a, us, rfl, h1, r1⟩ := t1
      obtain ⟨b, vs, rfl, h2, r2⟩ := t2
      refine ⟨_, rfl, fun q => .inr ⟨a, b, ns, ms, rfl, rfl, ?_, ?_, q⟩⟩
      · rw [intsOf_map e1] at r1; rw [← r1.of_ints]; exact h1.sq
      · rw [intsOf_map e2] at r2; rw [← r2.of_ints]; exact h2.sq
    · cases e
  · cases e
def leD : Op2 := cmpD fun i j => decide (i ≤ j)
def gtD : Op2 := cmpD fun i j => decide (j < i)
def geD : Op2 := cmpD fun i j => decide (j ≤ i)
theorem opB_le : OpB X leD (rI0 fun i j => .bl (decide (i ≤ j))) := opB_cmp
theorem opB_gt : OpB X gtD (rI0 fun i j => .bl (decide (j < i))) := opB_cmp
theorem opB_ge : OpB X geD (rI0 fun i j => .bl (decide (j ≤ i))) := opB_cmp
/-! ### equality of data -/
mutual
def toP : D → PyData
  | .non => .none
  | .bl b => .bool b
  | .int i => .int i
  | .str x => .str x
  | .tup ds => .tuple (toPs ds)
  | .lst ds => .list (toPs ds)
  | .wls ds => .list (toPs ds)
  | .dct _ => .none
  | .ref _ => .none
def toPs : List D → List PyData
  | [] => []
  | d :: ds => toP d :: toPs ds
end
mutual
def okN : Nat → D → Bool
  | _, .non => true
  | _, .bl _ => true
  | _, .int _ => true
  | _, .str x => PyData.strOk x
  | n + 1, .tup ds => okNs n ds
  | n + 1, .lst ds => okNs n ds
  | 0, .tup _ => false
  | 0, .lst _ => false
  | _, .wls _ => false
  | _, .dct _ => false
  | _, .ref _ => false
def okNs : Nat → List D → Bool
  | _, [] => true
  | n, d :: ds => okN n d && okNs n ds
end
mutual
theorem okN_lay : ∀ (n : Nat) (d : D), okN n d = true → (toP d).canLay0 = true ∧ (toP d).depth ≤ n
  | _, .non, _ => by simp [toP, PyData.canLay0, PyData.depth]
  | _, .bl _, _ => by simp [toP, PyData.canLay0, PyData.depth]
  | _, .int _, _ => by simp [toP, PyData.canLay0, PyData.depth]
  | n, .str x, h => by cases n <;> simp [okN] at h <;> simp [toP, PyData.canLay0, PyData.depth, h]
  | n + 1, .tup ds, h => by
    have q := okNs_lay n ds (by simpa [okN] using h)
    simp only [toP, PyData.canLay0, PyData.depth]
    exact ⟨q.1, by omega⟩
  | n + 1, .lst ds, h => by
    have q := okNs_lay n ds (by simpa [okN] using h)
    simp only [toP, PyData.canLay0, PyData.depth]
    exact ⟨q.1, by omega⟩
  | 0, .tup _, h => by simp [okN] at h
  | 0, .lst _, h => by simp [okN] at h
  | n, .wls _, h => by cases n <;> simp [okN] at h
  | n, .dct _, h => by cases n <;> simp [okN] at h
  | n, .ref _, h => by cases n <;> simp [okN] at h
theorem okNs_lay : ∀ (n : Nat) (ds : List D), okNs n ds = true → PyData.canLayAll0 (toPs ds) = true ∧ PyData.depthAll (toPs ds) ≤ n
  | _, [], _ => by simp [toPs, PyData.canLayAll0, PyData.depthAll]
  | n, d :: ds, h => by
    simp only [okNs, Bool.and_eq_true] at h
    have a := okN_lay n d h.1
    have b := okNs_lay n ds h.2
    simp only [toPs, PyData.canLayAll0, PyData.depthAll, Bool.and_eq_true]
    exact ⟨⟨a.1, b.1⟩, by omega⟩
end
def okD (d : D) : Bool := okN 60 d
theorem okD_shaped {d : D} (h : okD d = true) : SeqAt.shaped (toP d) = true := by
  have q := okN_lay 60 d h
  show ((toP d).canLay0 && decide ((toP d).depth ≤ 64)) = true
  rw [q.1, Bool.true_and]
  exact decide_eq_true (by omega)
mutual
theorem dp_of {w : Wd} : ∀ (n : Nat) (d : D) (v : V), okN n d = true → Rp w d v → Dp w.K w.H v (toP d)
  | _, .non, v, _, h => by unfold Rp at h; subst h; unfold toP; exact .non
  | _, .bl b, v, _, h => by unfold Rp at h; subst h; unfold toP; exact .bl b
  | _, .int b, v, _, h => by unfold Rp at h; subst h; unfold toP; exact .int b
  | _, .str b, v, _, h => by unfold Rp at h; subst h; unfold toP; exact .str b
  | n + 1, .tup ds, v, o, h => by
    unfold Rp at h
    obtain ⟨a, xs, rfl, h1, h2⟩ := h
    unfold toP
    exact .tup h1.sq (dps_of n ds xs (by simpa [okN] using o) h2)
  | n + 1, .lst ds, v, o, h => by
    unfold Rp at h
    obtain ⟨a, xs, rfl, h1, h2⟩ := h
    unfold toP
    exact .lst h1.sq (dps_of n ds xs (by simpa [okN] using o) h2)
  | 0, .tup _, _, h, _ => by simp [okN] at h
  | 0, .lst _, _, h, _ => by simp [okN] at h
  | n, .wls _, _, h, _ => by cases n <;> simp [okN] at h
  | n, .dct _, _, h, _ => by cases n <;> simp [okN] at h
  | n, .ref _, _, h, _ => by cases n <;> simp [okN] at h
theorem dps_of {w : Wd} : ∀ (n : Nat) (ds : List D) (vs : List V), okNs n ds = true → RpL w ds vs → DpAll w.K w.H vs (toPs ds)
  | _, [], vs, _, h => by rw [h.of_nil]; unfold toPs; exact .nil
  | n, d :: ds, vs, o, h => by
    simp only [okNs, Bool.and_eq_true] at o
    obtain ⟨x, xs, rfl, h1, h2⟩ := h.of_cons
    unfold toPs
    exact .cons (dp_of n d x o.1 h1) (dps_of n ds xs o.2 h2)
end
theorem dpt_of {w : Wd} {d : D} {v : V} (o : okD d = true) (h : Rt w d v) : Dp w.K w.H v (toP d) := by
  cases d with
  | lst ds =>
    obtain ⟨a, xs, rfl, h1, h2⟩ := h
    unfold toP
    exact .lst (.inl (.inl h1)) (dps_of 59 ds xs (by simpa [okD, okN] using o) h2)
  | dct ds => simp [okD, okN] at o
  | ref k => exact h.elim
  | tup ds => exact dp_of 60 _ _ o (by unfold Rp; exact h)
  | wls ds => simp [okD, okN] at o
  | non => exact dp_of 60 _ _ o (by unfold Rp; exact h)
  | bl b => exact dp_of 60 _ _ o (by unfold Rp; exact h)
  | int b => exact dp_of 60 _ _ o (by unfold Rp; exact h)
  | str b => exact dp_of 60 _ _ o (by unfold Rp; exact h)
mutual
theorem toP_inj : ∀ (n m : Nat) (d e : D), okN n d = true → okN m e = true → toP d = toP e → d = e
  | n, m, d, e, h1, h2, q => by
    cases d with
    | wls _ => cases n <;> simp [okN] at h1
    | dct _ => cases n <;> simp [okN] at h1
    | ref _ => cases n <;> simp [okN] at h1
    | tup ds =>
      cases e with
      | tup es =>
        cases n with
        | zero => simp [okN] at h1
        | succ n => cases m with
          | zero => simp [okN] at h2
          | succ m =>
            unfold toP at q
            rw [toPs_inj n m ds es (by simpa [okN] using h1) (by simpa [okN] using h2) (PyData.tuple.inj q)]
      | wls _ => cases m <;> simp [okN] at h2
      | dct _ => cases m <;> simp [okN] at h2
      | ref _ => cases m <;> simp [okN] at h2
      | _ => simp [toP] at q
    | lst ds =>
      cases e with
      | lst es =>
        cases n with
        | zero => simp [okN] at h1
        | succ n => cases m with
          | zero => simp [okN] at h2
          | succ m =>
            unfold toP at q
            rw [toPs_inj n m ds es (by simpa [okN] using h1) (by simpa [okN] using h2) (PyData.list.inj q)]
      | wls _ => cases m <;> simp [okN] at h2
      | dct _ => cases m <;> simp [okN] at h2
      | ref _ => cases m <;> simp [okN] at h2
      | _ => simp [toP] at q
    | _ =>
      cases e with
      | wls _ => cases m <;> simp [okN] at h2
      | dct _ => cases m <;> simp [okN] at h2
      | ref _ => cases m <;> simp [okN] at h2
      | _ => simp [toP] at q <;> simp [q]
theorem toPs_inj : ∀ (n m : Nat) (d e : List D), okNs n d = true → okNs m e = true → toPs d = toPs e → d = e
  | _, _, [], [], _, _, _ => rfl
  | _, _, [], _ :: _, _, _, q => by simp [toPs] at q
  | _, _, _ :: _, [], _, _, q => by simp [toPs] at q
  | n, m, d :: ds, e :: es, h1, h2, q => by
    simp only [okNs, Bool.and_eq_true] at h1 h2
    simp only [toPs, List.cons.injEq] at q
    rw [toP_inj n m d e h1.1 h2.1 q.1, toPs_inj n m ds es h1.2 h2.2 q.2]
end
/-- Python's == -/
def eqd (x y : D) : Bool := PyData.eqv (toP x) (toP y)
def eqD : Op2 := fun x y => if (okD x && okD y) = true then some (.bl (eqd x y)) else none
def neD : Op2 := fun x y => if (okD x && okD y) = true then some (.bl (!eqd x y)) else none
theorem opB_eq : OpB X eqD (rEqD X.K) := by
  intro Z σ S x y u v d Q R t1 t2 e
  unfold eqD at e
  split at e
  · rename_i hh
    cases e
    simp only [Bool.and_eq_true] at hh
    exact ⟨_, rfl, fun q => ⟨_, _, dpt_of hh.1 t1, dpt_of hh.2 t2, okD_shaped hh.1, okD_shaped hh.2, q⟩⟩
  · cases e
theorem opB_ne : OpB X neD (rNeD X.K) := by
  intro Z σ S x y u v d Q R t1 t2 e
  unfold neD at e
  split at e
  · rename_i hh
    cases e
    simp only [Bool.and_eq_true] at hh
    exact ⟨_, rfl, fun q => ⟨_, _, dpt_of hh.1 t1, dpt_of hh.2 t2, okD_shaped hh.1, okD_shaped hh.2, q⟩⟩
  · cases e
end
end QB

/-! The pure layer, part 6: tests, truth values, membership, subscripts, slices. -/
namespace QB
open PySem PySem.Spec PyProof.Rows L2

def tT (K : PySem.W.Frag) (mg : Str → Option Value) (W : WX) (m : M Bool) : TT := fun σ H Q =>
  ∃ Z S, S.H = H ∧ Rel K Z σ S ∧ Wp K Z σ S (m S.env S.st) (fun b S' => Q b S'.H) (Qx K mg W Z σ)
def PTv (X : Cx) (W : WX) (e : Expr) (m : M Bool) : Prop := PT X e (tT X.K X.mg W m)
def PWv (X : Cx) (W : WX) (e : Expr) (m : M Bool) : Prop := PW X e (tT X.K X.mg W m)
theorem PW.weak {X : Cx} {e : Expr} {t t' : TT} (h : PW X e t) (k : ∀ σ H Q, t' σ H Q → t σ H Q) : PW X e t' := ⟨fun wh pins s σ H Q I q => h.run wh pins s σ H Q I (k σ H Q q)⟩
def boolD : D → M Bool
  | .bl b => rt b
  | _ => fail
@[simp] theorem boolD_bl {b : Bool} : boolD (.bl b) = rt b := rfl
def boolM (m : M D) : M Bool := bnd m boolD
def notM (m : M Bool) : M Bool := bnd m fun b => rt (!b)
def andT (a b : M Bool) : M Bool := bnd a fun x => match x with
  | true => b
  | false => rt false
def orT (a b : M Bool) : M Bool := bnd a fun x => match x with
  | true => rt true
  | false => b
def andV (a : M Bool) (b : M D) : M D := bnd a fun x => match x with
  | true => b
  | false => rt (.bl false)
def orV (a : M Bool) (b : M D) : M D := bnd a fun x => match x with
  | true => rt (.bl true)
  | false => b
def ifM {α : Type} (c : M Bool) (a b : M α) : M α := bnd c fun x => match x with
  | true => a
  | false => b
def notV (m : M Bool) : M D := bnd m fun b => rt (.bl (!b))
section
variable {X : Cx} {W : WX} {a b c e : Expr} {m ma mb : M D} {mt mu : M Bool} {pos : Pos}
theorem bool_go {K : PySem.W.Frag} {mg : Str → Option Value} {σ : L2.St} {H : Hp} {Q : Bool → Hp → Prop} (q : tT K mg W (boolM m) σ H Q) : tB (tG K mg W (rE K) m) σ H Q := by
  obtain ⟨Z, S, rfl, R, hw⟩ := q
  refine ⟨Z, S, rfl, R, Wp.bnd hw fun d S1 R1 T1 h1 v r1 => ?_⟩
  cases d with
  | bl b => unfold rE Rp at r1; exact ⟨b, r1, h1.here R1⟩
  | _ => exact h1.elim
theorem tv_val (h : PEv X W e m) (he : ∀ whole, isTrue e X.env whole = (do let v ← whole; standAt e.pos; holding [v] (truthy v)) := by intro _; rfl) : PTv X W e (boolM m) :=
  PT.weak (pt_val h he) fun _ _ _ q => bool_go q
theorem tv_cmp {op : CmpOp} {r : R2} {f : Op2} {ma mb : M Bv} (ho : OpR X (compareOp op) r) (hf : OpB X f r) (ha : PBv X W a ma) (hb : PBv X W b mb) (hm : behindInMarks op b = false) :
    PTv X W (.Compare a [op] [b] pos) (boolM (op2M f ma mb)) := by
  refine PT.weak (pt_cmpR ho ha hb hm) fun σ H Q q => ?_
  have q1 := bool_go q
  obtain ⟨Z, S, rfl, R, hw⟩ := q1
  exact bin_go hf.s ⟨Z, S, rfl, R, hw⟩
theorem tv_chain {op op' : CmpOp} {r r' : R2} {f f' : Op2} {ma mb mc : M Bv} (ho : OpR X (compareOp op) r) (ho' : OpR X (compareOp op') r') (hf : OpB X f r) (hf' : OpB X f' r') (ha : PBv X W a ma) (hb : PBv X W b mb) (hc : PBv X W c mc)
    (hm : lastMarks [op, op'] [b, c] = false := by with_unfolding_all rfl) : PTv X W (.Compare a [op, op'] [b, c] pos) (boolM (chainM f f' ma mb mc)) := by
  refine PT.weak (pt_chain ho ho' ha hb hc hm) fun σ H Q q => ?_
  obtain ⟨Z, S, rfl, R, hw⟩ := bool_go q
  exact chain_go hf hf'.s ⟨Z, S, rfl, R, hw⟩
theorem tv_not (h : PTv X W e mt) : PTv X W (.UnaryOp .Not e pos) (notM mt) := by
  refine PT.weak (pt_not h) fun σ H Q q => ?_
  obtain ⟨Z, S, rfl, R, hw⟩ := q
  exact ⟨Z, S, rfl, R, Wp.bnd hw fun b S1 R1 T1 h1 => h1.here R1⟩
theorem wv_and1 (h : PTv X W a mt) : PWv X W (.BoolOp .And [a] pos) mt := pw_and1 h
theorem wv_or1 (h : PTv X W a mt) : PWv X W (.BoolOp .Or [a] pos) mt := pw_or1 h
theorem wv_and {rest : List Expr} (h : PTv X W a mt) (h2 : PWv X W (.BoolOp .And (b :: rest) pos) mu) : PWv X W (.BoolOp .And (a :: b :: rest) pos) (andT mt mu) := by
  refine PW.weak (pw_and h h2) fun σ H Q q => ?_
  obtain ⟨Z, S, rfl, R, hw⟩ := q
  refine ⟨Z, S, rfl, R, Wp.bnd hw fun b S1 R1 T1 h1 => ?_⟩
  cases b with
  | true => exact iteT ⟨Z, S1, rfl, R1, h1⟩
  | false => exact iteF (h1.here R1)
theorem wv_or {rest : List Expr} (h : PTv X W a mt) (h2 : PWv X W (.BoolOp .Or (b :: rest) pos) mu) : PWv X W (.BoolOp .Or (a :: b :: rest) pos) (orT mt mu) := by
  refine PW.weak (pw_or h h2) fun σ H Q q => ?_
  obtain ⟨Z, S, rfl, R, hw⟩ := q
  refine ⟨Z, S, rfl, R, Wp.bnd hw fun b S1 R1 T1 h1 => ?_⟩
  cases b with
  | true => exact iteT (h1.here R1)
  | false => exact iteF ⟨Z, S1, rfl, R1, h1⟩
theorem PWv.t (h : PWv X W e mt) : PTv X W e mt := PW.pt h
/-! the same as values: the parts are told by values that are True or False -/
theorem ev_one {op} (h : PEv X W a m) : PEv X W (.BoolOp op [a] pos) m := pe_one h
theorem val_go {K : PySem.W.Frag} {β : Type} {f : Bool → M β} {Q0 : β → S8 → Prop} {Z : Addr → Prop} {σ : L2.St} {S : S8} {Qx : Exn → S8 → Prop} {P : V → Hp → Prop} (R : Rel K Z σ S) (hw : Wp K Z σ S (bnd (boolM m) f S.env S.st) Q0 Qx)
    (k : ∀ b S1, Rel K Z σ S1 → Tr S S1 → Wp K Z σ S1 (f b S1.env S1.st) Q0 Qx → P (.bl b) S1.H) : Wp K Z σ S (m S.env S.st) (fun d S' => ∀ v, rE K Z σ S S' d v → P v S'.H) Qx := by
  rw [bnd_app] at hw
  have e : boolM m S.env S.st = (m S.env S.st).andThen boolD := rfl
  rw [e] at hw
  cases q : m S.env S.st with
  | bad => rw [q] at hw; exact hw
  | exc x e' s' => rw [q] at hw; exact hw
  | ok d e' s' =>
    rw [q] at hw
    cases d with
    | bl b =>
      intro S1 h1 h2 R1 T1 v r1
      unfold rE Rp at r1
      subst r1
      refine k b S1 R1 T1 ?_
      have hw' : Wp K Z σ S (f b e' s') Q0 Qx := hw
      rw [h1, h2]
      exact hw'.from T1
    | _ => exact hw.elim
theorem ev_and {rest : List Expr} (ha : PEv X W a ma) (hb : PEv X W (.BoolOp .And (b :: rest) pos) mb) : PEv X W (.BoolOp .And (a :: b :: rest) pos) (andV (boolM ma) mb) := by
  refine PE.weak (pe_and ha hb) fun σ H Q q => ?_
  obtain ⟨Z, S, rfl, R, hw⟩ := q
  refine ⟨Z, S, rfl, R, val_go (P := fun x H1 => ∃ c, x = V.bl c ∧ if c = true then tG X.K X.mg W (rE X.K) mb σ H1 Q else Q (V.bl false) H1) R hw fun b S1 R1 T1 h1 => ⟨b, rfl, ?_⟩⟩
  cases b with
  | true => exact iteT ⟨Z, S1, rfl, R1, h1⟩
  | false => exact iteF (h1.here R1 _ rp_bl)
theorem ev_or {rest : List Expr} (ha : PEv X W a ma) (hb : PEv X W (.BoolOp .Or (b :: rest) pos) mb) : PEv X W (.BoolOp .Or (a :: b :: rest) pos) (orV (boolM ma) mb) := by
  refine PE.weak (pe_or ha hb) fun σ H Q q => ?_
  obtain ⟨Z, S, rfl, R, hw⟩ := q
  refine ⟨Z, S, rfl, R, val_go (P := fun x H1 => ∃ c, x = V.bl c ∧ if c = true then Q (V.bl true) H1 else tG X.K X.mg W (rE X.K) mb σ H1 Q) R hw fun b S1 R1 T1 h1 => ⟨b, rfl, ?_⟩⟩
  cases b with
  | true => exact iteT (h1.here R1 _ rp_bl)
  | false => exact iteF ⟨Z, S1, rfl, R1, h1⟩
theorem ev_not (ha : PEv X W a ma) : PEv X W (.UnaryOp .Not a pos) (notV (boolM ma)) := by
  refine PE.weak (pe_not ha) fun σ H Q q => ?_
  obtain ⟨Z, S, rfl, R, hw⟩ := q
  exact ⟨Z, S, rfl, R, val_go (P := fun x H1 => ∃ c, x = V.bl c ∧ Q (V.bl !c) H1) R hw fun b S1 R1 T1 h1 => ⟨b, rfl, h1.here R1 _ rp_bl⟩⟩
theorem gv_if {α : Type} {Rk : RK α} {c : Expr} {mc : M Bool} {ma mb : M α} (hr : ∀ {Z σ S S0 S1 a v}, Tr S S0 → Rk Z σ S0 S1 a v → Rk Z σ S S1 a v) (hc : PTv X W c mc) (ha : PE X a (tG X.K X.mg W Rk ma)) (hb : PE X b (tG X.K X.mg W Rk mb)) : PE X (.IfExp c a b pos) (tG X.K X.mg W Rk (ifM mc ma mb)) := by
  refine PE.weak (pe_ifExp hc ha hb) fun σ H Q q => ?_
  obtain ⟨Z, S, rfl, R, hw⟩ := q
  refine ⟨Z, S, rfl, R, Wp.bnd hw fun d S1 R1 T1 h1 => ?_⟩
  cases d with
  | true => exact iteT ⟨Z, S1, rfl, R1, h1.imp fun a S' _ _ k v r => k v (hr T1 r)⟩
  | false => exact iteF ⟨Z, S1, rfl, R1, h1.imp fun a S' _ _ k v r => k v (hr T1 r)⟩
theorem ev_if {c : Expr} {mc : M Bool} (hc : PTv X W c mc) (ha : PEv X W a ma) (hb : PEv X W b mb) : PEv X W (.IfExp c a b pos) (ifM mc ma mb) := gv_if (fun _ h => h) hc ha hb
theorem bv_if {c : Expr} {mc : M Bool} {ma mb : M Bv} (hc : PTv X W c mc) (ha : PBv X W a ma) (hb : PBv X W b mb) : PBv X W (.IfExp c a b pos) (ifM mc ma mb) := gv_if (fun {Z σ S S0 S1 a v} _ h => by cases a <;> exact h) hc ha hb
/-! ### one operand -/
def negD : D → Option D
  | .int i => some (.int (-i))
  | _ => none
def invD : D → Option D
  | .int i => some (.int (Builtin.bitNot i))
  | _ => none
theorem ev_un {op : UnaryOp} {g : Int → Int} {f : D → Option D} {ma : M Bv} (ho : UnR X (unaryOp op) (rU fun i => .int (g i))) (hf : ∀ d z, f d = some z → ∃ i, d = .int i ∧ z = .int (g i)) (ha : PBv X W a ma) : PEv X W (.UnaryOp op a pos) (op1M f ma) := by
  refine PE.weak (pe_un ho ha) fun σ H Q q => ?_
  obtain ⟨Z, S, rfl, R, hw⟩ := q
  refine ⟨Z, S, rfl, R, Wp.bnd hw fun x S1 R1 T1 h1 u r1 => ?_⟩
  obtain ⟨dx, t1, h3⟩ := R1.rd_ok (S0 := S) r1 h1
  obtain ⟨d, e, h5⟩ := Wp.opt h3
  obtain ⟨i, rfl, rfl⟩ := hf _ _ e
  exact ⟨i, t1, (Wp.fin R1 h5).now rp_int⟩
theorem ev_neg {ma : M Bv} (ha : PBv X W a ma) : PEv X W (.UnaryOp .USub a pos) (op1M negD ma) := ev_un un_neg (fun d z e => by cases d with
  | int i => cases e; exact ⟨i, rfl, rfl⟩
  | _ => cases e) ha
theorem ev_inv {ma : M Bv} (ha : PBv X W a ma) : PEv X W (.UnaryOp .Invert a pos) (op1M invD ma) := ev_un un_inv (fun d z e => by cases d with
  | int i => cases e; exact ⟨i, rfl, rfl⟩
  | _ => cases e) ha
end
end QB

/-! The pure layer, part 7: membership, identity, subscripts, slices, calls of built-ins. -/
namespace QB
open PySem PySem.Spec PyProof.Rows L2
section
variable {X : Cx}
/-! ### dicts -/
def keyOf : D → Option Key
  | .int i => some (.inl i)
  | .str s => some (.inr s)
  | _ => none
def dOf : Key → D
  | .inl i => .int i
  | .inr s => .str s
def valD (kvs : List (Key × D)) (k : Key) : Option D := (kvs.find? fun kv => decide (kv.1 = k)).map (·.2)
def putD (kvs : List (Key × D)) (k : Key) (v : D) : List (Key × D) :=
  if (kvs.any fun kv => decide (kv.1 = k)) = true then kvs.map (fun kv => if kv.1 = k then (kv.1, v) else kv) else kvs ++ [(k, v)]
section
variable {w : Wd}
theorem keyOf_v {d : D} {k : Key} {v : V} (e : keyOf d = some k) (r : Rt w d v) : v = kV k := by
  cases d with
  | int i => cases e; exact r
  | str s => cases e; exact r
  | _ => cases e
theorem RpK.of_cons {k : Key} {d : D} {ds : List (Key × D)} {vs : List (Key × V)} (h : RpK w ((k, d) :: ds) vs) : ∃ x xs, vs = (k, x) :: xs ∧ Rp w d x ∧ RpK w ds xs := by
  unfold RpK at h; exact h
theorem RpK.of_nil {vs : List (Key × V)} (h : RpK w [] vs) : vs = [] := by unfold RpK at h; exact h
theorem RpK.cons {k : Key} {d : D} {ds : List (Key × D)} {v : V} {vs : List (Key × V)} (h : Rp w d v) (h2 : RpK w ds vs) : RpK w ((k, d) :: ds) ((k, v) :: vs) := by
  unfold RpK; exact ⟨v, vs, rfl, h, h2⟩
theorem RpK.nil : RpK w [] [] := by unfold RpK; rfl
theorem RpK.length : ∀ {ds : List (Key × D)} {vs : List (Key × V)}, RpK w ds vs → vs.length = ds.length
  | [], _, h => by rw [h.of_nil]; rfl
  | (k, d) :: ds, _, h => by
    obtain ⟨x, xs, rfl, _, h2⟩ := h.of_cons
    simp [RpK.length h2]
theorem RpK.val : ∀ {ds : List (Key × D)} {vs : List (Key × V)} (k : Key), RpK w ds vs → (valD ds k = none ∧ valV vs k = none) ∨ ∃ d v, valD ds k = some d ∧ valV vs k = some v ∧ Rp w d v
  | [], _, k, h => by rw [h.of_nil]; exact .inl ⟨rfl, rfl⟩
  | (j, d) :: ds, _, k, h => by
    obtain ⟨x, xs, rfl, h1, h2⟩ := h.of_cons
    by_cases e : j = k
    · refine .inr ⟨d, x, ?_, valV_pos (p := (j, x)) e, h1⟩
      simp [valD, List.find?_cons, e]
    · have e1 : valD ((j, d) :: ds) k = valD ds k := by simp [valD, List.find?_cons, e]
      rw [e1, valV_neg (p := (j, x)) e]
      exact RpK.val k h2
theorem RpK.any : ∀ {ds : List (Key × D)} {vs : List (Key × V)} (k : Key), RpK w ds vs → (vs.any fun kv => decide (kv.1 = k)) = (ds.any fun kv => decide (kv.1 = k))
  | [], _, k, h => by rw [h.of_nil]; rfl
  | (j, d) :: ds, _, k, h => by
    obtain ⟨x, xs, rfl, h1, h2⟩ := h.of_cons
    rw [List.any_cons, List.any_cons, RpK.any k h2]
theorem RpK.append : ∀ {ds es : List (Key × D)} {vs ws : List (Key × V)}, RpK w ds vs → RpK w es ws → RpK w (ds ++ es) (vs ++ ws)
  | [], es, vs, ws, h, h2 => by rw [h.of_nil]; exact h2
  | (j, d) :: ds, es, vs, ws, h, h2 => by
    obtain ⟨x, xs, rfl, h3, h4⟩ := h.of_cons
    exact .cons h3 (RpK.append h4 h2)
theorem RpK.mapSet {k : Key} {d : D} {v : V} (r : Rp w d v) : ∀ {ds : List (Key × D)} {vs : List (Key × V)}, RpK w ds vs → RpK w (ds.map fun kv => if kv.1 = k then (kv.1, d) else kv) (vs.map fun kv => if kv.1 = k then (kv.1, v) else kv)
  | [], _, h => by rw [h.of_nil]; exact .nil
  | (j, d') :: ds, _, h => by
    obtain ⟨x, xs, rfl, h1, h2⟩ := h.of_cons
    rw [List.map_cons, List.map_cons]
    by_cases e : j = k
    · simp only [e, if_true]
      exact .cons r (RpK.mapSet r h2)
    · simp only [e, if_false]
      exact .cons h1 (RpK.mapSet r h2)
theorem RpK.put {ds : List (Key × D)} {vs : List (Key × V)} {k : Key} {d : D} {v : V} (h : RpK w ds vs) (r : Rp w d v) : RpK w (putD ds k d) (putK vs k v) := by
  unfold putD putK
  rw [h.any k]
  split
  · exact h.mapSet r
  · exact h.append (.cons r .nil)
end
/-! ### in -/
def inD (neg : Bool) : Op2 := fun x c => match c with
  | .lst ds => if (okD x && okD c) = true then some (.bl (neg != ds.any fun z => eqd z x)) else none
  | .wls ds => if (okD x && okD c) = true then some (.bl (neg != ds.any fun z => eqd z x)) else none
  | .tup ds => if (okD x && okD c) = true then some (.bl (neg != ds.any fun z => eqd z x)) else none
  | .dct kvs => match keyOf x with
    | some k => some (.bl (neg != (valD kvs k).isSome))
    | none => none
  | .str z => match x with
    | .str y => some (.bl (neg != !(Builtin.Str.occurrences z y 0 z.length 1).isEmpty))
    | _ => none
  | _ => none
def rInSeq (K : PySem.W.Frag) (neg : Bool) : R2 := fun x y H Q => ∃ d c ds, Dp K H x d ∧ Dp K H y c ∧ (c = .list ds ∨ c = .tuple ds) ∧ SeqAt.shaped d = true ∧ SeqAt.shaped c = true ∧ Q (.bl (neg != ds.any fun z => PyData.eqv z d)) H
def rInDct (neg : Bool) : R2 := fun x y H Q => ∃ a o, y = .ref a ∧ DGet H a x o ∧ Q (.bl (neg != o.isSome)) H
def rInStr (neg : Bool) : R2 := fun x y H Q => ∃ i j, x = .str i ∧ y = .str j ∧ Q (.bl (neg != !(Builtin.Str.occurrences j i 0 j.length 1).isEmpty)) H
def rInA (K : PySem.W.Frag) (neg : Bool) : R2 := fun x y H Q => (rInSeq K neg x y H Q ∨ rInDct neg x y H Q) ∨ rInStr neg x y H Q
theorem op_inSeq (hu : X.A.units + 65 < cLine) : OpR X (compareOp .In) (rInSeq X.K false) := by
  intro pins s σ H x y v u Q I rx ry h
  obtain ⟨d, c, ds, hd, he, hc, sd, se, q⟩ := h
  obtain ⟨as, r1⟩ := Dp.reads I d x v hd rx
  obtain ⟨bs, r2⟩ := Dp.reads I c y u he ry
  have q' : Q (.bl (ds.any fun z => PyData.eqv z d)) H := by rw [show (ds.any fun z => PyData.eqv z d) = (false != ds.any fun z => PyData.eqv z d) from (Bool.false_bne _).symm]; exact q
  rcases hc with e | e
  · subst e
    exact SeqAt.in_list_reads r2 r1 (SeqAt.canLay_of_shaped se) (SeqAt.canLay_of_shaped sd) (room_in_shaped sd hu) ⟨.bl _, H, I, rfl, q'⟩
  · subst e
    exact SeqAt.in_tuple_reads r2 r1 (SeqAt.canLay_of_shaped se) (SeqAt.canLay_of_shaped sd) (room_in_shaped sd hu) ⟨.bl _, H, I, rfl, q'⟩
theorem op_notInSeq (hu : X.A.units + 65 < cLine) : OpR X (compareOp .NotIn) (rInSeq X.K true) := by
  intro pins s σ H x y v u Q I rx ry h
  obtain ⟨d, c, ds, hd, he, hc, sd, se, q⟩ := h
  obtain ⟨as, r1⟩ := Dp.reads I d x v hd rx
  obtain ⟨bs, r2⟩ := Dp.reads I c y u he ry
  have q' : Q (.bl (!ds.any fun z => PyData.eqv z d)) H := by rw [show (!ds.any fun z => PyData.eqv z d) = (true != ds.any fun z => PyData.eqv z d) from (Bool.true_bne _).symm]; exact q
  rcases hc with e | e
  · subst e
    exact SeqAt.notIn_list_reads r2 r1 (SeqAt.canLay_of_shaped se) (SeqAt.canLay_of_shaped sd) (room_in_shaped sd hu) ⟨.bl _, H, I, rfl, q'⟩
  · subst e
    exact SeqAt.notIn_tuple_reads r2 r1 (SeqAt.canLay_of_shaped se) (SeqAt.canLay_of_shaped sd) (room_in_shaped sd hu) ⟨.bl _, H, I, rfl, q'⟩
theorem op_inDct (hu : X.A.units + 1 < cLine) : OpR X (compareOp .In) (rInDct false) := by
  intro pins s σ H x y v u Q I rx ry h
  obtain ⟨a, o, rfl, g, q⟩ := h
  obtain rfl : u = Value.ref a := ry
  rw [Bool.false_bne] at q
  exact d_in hu I g rx fun s3 I3 => ⟨.bl o.isSome, H, I3, rfl, q⟩
theorem op_notInDct (hu : X.A.units + 1 < cLine) : OpR X (compareOp .NotIn) (rInDct true) := by
  intro pins s σ H x y v u Q I rx ry h
  obtain ⟨a, o, rfl, g, q⟩ := h
  obtain rfl : u = Value.ref a := ry
  rw [Bool.true_bne] at q
  exact d_notIn hu I g rx fun s3 I3 => ⟨.bl (!o.isSome), H, I3, rfl, q⟩
theorem op_inStr : OpR X (compareOp .In) (rInStr false) := by
  intro pins s σ H x y v u Q I rx ry h
  obtain ⟨i, j, e1, e2, q⟩ := h
  rw [Bool.false_bne] at q
  exact op_in_str pins s σ H x y v u Q I rx ry ⟨i, j, e1, e2, q⟩
theorem op_notInStr : OpR X (compareOp .NotIn) (rInStr true) := by
  intro pins s σ H x y v u Q I rx ry h
  obtain ⟨i, j, e1, e2, q⟩ := h
  rw [Bool.true_bne] at q
  exact op_notin_str pins s σ H x y v u Q I rx ry ⟨i, j, e1, e2, q⟩
theorem op_inA (hu : X.A.units + 65 < cLine) : OpR X (compareOp .In) (rInA X.K false) := ((op_inSeq hu).or (op_inDct (by omega))).or op_inStr
theorem op_notInA (hu : X.A.units + 65 < cLine) : OpR X (compareOp .NotIn) (rInA X.K true) := ((op_notInSeq hu).or (op_notInDct (by omega))).or op_notInStr
theorem toPs_any (x : D) : ∀ ds : List D, (toPs ds).any (fun z => PyData.eqv z (toP x)) = ds.any fun z => eqd z x
  | [] => by unfold toPs; rfl
  | d :: ds => by unfold toPs; rw [List.any_cons, List.any_cons, toPs_any x ds]; rfl
theorem opB_in {neg : Bool} : OpB X (inD neg) (rInA X.K neg) := by
  intro Z σ S x y u v d Q R t1 t2 e
  unfold inD at e
  split at e
  · rename_i ds
    split at e
    · rename_i hh
      cases e
      simp only [Bool.and_eq_true] at hh
      refine ⟨_, rfl, fun q => .inl (.inl ⟨toP x, toP (.lst ds), toPs ds, dpt_of hh.1 t1, dpt_of hh.2 t2, .inl (by unfold toP; rfl), okD_shaped hh.1, okD_shaped hh.2, ?_⟩)⟩
      rw [toPs_any]; exact q
    · cases e
  · rename_i ds
    split at e
    · rename_i hh
      cases e
      simp only [Bool.and_eq_true] at hh
      refine ⟨_, rfl, fun q => .inl (.inl ⟨toP x, toP (.wls ds), toPs ds, dpt_of hh.1 t1, dpt_of hh.2 t2, .inl (by unfold toP; rfl), okD_shaped hh.1, okD_shaped hh.2, ?_⟩)⟩
      rw [toPs_any]; exact q
    · cases e
  · rename_i ds
    split at e
    · rename_i hh
      cases e
      simp only [Bool.and_eq_true] at hh
      refine ⟨_, rfl, fun q => .inl (.inl ⟨toP x, toP (.tup ds), toPs ds, dpt_of hh.1 t1, dpt_of hh.2 t2, .inr (by unfold toP; rfl), okD_shaped hh.1, okD_shaped hh.2, ?_⟩)⟩
      rw [toPs_any]; exact q
    · cases e
  · rename_i kvs
    split at e
    · rename_i k hk
      cases e
      obtain ⟨a, es, rfl, h1, r1⟩ := t2
      have ev := keyOf_v hk t1
      refine ⟨_, rfl, fun q => .inl (.inr ⟨a, valV es k, rfl, .inl ⟨es, k, h1, ev, rfl⟩, ?_⟩)⟩
      rcases r1.val k with ⟨e1, e2⟩ | ⟨d, v, e1, e2, _⟩
      · rw [e2]; rw [e1] at q; exact q
      · rw [e2]; rw [e1] at q; exact q
    · cases e
  · rename_i z
    split at e
    · rename_i y
      cases e
      exact ⟨_, rfl, fun q => .inr ⟨y, z, t1, t2, q⟩⟩
    · cases e
  · cases e
/-! ### is -/
def isNon : D → Bool
  | .non => true
  | _ => false
def isD (neg : Bool) : Op2 := fun x y => match y with
  | .non => some (.bl (neg != isNon x))
  | .bl b => match x with
    | .bl a => some (.bl (neg != decide (a = b)))
    | _ => none
  | _ => none
def rIsA (neg : Bool) : R2 := fun x y H Q => (y = .non ∧ Q (.bl (neg != decide (x = .non))) H) ∨ ∃ a b, x = .bl a ∧ y = .bl b ∧ Q (.bl (neg != decide (a = b))) H
theorem op_isA : OpR X (compareOp .Is) (rIsA false) := by
  intro pins s σ H x y v u Q I rx ry h
  rcases h with ⟨e, q⟩ | ⟨a, b, e1, e2, q⟩
  · rw [Bool.false_bne] at q; exact op_isN pins s σ H x y v u Q I rx ry ⟨e, q⟩
  · rw [Bool.false_bne] at q; exact op_is_bl pins s σ H x y v u Q I rx ry ⟨a, b, e1, e2, q⟩
theorem op_isNotA : OpR X (compareOp .IsNot) (rIsA true) := by
  intro pins s σ H x y v u Q I rx ry h
  rcases h with ⟨e, q⟩ | ⟨a, b, e1, e2, q⟩
  · rw [Bool.true_bne] at q; exact op_notN pins s σ H x y v u Q I rx ry ⟨e, q⟩
  · rw [Bool.true_bne] at q; exact op_isnot_bl pins s σ H x y v u Q I rx ry ⟨a, b, e1, e2, q⟩
theorem isNon_v {w : Wd} {d : D} {v : V} (r : Rt w d v) : decide (v = .non) = isNon d := by
  cases d with
  | non => cases r; rfl
  | bl b => cases r; rfl
  | int b => cases r; rfl
  | str b => cases r; rfl
  | ref b => exact r.elim
  | tup b => obtain ⟨a, xs, rfl, _⟩ := r; rfl
  | lst b => obtain ⟨a, xs, rfl, _⟩ := r; rfl
  | wls b => obtain ⟨a, xs, rfl, _⟩ := r; rfl
  | dct b => obtain ⟨a, xs, rfl, _⟩ := r; rfl
theorem opB_is {neg : Bool} : OpB X (isD neg) (rIsA neg) := by
  intro Z σ S x y u v d Q R t1 t2 e
  unfold isD at e
  split at e
  · cases e
    refine ⟨_, rfl, fun q => .inl ⟨t2, ?_⟩⟩
    rw [isNon_v t1]; exact q
  · split at e
    · cases e
      exact ⟨_, rfl, fun q => .inr ⟨_, _, t1, t2, q⟩⟩
    · cases e
  · cases e
/-! ### subscripts -/
def ixD : Op2 := fun x y => match x with
  | .lst ds => match y with
    | .int i => atI ds i
    | _ => none
  | .wls ds => match y with
    | .int i => atI ds i
    | _ => none
  | .tup ds => match y with
    | .int i => atI ds i
    | _ => none
  | .dct kvs => match keyOf y with
    | some k => valD kvs k
    | none => none
  | .str z => match y with
    | .int i => if szOk z.length = true then (atI z.cps.toList i).map fun c => .str ⟨#[c]⟩ else none
    | _ => none
  | _ => none
def rIxDct : R2 := fun x y H Q => ∃ a v, x = .ref a ∧ DGet H a y (some v) ∧ Q v H
theorem ix_dct (hu : X.A.units + 1 < cLine) : IxR X rIxDct := by
  intro value slice pins s σ H x y v u Q I rx ry h hs
  obtain ⟨a, r, rfl, g, q⟩ := h
  obtain rfl : v = Value.ref a := rx
  exact tail_any (dict_typeIs I g) PySem.F.slot_dict_getitem.lookup (d_getItem hu I g ry fun w' s3 I3 rw' => ⟨r, H, I3, rw', q⟩) hs
def rIxA (K : PySem.W.Frag) : R2 := fun x y H Q => rIx K x y H Q ∨ rIxDct x y H Q
theorem ix_A (hu : X.A.units + 1 < cLine) : IxR X (rIxA X.K) := ix_seq.or (ix_dct hu)
theorem atI_rp {w : Wd} {ds : List D} {vs : List V} {i : Int} {d : D} (r : RpL w ds vs) (e : atI ds i = some d) : ∃ v, atI vs i = some v ∧ Rp w d v := by
  unfold atI at *
  rw [r.length]
  cases q : ixN ds.length i with
  | none => rw [q] at e; cases e
  | some j =>
    rw [q] at e
    exact r.get (i := j) e
theorem opS_ix : OpS X ixD (rIxA X.K) := by
  intro Z σ S x y u v d Q R t1 t2 e k
  unfold ixD at e
  split at e
  · split at e
    · rename_i i
      obtain ⟨a, xs, rfl, h1, r1⟩ := t1
      obtain ⟨z, e1, r2⟩ := atI_rp r1 e
      exact .inl (.inl ⟨a, xs, i, z, rfl, t2, .inl (.inl h1), e1, k.now r2⟩)
    · cases e
  · split at e
    · rename_i i
      obtain ⟨a, xs, rfl, h1, r1⟩ := t1
      obtain ⟨z, e1, r2⟩ := atI_rp r1 e
      exact .inl (.inl ⟨a, xs, i, z, rfl, t2, h1.sq, e1, k.now r2⟩)
    · cases e
  · split at e
    · rename_i i
      obtain ⟨a, xs, rfl, h1, r1⟩ := t1
      obtain ⟨z, e1, r2⟩ := atI_rp r1 e
      exact .inl (.inr (.inl ⟨a, xs, i, z, rfl, t2, h1.sq, e1, k.now r2⟩))
    · cases e
  · split at e
    · rename_i kk hk
      obtain ⟨a, es, rfl, h1, r1⟩ := t1
      have ev := keyOf_v hk t2
      rcases r1.val kk with ⟨e1, e2⟩ | ⟨d', v', e1, e2, r2⟩
      · rw [e1] at e; cases e
      · rw [e1] at e; cases e
        exact .inr ⟨a, v', rfl, .inl ⟨es, kk, h1, ev, e2.symm⟩, k.now r2⟩
    · cases e
  · split at e
    · rename_i z _ i
      split at e
      · rename_i hz
        cases q : atI z.cps.toList i with
        | none => rw [q] at e; cases e
        | some c =>
          rw [q] at e; cases e
          exact .inl (.inr (.inr ⟨z, i, c, t1, t2, szOk_le hz, q, k.now rp_str⟩))
      · cases e
    · cases e
  · cases e
theorem ev_ix {W : WX} {a b : Expr} {ma mb : M Bv} {pos : Pos} (hu : X.A.units + 65 < cLine) (ha : PBv X W a ma) (hb : PBv X W b mb) (hs : PlainIx b := by exact fun _ _ => rfl) : PEv X W (.Subscript a b pos) (op2M ixD ma mb) :=
  PE.weak (pe_ix (ix_A (by omega)) ha hb hs) fun _ _ _ q => bin_go opS_ix q
end
end QB

/-! The pure layer, part 8: slices, calls of built-ins. -/
namespace QB
open PySem PySem.Spec PyProof.Rows L2
/-! ### slices -/
def tGO (K : PySem.W.Frag) (mg : Str → Option Value) (W : WX) (m : M (Option Int)) : TO := fun σ H Q =>
  ∃ Z S, S.H = H ∧ Rel K Z σ S ∧ Wp K Z σ S (m S.env S.st) (fun o S' => Q o S'.H) (Qx K mg W Z σ)
def POv (X : Cx) (W : WX) (e : Option Expr) (m : M (Option Int)) : Prop := PO X e (tGO X.K X.mg W m)
theorem PO.weak {X : Cx} {e : Option Expr} {t t' : TO} (h : PO X e t) (k : ∀ σ H Q, t' σ H Q → t σ H Q) : PO X e t' := ⟨fun pins s σ H Q I q => h.run pins s σ H Q I (k σ H Q q)⟩
def intD1 : D → M (Option Int)
  | .int i => rt (some i)
  | _ => fail
@[simp] theorem intD1_int {i : Int} : intD1 (.int i) = rt (some i) := rfl
def partM (m : M D) : M (Option Int) := bnd m intD1
def cutL (ds : List D) (lo hi : Option Int) : List D := (ds.drop (HT.sIx ds.length 0 lo)).take (HT.sIx ds.length ds.length hi - HT.sIx ds.length 0 lo)
theorem RpL.cut {w : Wd} {ds : List D} {vs : List V} (r : RpL w ds vs) (lo hi : Option Int) : RpL w (cutL ds lo hi) (cutV vs lo hi) := by
  unfold cutL cutV
  rw [r.length]
  exact (r.drop _).take _
def slD (x : D) (lo hi : Option Int) : Option D := match x with
  | .lst ds => some (.lst (cutL ds lo hi))
  | .wls ds => some (.lst (cutL ds lo hi))
  | .tup ds => some (.tup (cutL ds lo hi))
  | .str z => if szOk z.length = true then some (.str (cutS z lo hi)) else none
  | _ => none
def sliceM (ma : M Bv) (ml mh : M (Option Int)) : M D := bnd ma fun x => bnd ml fun l => bnd mh fun h => bnd (rd x) fun d => opt (slD d l h)
def rSlAll (K : PySem.W.Frag) : V → Option Int → Option Int → Hp → VK → Prop := fun x lo hi H Q => (rSlL K x lo hi H Q ∨ rSlA K x lo hi H Q) ∨ rSlS x lo hi H Q
section
variable {X : Cx} {W : WX} {a b e : Expr} {pos : Pos}
theorem ov_none : POv X W none (rt none) := by
  refine PO.weak po_none fun σ H Q q => ?_
  obtain ⟨Z, S, rfl, R, hw⟩ := q
  exact hw.here R
theorem ov_some {m : M D} (h : PEv X W e m) : POv X W (some e) (partM m) := by
  refine PO.weak (po_some h) fun σ H Q q => ?_
  obtain ⟨Z, S, rfl, R, hw⟩ := q
  refine ⟨Z, S, rfl, R, Wp.bnd hw fun d S1 R1 T1 h1 v r1 => ?_⟩
  cases d with
  | int i => unfold rE Rp at r1; exact ⟨i, r1, h1.here R1⟩
  | _ => exact h1.elim
theorem sl_all : SlR X (rSlAll X.K) := (sl_list.or sl_tupA).or sl_str
theorem sIx_whole {ds : List D} {lo hi : Option Int} (h : HT.sIx ds.length 0 lo = 0 ∧ HT.sIx ds.length ds.length hi = ds.length) : cutL ds lo hi = ds := by
  unfold cutL
  rw [h.1, h.2]
  simp
theorem ev_slice {ma : M Bv} {ml mh : M (Option Int)} {lo hi : Option Expr} {p2 : Pos} (ha : PBv X W a ma) (hl : POv X W lo ml) (hh : POv X W hi mh) : PEv X W (.Subscript a (.Slice lo hi none p2) pos) (sliceM ma ml mh) := by
  refine PE.weak (pe_slice sl_all ha hl hh) fun σ H Q q => ?_
  obtain ⟨Z, S, rfl, R, hw⟩ := q
  refine ⟨Z, S, rfl, R, Wp.bnd hw fun x S1 R1 T1 h1 u r1 => ?_⟩
  refine ⟨Z, S1, rfl, R1, Wp.bnd h1 fun l S2 R2 T2 h2 => ?_⟩
  refine ⟨Z, S2, rfl, R2, Wp.bnd h2 fun h S3 R3 T3 h3 => ?_⟩
  obtain ⟨d, t1, h4⟩ := R3.rd_ok (S0 := S) (rB_tr T3 (rB_tr T2 r1)) h3
  obtain ⟨z, e, h5⟩ := Wp.opt h4
  have k := Wp.fin R3 h5
  unfold slD at e
  split at e
  · rename_i ds
    cases e
    obtain ⟨p, xs, rfl, q1, q2⟩ := t1
    exact .inl (.inl ⟨p, xs, rfl, .inl (.inl q1), k.lst R3 (q2.cut l h)⟩)
  · rename_i ds
    cases e
    obtain ⟨p, xs, rfl, q1, q2⟩ := t1
    exact .inl (.inl ⟨p, xs, rfl, q1.sq, k.lst R3 (q2.cut l h)⟩)
  · rename_i ds
    cases e
    obtain ⟨p, xs, rfl, q1, q2⟩ := t1
    refine .inl (.inr ⟨p, xs, rfl, q1.sq, fun c => ?_, fun c => k.tup R3 (q2.cut l h)⟩)
    rw [q2.length] at c
    refine k.now ?_
    rw [sIx_whole c]
    unfold Rp
    exact ⟨p, xs, rfl, q1, q2⟩
  · rename_i z0
    split at e
    · rename_i hz
      cases e
      exact .inr ⟨z0, t1, szOk_le hz, k.now rp_str⟩
    · cases e
  · cases e
/-! ### a call of one, of two -/
def C1S (X : Cx) (f : D → Option D) (r : List V → Hp → VK → Prop) : Prop := ∀ (Z : Addr → Prop) (σ : L2.St) (S : S8) (x : D) (u : V) (d : D) (Q : VK), Rel X.K Z σ S → Rt (S.wd X.K Z) x u → f x = some d → Fin X.K Z S d Q → r [u] S.H Q
def C2S (X : Cx) (f : Op2) (r : List V → Hp → VK → Prop) : Prop := ∀ (Z : Addr → Prop) (σ : L2.St) (S : S8) (x y : D) (u v : V) (d : D) (Q : VK), Rel X.K Z σ S → Rt (S.wd X.K Z) x u → Rt (S.wd X.K Z) y v → f x y = some d → Fin X.K Z S d Q → r [u, v] S.H Q
theorem call1_go {f : D → Option D} {r : List V → Hp → VK → Prop} {ma : M Bv} (hf : C1S X f r) {σ : L2.St} {H : Hp} {Q : VK} (q : tG X.K X.mg W (rE X.K) (op1M f ma) σ H Q) : tCB r (tCons (tG X.K X.mg W (rB X.K) ma) tNil) σ H Q := by
  obtain ⟨Z, S, rfl, R, hw⟩ := q
  refine ⟨Z, S, rfl, R, Wp.bnd hw fun x S1 R1 T1 h1 u r1 => ?_⟩
  obtain ⟨d, t1, h2⟩ := R1.rd_ok (S0 := S) r1 h1
  obtain ⟨z, e, h3⟩ := Wp.opt h2
  exact hf Z σ S1 d u z Q R1 t1 e (Wp.fin R1 h3)
theorem call2_go {f : Op2} {r : List V → Hp → VK → Prop} {ma mb : M Bv} (hf : C2S X f r) {σ : L2.St} {H : Hp} {Q : VK} (q : tG X.K X.mg W (rE X.K) (op2M f ma mb) σ H Q) : tCB r (tCons (tG X.K X.mg W (rB X.K) ma) (tCons (tG X.K X.mg W (rB X.K) mb) tNil)) σ H Q := by
  obtain ⟨Z, S, rfl, R, hw⟩ := q
  refine ⟨Z, S, rfl, R, Wp.bnd hw fun x S1 R1 T1 h1 u r1 => ?_⟩
  refine ⟨Z, S1, rfl, R1, Wp.bnd h1 fun y S2 R2 T2 h2 v r2 => ?_⟩
  obtain ⟨dx, t1, h3⟩ := R2.rd_ok (S0 := S) (rB_tr T2 r1) h2
  obtain ⟨dy, t2, h4⟩ := R2.rd_ok (S0 := S1) r2 h3
  obtain ⟨d, e, h5⟩ := Wp.opt h4
  exact hf Z σ S2 dx dy u v d Q R2 t1 t2 e (Wp.fin R2 h5)
theorem ev_b1 {x : Str} {id : String} {p : Pos} {r : List V → Hp → VK → Prop} {f : D → Option D} {ma : M Bv} (hc : CallR X (.builtin id) r) (hf : C1S X f r) (hm : X.mg x = none) (hv : bootBuiltins x = some (.builtin id)) (ha : PBv X W a ma) (hg : Gl X x := by rfl)
    (hst : starEach [a] X.env = (false, eval a X.env) :: starEach [] X.env := by rfl) (hpl : (backTo pos (starEach [] X.env)).any (·.1) = false := by rfl) (hdb : (x == ("__debug__" : Str)) = false := by decide) (hn : x ≠ "__name__" := by decide) : PEv X W (.Call (.Name x p) [a] [] pos) (op1M f ma) :=
  PE.weak (pe_callB hc hg hm hv (pa_cons ha pa_nil hst) (by assumption) (by assumption) hst hpl) fun _ _ _ q => call1_go hf q
theorem ev_t1 {x : Str} {T : String} {p : Pos} {r : List V → Hp → VK → Prop} {f : D → Option D} {ma : M Bv} (hc : CallR X (.type T) r) (hf : C1S X f r) (hm : X.mg x = none) (hv : bootBuiltins x = some (.type T)) (ha : PBv X W a ma) (hg : Gl X x := by rfl)
    (hst : starEach [a] X.env = (false, eval a X.env) :: starEach [] X.env := by rfl) (hpl : (backTo pos (starEach [] X.env)).any (·.1) = false := by rfl) (hdb : (x == ("__debug__" : Str)) = false := by decide) (hn : x ≠ "__name__" := by decide) : PEv X W (.Call (.Name x p) [a] [] pos) (op1M f ma) :=
  PE.weak (pe_callTy hc hg hm hv (pa_cons ha pa_nil hst) (by assumption) (by assumption) hst hpl) fun _ _ _ q => call1_go hf q
theorem ev_b2 {x : Str} {id : String} {p : Pos} {r : List V → Hp → VK → Prop} {f : Op2} {ma mb : M Bv} (hc : CallR X (.builtin id) r) (hf : C2S X f r) (hm : X.mg x = none) (hv : bootBuiltins x = some (.builtin id)) (ha : PBv X W a ma) (hb : PBv X W b mb) (hg : Gl X x := by rfl)
    (hst : starEach [a, b] X.env = (false, eval a X.env) :: starEach [b] X.env := by rfl) (hst2 : starEach [b] X.env = (false, eval b X.env) :: starEach [] X.env := by rfl) (hpl : (backTo pos (starEach [b] X.env)).any (·.1) = false := by rfl) (hdb : (x == ("__debug__" : Str)) = false := by decide) (hn : x ≠ "__name__" := by decide) :
    PEv X W (.Call (.Name x p) [a, b] [] pos) (op2M f ma mb) :=
  PE.weak (pe_callB hc hg hm hv (pa_cons ha (pa_cons hb pa_nil hst2) hst) (by assumption) (by assumption) hst hpl) fun _ _ _ q => call2_go hf q
end
end QB

/-! The pure layer, part 9: len, sum, min, max, all, any, abs, int, list, tuple, sorted, isinstance. -/
namespace QB
open PySem PySem.Spec PyProof.Rows L2
section
variable {X : Cx}
/-! ### len -/
def lenD : D → Option D
  | .lst ds => some (.int ds.length)
  | .wls ds => some (.int ds.length)
  | .tup ds => some (.int ds.length)
  | .dct kvs => some (.int kvs.length)
  | .str z => if szOk z.length = true then some (.int z.length) else none
  | _ => none
def rLenA (K : PySem.W.Frag) : List V → Hp → VK → Prop := fun xs H Q => (∃ x n, xs = [x] ∧ LenV K x H n ∧ Q (.int n) H) ∨ ∃ a kvs, xs = [V.ref a] ∧ Rd H a (.dK kvs) ∧ Q (.int kvs.length) H
theorem call_lenA : CallR X (.builtin "len") (rLenA X.K) := by
  intro pins s σ H xs us Q I r h
  rcases h with h | ⟨a, kvs, rfl, ha, q⟩
  · exact call_len pins s σ H xs us Q I r h
  · obtain ⟨u, rfl, ru⟩ := vals1 r
    cases ru
    exact d_len I ha fun t s' I' => ⟨.int kvs.length, H, I', ⟨t, rfl⟩, q⟩
theorem c1_len : C1S X lenD (rLenA X.K) := by
  intro Z σ S x u d Q R t e k
  cases x with
  | lst ds =>
    cases e
    obtain ⟨a, xs, rfl, h1, r1⟩ := t
    exact .inl ⟨_, _, rfl, .inl ⟨xs, .inl (.inl h1), rfl⟩, by rw [r1.length]; exact k.now rp_int⟩
  | wls ds =>
    cases e
    obtain ⟨a, xs, rfl, h1, r1⟩ := t
    exact .inl ⟨_, _, rfl, .inl ⟨xs, h1.sq, rfl⟩, by rw [r1.length]; exact k.now rp_int⟩
  | tup ds =>
    cases e
    obtain ⟨a, xs, rfl, h1, r1⟩ := t
    exact .inl ⟨_, _, rfl, .inr ⟨xs, h1.sq, rfl⟩, by rw [r1.length]; exact k.now rp_int⟩
  | dct ds =>
    cases e
    obtain ⟨a, xs, rfl, h1, r1⟩ := t
    exact .inr ⟨a, xs, rfl, h1, by rw [r1.length]; exact k.now rp_int⟩
  | str z =>
    have e : (if szOk z.length = true then some (D.int z.length) else none) = some d := e
    split at e
    · rename_i hz
      cases e
      cases (show u = .str z from t)
      exact .inl ⟨_, _, rfl, ⟨szOk_le hz, rfl⟩, k.now rp_int⟩
    · cases e
  | _ => cases e
/-! ### abs, int -/
def absD : D → Option D
  | .int i => some (.int (if i < 0 then -i else i))
  | _ => none
theorem c1_abs : C1S X absD (fun xs H Q => ∃ i, xs = [.int i] ∧ Q (.int (if i < 0 then -i else i)) H) := by
  intro Z σ S x u d Q R t e k
  cases x with
  | int i => cases e; exact ⟨i, by rw [show u = .int i from t], k.now rp_int⟩
  | _ => cases e
def toIntD : D → Option D
  | .int i => some (.int i)
  | .bl b => some (.int (if b then 1 else 0))
  | _ => none
theorem c1_int : C1S X toIntD (fun xs H Q => (∃ i, xs = [.int i] ∧ Q (.int i) H) ∨ ∃ k, xs = [.bl k] ∧ Q (.int (if k then 1 else 0)) H) := by
  intro Z σ S x u d Q R t e k
  cases x with
  | int i => cases e; exact .inl ⟨i, by rw [show u = .int i from t], k.now rp_int⟩
  | bl i => cases e; exact .inr ⟨i, by rw [show u = .bl i from t], k.now rp_int⟩
  | _ => cases e
/-! ### sum, all, any -/
def sumD : D → Option D
  | .lst ds => (intsOf ds).map fun ns => .int ns.sum
  | .wls ds => (intsOf ds).map fun ns => .int ns.sum
  | .tup ds => (intsOf ds).map fun ns => .int ns.sum
  | _ => none
def rSumA (K : PySem.W.Frag) : List V → Hp → VK → Prop := fun vs H Q => ∃ (a : Addr) (ns : List Int), vs = [V.ref a] ∧ (SqL K H a (ns.map V.int) ∨ SqT K H a (ns.map V.int)) ∧ Q (.int ns.sum) H
theorem cr_sumA (hc : X.calm = true) : CallR X (.builtin "sum") (rSumA X.K) := by
  intro pins s σ H vs us Q I r h
  obtain ⟨a, ns, rfl, hs, q⟩ := h
  rcases hs with hs | hs
  · exact cr_sum hc pins s σ H _ us Q I r ⟨a, ns, rfl, hs, q⟩
  · obtain ⟨its, rv, hl, _⟩ := I.tuple hs
    rw [Vals.ref1 r]
    have hi := rv.ints
    obtain ⟨xs, hx⟩ := hi.allInts.items
    have hn : numsOf its.toArray.toList = ns := by rw [show its.toArray.toList = its from rfl, hi.numsOf]
    rw [hx] at hl hn
    rw [nums_intItems] at hn
    refine PySem.W.ktm_sumG (I.ok.hd hc) hl fun h' tk t' hk => ?_
    rw [preSum_eq, List.take_of_length_le (by simp), hn]
    exact ⟨.int _, H, I.kept hk, ⟨_, rfl⟩, q⟩
theorem c1_sum : C1S X sumD (rSumA X.K) := by
  intro Z σ S x u d Q R t e k
  cases x with
  | lst ds =>
    have e : (intsOf ds).map (fun ns => D.int ns.sum) = some d := e
    cases q : intsOf ds with
    | none => rw [q] at e; cases e
    | some ns =>
      rw [q] at e; cases e
      obtain ⟨a, xs, rfl, h1, r1⟩ := t
      rw [intsOf_map q] at r1
      exact ⟨a, ns, rfl, .inl (by rw [← r1.of_ints]; exact .inl (.inl h1)), k.now rp_int⟩
  | wls ds =>
    have e : (intsOf ds).map (fun ns => D.int ns.sum) = some d := e
    cases q : intsOf ds with
    | none => rw [q] at e; cases e
    | some ns =>
      rw [q] at e; cases e
      obtain ⟨a, xs, rfl, h1, r1⟩ := t
      rw [intsOf_map q] at r1
      exact ⟨a, ns, rfl, .inl (by rw [← r1.of_ints]; exact h1.sq), k.now rp_int⟩
  | tup ds =>
    have e : (intsOf ds).map (fun ns => D.int ns.sum) = some d := e
    cases q : intsOf ds with
    | none => rw [q] at e; cases e
    | some ns =>
      rw [q] at e; cases e
      obtain ⟨a, xs, rfl, h1, r1⟩ := t
      rw [intsOf_map q] at r1
      exact ⟨a, ns, rfl, .inr (by rw [← r1.of_ints]; exact h1.sq), k.now rp_int⟩
  | _ => cases e
def blsOf : List D → Option (List Bool)
  | [] => some []
  | .bl i :: r => (blsOf r).map (i :: ·)
  | _ => none
theorem blsOf_map : ∀ {ds : List D} {ns : List Bool}, blsOf ds = some ns → ds = ns.map D.bl
  | [], ns, h => by cases h; rfl
  | d :: ds, ns, h => by
    cases d with
    | bl i =>
      unfold blsOf at h
      cases e : blsOf ds with
      | none => rw [e] at h; cases h
      | some l => rw [e] at h; cases h; rw [blsOf_map e]; rfl
    | _ => cases h
theorem blsOf_bls : ∀ ns : List Bool, blsOf (ns.map D.bl) = some ns
  | [] => rfl
  | n :: ns => by
    show (blsOf (ns.map D.bl)).map (n :: ·) = _
    rw [blsOf_bls ns]; rfl
theorem RpL.of_bls {w : Wd} : ∀ {ns : List Bool} {vs : List V}, RpL w (ns.map D.bl) vs → vs = ns.map V.bl
  | [], _, h => h.of_nil
  | n :: ns, _, h => by
    obtain ⟨x, xs, rfl, h3, h4⟩ := RpL.of_cons (d := .bl n) (ds := ns.map D.bl) h
    unfold Rp at h3
    rw [h3, RpL.of_bls h4]; rfl
def allD : D → Option D
  | .lst ds => (blsOf ds).map fun ns => .bl (ns.all id)
  | _ => none
def anyD : D → Option D
  | .lst ds => (blsOf ds).map fun ns => .bl (ns.any id)
  | _ => none
theorem c1_all : C1S X allD (rAll X.K) := by
  intro Z σ S x u d Q R t e k
  cases x with
  | lst ds =>
    have e : (blsOf ds).map (fun ns => D.bl (ns.all id)) = some d := e
    cases q : blsOf ds with
    | none => rw [q] at e; cases e
    | some ns =>
      rw [q] at e; cases e
      obtain ⟨a, xs, rfl, h1, r1⟩ := t
      rw [blsOf_map q] at r1
      exact ⟨a, ns, rfl, by rw [← r1.of_bls]; exact .inl (.inl h1), k.now rp_bl⟩
  | _ => cases e
theorem c1_any : C1S X anyD (rAny X.K) := by
  intro Z σ S x u d Q R t e k
  cases x with
  | lst ds =>
    have e : (blsOf ds).map (fun ns => D.bl (ns.any id)) = some d := e
    cases q : blsOf ds with
    | none => rw [q] at e; cases e
    | some ns =>
      rw [q] at e; cases e
      obtain ⟨a, xs, rfl, h1, r1⟩ := t
      rw [blsOf_map q] at r1
      exact ⟨a, ns, rfl, by rw [← r1.of_bls]; exact .inl (.inl h1), k.now rp_bl⟩
  | _ => cases e
/-! ### max(a, b), min(a, b) -/
def max2D : Op2
  | .int i, .int j => some (.int (if j > i then j else i))
  | _, _ => none
def min2D : Op2
  | .int i, .int j => some (.int (if j < i then j else i))
  | _, _ => none
theorem c2_max : C2S X max2D (fun xs H Q => ∃ i j, xs = [.int i, .int j] ∧ Q (.int (if j > i then j else i)) H) := by
  intro Z σ S x y u v d Q R t1 t2 e k
  unfold max2D at e
  split at e
  · rename_i i j
    cases e
    exact ⟨i, j, by rw [show u = .int i from t1, show v = .int j from t2], k.now rp_int⟩
  · cases e
theorem c2_min : C2S X min2D (fun xs H Q => ∃ i j, xs = [.int i, .int j] ∧ Q (.int (if j < i then j else i)) H) := by
  intro Z σ S x y u v d Q R t1 t2 e k
  unfold min2D at e
  split at e
  · rename_i i j
    cases e
    exact ⟨i, j, by rw [show u = .int i from t1, show v = .int j from t2], k.now rp_int⟩
  · cases e
/-! ### tuple(..), list(..) -/
def tupleD : D → Option D
  | .lst ds => some (.tup ds)
  | .wls ds => some (.tup ds)
  | .tup ds => some (.tup ds)
  | _ => none
theorem c1_tuple : C1S X tupleD (fun xs H Q => ∃ p ys, xs = [.ref p] ∧ ((SqL X.K H p ys ∧ ∀ l, H l = none → Q (.ref l) (upd H l (.tup ys))) ∨ (SqT X.K H p ys ∧ Q (.ref p) H))) := by
  intro Z σ S x u d Q R t e k
  cases x with
  | lst ds =>
    cases e
    obtain ⟨a, xs, rfl, h1, r1⟩ := t
    exact ⟨a, xs, rfl, .inl ⟨.inl (.inl h1), k.tup R r1⟩⟩
  | wls ds =>
    cases e
    obtain ⟨a, xs, rfl, h1, r1⟩ := t
    exact ⟨a, xs, rfl, .inl ⟨h1.sq, k.tup R r1⟩⟩
  | tup ds =>
    cases e
    obtain ⟨a, xs, rfl, h1, r1⟩ := t
    exact ⟨a, xs, rfl, .inr ⟨h1.sq, k.now (by unfold Rp; exact ⟨a, xs, rfl, h1, r1⟩)⟩⟩
  | _ => cases e
end
/-! ### calls that make a new mutable object -/
def FinF (K : PySem.W.Frag) (Z : Addr → Prop) (S : S8) (c : Cell) (Q : VK) : Prop := ∀ p o, S.H p = none → CellAt ((S.up (upd S.H p o)).wd K (addZ Z p)) c p → Q (.ref p) (upd S.H p o)
theorem Wp.finF {K : PySem.W.Frag} {mg : Str → Option Value} {W : WX} {Z : Addr → Prop} {σ : L2.St} {S S0 : S8} {c : Cell} {Q : VK} (R : Rel K Z σ S) (T : Tr S0 S) (h : Wp K Z σ S (rt c S.env S.st) (fun a S' => ∀ v, rF K Z σ S0 S' a v → Q v S'.H) (Qx K mg W Z σ)) : FinF K Z S c Q := fun p o hp hc => by
  refine h (S.up (upd S.H p o)) rfl rfl (R.up (ext_new hp)) (Tr.up (ext_new hp)) _ ⟨p, rfl, ?_, fun z => R.zt p z hp, R.addNew hp, hc⟩
  cases e : S0.H p with
  | none => rfl
  | some o => exact absurd hp (T.dom p (by rw [e]; intro z; cases z))
theorem FinF.lst {K : PySem.W.Frag} {Z : Addr → Prop} {σ : L2.St} {S : S8} {ds : List D} {Q : VK} (h : FinF K Z S (.lst ds) Q) (R : Rel K Z σ S) {xs : List V} (r : RpL (S.wd K Z) ds xs) : ∀ p, S.H p = none → Q (.ref p) (upd S.H p (.lst xs)) := fun p hp =>
  h p _ hp ⟨xs, upd_same, (le_new R hp).rpL _ _ r⟩
def C1F (X : Cx) (f : D → Option Cell) (r : List V → Hp → VK → Prop) : Prop := ∀ (Z : Addr → Prop) (σ : L2.St) (S : S8) (x : D) (u : V) (c : Cell) (Q : VK), Rel X.K Z σ S → Rt (S.wd X.K Z) x u → f x = some c → FinF X.K Z S c Q → r [u] S.H Q
def op1F (f : D → Option Cell) (ma : M Bv) : M Cell := bnd ma fun x => bnd (rd x) fun dx => opt (f dx)
section
variable {X : Cx} {W : WX} {a b e : Expr} {pos : Pos}
theorem call1F_go {f : D → Option Cell} {r : List V → Hp → VK → Prop} {ma : M Bv} (hf : C1F X f r) {σ : L2.St} {H : Hp} {Q : VK} (q : tG X.K X.mg W (rF X.K) (op1F f ma) σ H Q) : tCB r (tCons (tG X.K X.mg W (rB X.K) ma) tNil) σ H Q := by
  obtain ⟨Z, S, rfl, R, hw⟩ := q
  refine ⟨Z, S, rfl, R, Wp.bnd hw fun x S1 R1 T1 h1 u r1 => ?_⟩
  obtain ⟨d, t1, h2⟩ := R1.rd_ok (S0 := S) r1 h1
  obtain ⟨z, e, h3⟩ := Wp.opt h2
  exact hf Z σ S1 d u z Q R1 t1 e (Wp.finF R1 T1 h3)
theorem fr_b1 {x : Str} {id : String} {p : Pos} {r : List V → Hp → VK → Prop} {f : D → Option Cell} {ma : M Bv} (hc : CallR X (.builtin id) r) (hf : C1F X f r) (hm : X.mg x = none) (hv : bootBuiltins x = some (.builtin id)) (ha : PBv X W a ma) (hg : Gl X x := by rfl)
    (hst : starEach [a] X.env = (false, eval a X.env) :: starEach [] X.env := by rfl) (hpl : (backTo pos (starEach [] X.env)).any (·.1) = false := by rfl) (hdb : (x == ("__debug__" : Str)) = false := by decide) (hn : x ≠ "__name__" := by decide) : PFr X W (.Call (.Name x p) [a] [] pos) (op1F f ma) :=
  PE.weak (pe_callB hc hg hm hv (pa_cons ha pa_nil hst) (by assumption) (by assumption) hst hpl) fun _ _ _ q => call1F_go hf q
theorem fr_t1 {x : Str} {T : String} {p : Pos} {r : List V → Hp → VK → Prop} {f : D → Option Cell} {ma : M Bv} (hc : CallR X (.type T) r) (hf : C1F X f r) (hm : X.mg x = none) (hv : bootBuiltins x = some (.type T)) (ha : PBv X W a ma) (hg : Gl X x := by rfl)
    (hst : starEach [a] X.env = (false, eval a X.env) :: starEach [] X.env := by rfl) (hpl : (backTo pos (starEach [] X.env)).any (·.1) = false := by rfl) (hdb : (x == ("__debug__" : Str)) = false := by decide) (hn : x ≠ "__name__" := by decide) : PFr X W (.Call (.Name x p) [a] [] pos) (op1F f ma) :=
  PE.weak (pe_callTy hc hg hm hv (pa_cons ha pa_nil hst) (by assumption) (by assumption) hst hpl) fun _ _ _ q => call1F_go hf q
def listD : D → Option Cell
  | .lst ds => some (.lst ds)
  | .wls ds => some (.lst ds)
  | .tup ds => some (.lst ds)
  | .dct kvs => some (.lst (kvs.map fun kv => dOf kv.1))
  | _ => none
def rListA (K : PySem.W.Frag) : List V → Hp → VK → Prop := fun xs H Q => (∃ p ys, xs = [.ref p] ∧ (SqL K H p ys ∨ SqT K H p ys) ∧ ∀ l, H l = none → Q (.ref l) (upd H l (.lst ys))) ∨
  ∃ (a : Addr) (kvs : List (Key × V)), xs = [.ref a] ∧ Rd H a (.dK kvs) ∧ ∀ p, H p = none → Q (.ref p) (upd H p (.lst (kvs.map fun kv => kV kv.1)))
theorem call_listA (hc : X.calm = true) : CallR X (.type "list") (rListA X.K) := CallR.or call_list_of (call_listD hc)
theorem rpL_keys {w : Wd} : ∀ {ds : List (Key × D)} {vs : List (Key × V)}, RpK w ds vs → RpL w (ds.map fun kv => dOf kv.1) (vs.map fun kv => kV kv.1)
  | [], _, h => by rw [h.of_nil]; exact .nil
  | (k, d) :: ds, _, h => by
    obtain ⟨x, xs, rfl, h1, h2⟩ := h.of_cons
    refine .cons ?_ (rpL_keys h2)
    cases k with
    | inl i => exact rp_int
    | inr s => exact rp_str
theorem c1_list : C1F X listD (rListA X.K) := by
  intro Z σ S x u c Q R t e k
  cases x with
  | lst ds =>
    cases e
    obtain ⟨a, xs, rfl, h1, r1⟩ := t
    exact .inl ⟨a, xs, rfl, .inl (.inl (.inl h1)), k.lst R r1⟩
  | wls ds =>
    cases e
    obtain ⟨a, xs, rfl, h1, r1⟩ := t
    exact .inl ⟨a, xs, rfl, .inl h1.sq, k.lst R r1⟩
  | tup ds =>
    cases e
    obtain ⟨a, xs, rfl, h1, r1⟩ := t
    exact .inl ⟨a, xs, rfl, .inr h1.sq, k.lst R r1⟩
  | dct kvs =>
    cases e
    obtain ⟨a, xs, rfl, h1, r1⟩ := t
    exact .inr ⟨a, xs, rfl, h1, k.lst R (rpL_keys r1)⟩
  | _ => cases e
/-! ### list(range(..)), tuple(range(..)) -/
def rgL (a b : Int) : List D := (List.range (b - a).toNat).map fun i => D.int (a + (i : Nat))
theorem rpL_rg {w : Wd} (a b : Int) : RpL w (rgL a b) (rgV a b) := by
  unfold rgL rgV
  have h : ∀ l : List Nat, RpL w (l.map fun i => D.int (a + (i : Nat))) (l.map fun i => V.int (a + (i : Nat))) := by
    intro l
    induction l with
    | nil => exact .nil
    | cons x xs ih => exact .cons rp_int ih
  exact h _
def rgOk (a b : Int) : Bool := decide (-(2 ^ 40) ≤ a) && decide (a ≤ 2 ^ 40) && decide (b ≤ a + 2 ^ 24) && decide (-(2 ^ 40) ≤ b)
theorem rgOk_ok {a b : Int} (h : rgOk a b = true) : RgOk a b := by
  unfold rgOk at h
  simp only [Bool.and_eq_true, decide_eq_true_eq] at h
  refine ⟨?_, ?_, ?_, ?_, ?_⟩ <;> omega
def rangeD : D → D → Option (Int × Int)
  | .int a, .int b => if rgOk a b = true then some (a, b) else none
  | _, _ => none
theorem rangeD_int (a b : Int) : rangeD (.int a) (.int b) = if rgOk a b = true then some (a, b) else none := rfl
def rg1M (mb : M Bv) : M (Int × Int) := bnd mb fun y => bnd (rd y) fun dy => opt (rangeD (.int 0) dy)
def rg2M (ma mb : M Bv) : M (Int × Int) := bnd ma fun x => bnd mb fun y => bnd (rd x) fun dx => bnd (rd y) fun dy => opt (rangeD dx dy)
theorem fr_listRg1 {p p2 pos2 : Pos} {ma : M Bv} (hc : X.calm = true) (hm1 : X.mg "list" = none) (hm2 : X.mg "range" = none) (ha : PBv X W a ma) (hg1 : Gl X "list" := by rfl) (hg2 : Gl X "range" := by rfl)
    (n1 : starEach [a] X.env = (false, eval a X.env) :: starEach [] X.env := by rfl) (n2 : starEach [.Call (.Name "range" p2) [a] [] pos2] X.env = (false, eval (.Call (.Name "range" p2) [a] [] pos2) X.env) :: starEach [] X.env := by rfl) :
    PFr X W (.Call (.Name "list" p) [.Call (.Name "range" p2) [a] [] pos2] [] pos) (bnd (rg1M ma) fun r => rt (.lst (rgL r.1 r.2))) := by
  refine PE.weak (pe_listRg hc hg1 hm1 (prg_1 hg2 hm2 ha n1) n2) fun σ H Q q => ?_
  obtain ⟨Z, S, rfl, R, hw⟩ := q
  refine ⟨Z, S, rfl, R, ?_⟩
  have hw' : Wp X.K Z σ S (bnd ma (fun y => bnd (rd y) fun dy => bnd (opt (rangeD (.int 0) dy)) fun r => rt (Cell.lst (rgL r.1 r.2))) S.env S.st) (fun a S' => ∀ v, rF X.K Z σ S S' a v → Q v S'.H) (Qx X.K X.mg W Z σ) := by
    have e : (bnd (rg1M ma) fun r => rt (Cell.lst (rgL r.1 r.2))) S.env S.st = bnd ma (fun y => bnd (rd y) fun dy => bnd (opt (rangeD (.int 0) dy)) fun r => rt (Cell.lst (rgL r.1 r.2))) S.env S.st := by
      show ((ma S.env S.st).andThen _).andThen _ = (ma S.env S.st).andThen _
      cases ma S.env S.st with
      | ok a e s =>
        show ((rd a e s).andThen _).andThen _ = (rd a e s).andThen _
        cases rd a e s <;> rfl
      | exc x e s => rfl
      | bad => rfl
    rw [← e]; exact hw
  refine Wp.bnd hw' fun x S1 R1 T1 h1 u r1 => ?_
  obtain ⟨d, t1, h2⟩ := R1.rd_ok (S0 := S) r1 h1
  rw [bnd_app] at h2
  cases d with
  | int n =>
    cases q : rgOk 0 n with
    | false =>
      have : rangeD (.int 0) (.int n) = none := by
        rw [rangeD_int, q]; rfl
      rw [this] at h2; exact h2.elim
    | true =>
      have : rangeD (.int 0) (.int n) = some (0, n) := by
        rw [rangeD_int, q]; rfl
      rw [this] at h2
      exact ⟨n, t1, rgOk_ok q, (Wp.finF R1 T1 h2).lst R1 (rpL_rg 0 n)⟩
  | _ => exact h2.elim
theorem ev_tupRg {p p2 pos2 : Pos} {ma : M Bv} (hc : X.calm = true) (hm1 : X.mg "tuple" = none) (hm2 : X.mg "range" = none) (ha : PBv X W a ma) (hg1 : Gl X "tuple" := by rfl) (hg2 : Gl X "range" := by rfl)
    (n1 : starEach [a] X.env = (false, eval a X.env) :: starEach [] X.env := by rfl) (n2 : starEach [.Call (.Name "range" p2) [a] [] pos2] X.env = (false, eval (.Call (.Name "range" p2) [a] [] pos2) X.env) :: starEach [] X.env := by rfl) :
    PEv X W (.Call (.Name "tuple" p) [.Call (.Name "range" p2) [a] [] pos2] [] pos) (bnd ma fun y => bnd (rd y) fun dy => bnd (opt (rangeD (.int 0) dy)) fun r => rt (.tup (rgL r.1 r.2))) := by
  refine PE.weak (pe_tupRg hc hg1 hm1 (prg_1 hg2 hm2 ha n1) n2) fun σ H Q q => ?_
  obtain ⟨Z, S, rfl, R, hw⟩ := q
  refine ⟨Z, S, rfl, R, Wp.bnd hw fun x S1 R1 T1 h1 u r1 => ?_⟩
  obtain ⟨d, t1, h2⟩ := R1.rd_ok (S0 := S) r1 h1
  rw [bnd_app] at h2
  cases d with
  | int n =>
    cases q : rgOk 0 n with
    | false =>
      have : rangeD (.int 0) (.int n) = none := by
        rw [rangeD_int, q]; rfl
      rw [this] at h2; exact h2.elim
    | true =>
      have : rangeD (.int 0) (.int n) = some (0, n) := by
        rw [rangeD_int, q]; rfl
      rw [this] at h2
      exact ⟨n, t1, rgOk_ok q, (Wp.fin R1 h2).tup R1 (rpL_rg 0 n)⟩
  | _ => exact h2.elim
end
end QB

/-! The pure layer, part 10: sources walked, statements. -/
namespace QB
open PySem PySem.Spec PyProof.Rows L2

/-! ### sources -/
inductive Src where
  | seq (d : D) | rng (a : Int) (n : Nat) | enum (d : D) | zip (d e : D) | keys (kvs : List (Key × D))
/-- is it a tuple, its items -/
def isTup : D → Bool
  | .tup _ => true
  | _ => false
def topD : D → Store → Option (List D)
  | .lst ds, _ => some ds
  | .wls ds, _ => some ds
  | .tup ds, _ => some ds
  | .ref k, s => match s[k]? with
    | some (.lst ds) => some ds
    | _ => none
  | _, _ => none
def enumL : Nat → List D → List D
  | _, [] => []
  | i, d :: ds => .tup [.int (i : Nat), d] :: enumL (i + 1) ds
def zipL (xs ys : List D) : List D := List.zipWith (fun x y => .tup [x, y]) xs ys
def rngL (a : Int) (n : Nat) : List D := (List.range n).map fun i => D.int (a + (i : Nat))
def Src.items : Src → Store → Option (List D)
  | .seq d, s => topD d s
  | .rng a n, _ => some (rngL a n)
  | .enum d, s => (topD d s).map (enumL 0)
  | .zip d e, s => (topD d s).bind fun xs => (topD e s).map fun ys => zipL xs ys
  | .keys kvs, _ => some (kvs.map fun kv => dOf kv.1)
theorem enumL_get : ∀ (ds : List D) (j i : Nat), (enumL j ds)[i]? = (ds[i]?).map fun d => .tup [.int ((j + i : Nat) : Int), d]
  | [], j, i => by simp [enumL]
  | d :: ds, j, 0 => by simp [enumL]
  | d :: ds, j, i + 1 => by
    show (enumL (j + 1) ds)[i]? = ds[i]?.map _
    rw [enumL_get ds (j + 1) i, show j + 1 + i = j + (i + 1) by omega]
/-- what the iterator J yields is what the source's items say, in any later state -/
def ItOk (K : PySem.W.Frag) (Z : Addr → Prop) (sr : Src) (S : S8) (J : It) : Prop :=
  ∀ (Z' : Addr → Prop) (σ : L2.St) (S2 : S8), (S.wd K Z).Le (S2.wd K Z') → Rel K Z' σ S2 → ∀ (l : List D), sr.items S2.st = some l → ∀ i : Nat,
    (l[i]? = none → J.stop i S2.H) ∧ ∀ d, l[i]? = some d → J.go i S2.H ∧ ∀ x H', J.yld i S2.H x H' → (∀ a o, S2.H a = some o → H' a = some o) ∧ Rp ((S2.up H').wd K Z') d x
def tGI (K : PySem.W.Frag) (mg : Str → Option Value) (W : WX) (m : M Src) : TI := fun σ H R => ∃ Z S, S.H = H ∧ Rel K Z σ S ∧
  Wp K Z σ S (m S.env S.st) (fun sr S' => ∀ J, ItOk K Z sr S' J → R J S'.H) (Qx K mg W Z σ)
def PIt (X : Cx) (W : WX) (tg it : Expr) (m : M Src) : Prop := PI X tg it (tGI X.K X.mg W m)
theorem PI.weak {X : Cx} {tg e : Expr} {t t' : TI} (h : PI X tg e t) (k : ∀ σ H Q, t' σ H Q → t σ H Q) : PI X tg e t' := ⟨fun pins s σ H Q I q => h.run pins s σ H Q I (k σ H Q q)⟩
section
variable {K : PySem.W.Frag} {Z : Addr → Prop} {σ : L2.St} {S : S8}
theorem SqL.uniq {H : Hp} {X : Cx} {pins} {s : Shared} (I : Inv X pins σ H s) {a : Addr} {xs ys : List V} (h : SqL X.K H a xs) (h' : SqL X.K H a ys) : xs = ys := I.list_inj h h'
/-- a sequence read at its top -/
theorem Rel.top (R : Rel K Z σ S) {d : D} {v : V} {ds : List D} (r : Rp (S.wd K Z) d v) (h : topD d S.st = some ds) :
    ∃ a xs, v = .ref a ∧ RpL (S.wd K Z) ds xs ∧ (isTup d = true → SqT K S.H a xs) ∧ (isTup d = false → SqL K S.H a xs) := by
  cases d with
  | lst l =>
    cases h; unfold Rp at r; obtain ⟨a, xs, e, h1, h2⟩ := r
    exact ⟨a, xs, e, h2, (fun z => by cases z), fun _ => h1.sq⟩
  | wls l =>
    cases h; unfold Rp at r; obtain ⟨a, xs, e, h1, h2⟩ := r
    exact ⟨a, xs, e, h2, (fun z => by cases z), fun _ => h1.sq⟩
  | tup l =>
    cases h; unfold Rp at r; obtain ⟨a, xs, e, h1, h2⟩ := r
    exact ⟨a, xs, e, h2, (fun _ => h1.sq), fun z => by cases z⟩
  | ref k =>
    have h' : (match S.st[k]? with | some (.lst ds) => some ds | _ => none) = some ds := h
    cases e1 : S.st[k]? with
    | none => rw [e1] at h'; cases h'
    | some c =>
      rw [e1] at h'
      cases c with
      | dct _ => cases h'
      | lst l =>
        cases h'
        unfold Rp at r
        obtain ⟨xs, e2, r2⟩ := R.cell (.inr k) _ e1
        exact ⟨_, xs, r.2, r2, (fun z => by cases z), fun _ => .inl (.inl e2)⟩
  | _ => cases h
end
theorem RpL.get_of {w : Wd} {ds : List D} {xs : List V} {i : Nat} {d : D} {x : V} (r : RpL w ds xs) (h : ds[i]? = some d) (hx : xs[i]? = some x) : Rp w d x := by
  obtain ⟨v, e, q⟩ := r.get h
  rw [hx] at e; cases e; exact q
section
variable {K : PySem.W.Frag} {Z : Addr → Prop} {σ : L2.St} {S : S8}
theorem it_lst {d : D} {a : Addr} (r : Rp (S.wd K Z) d (.ref a)) (ht : isTup d = false) : ItOk K Z (.seq d) S (Itl K a) := by
  intro Z' σ2 S2 le R2 l hl i
  obtain ⟨a', xs, e, rl, _, h2⟩ := R2.top (le.rp _ _ r) hl
  cases e
  have sq := h2 ht
  refine ⟨fun hn => ⟨xs, sq, by rw [rl.length]; exact List.getElem?_eq_none_iff.mp hn⟩, fun x hx => ?_⟩
  obtain ⟨v, hv, _⟩ := rl.get hx
  refine ⟨⟨xs, v, sq, hv⟩, ?_⟩
  rintro y H' ⟨rfl, hy⟩
  exact ⟨fun _ _ e => e, rl.get_of hx (hy xs sq)⟩
theorem it_tup {d : D} {a : Addr} (r : Rp (S.wd K Z) d (.ref a)) (ht : isTup d = true) : ItOk K Z (.seq d) S (Itt K a) := by
  intro Z' σ2 S2 le R2 l hl i
  obtain ⟨a', xs, e, rl, h2, _⟩ := R2.top (le.rp _ _ r) hl
  cases e
  have sq := h2 ht
  refine ⟨fun hn => ⟨xs, sq, by rw [rl.length]; exact List.getElem?_eq_none_iff.mp hn⟩, fun x hx => ?_⟩
  obtain ⟨v, hv, _⟩ := rl.get hx
  refine ⟨⟨xs, v, sq, hv⟩, ?_⟩
  rintro y H' ⟨rfl, hy⟩
  exact ⟨fun _ _ e => e, rl.get_of hx (hy xs sq)⟩
theorem rngL_get (a : Int) (n i : Nat) : (rngL a n)[i]? = if i < n then some (.int (a + (i : Nat))) else none := by
  unfold rngL
  by_cases h : i < n
  · rw [if_pos h]; simp [h]
  · rw [if_neg h]; simp; omega
theorem it_rng {lo : Int} {n : Nat} : ItOk K Z (.rng lo n) S (Itr lo n) := by
  intro Z' σ2 S2 le R2 l hl i
  cases hl
  rw [rngL_get]
  by_cases h : i < n
  · rw [if_pos h]
    refine ⟨(fun z => by cases z), fun d hd => ⟨h, ?_⟩⟩
    cases hd
    rintro y H' ⟨rfl, rfl⟩
    exact ⟨fun _ _ e => e, rp_int⟩
  · rw [if_neg h]
    exact ⟨fun _ => Nat.le_of_not_lt h, fun d hd => by cases hd⟩
theorem it_enum {d : D} {a : Addr} (r : Rp (S.wd K Z) d (.ref a)) (ht : isTup d = false) : ItOk K Z (.enum d) S (Ite K a) := by
  intro Z' σ2 S2 le R2 l hl i
  have hl' : (topD d S2.st).map (enumL 0) = some l := hl
  cases e0 : topD d S2.st with
  | none => rw [e0] at hl'; cases hl'
  | some ds =>
    rw [e0] at hl'; cases hl'
    obtain ⟨a', xs, e, rl, _, h2⟩ := R2.top (le.rp _ _ r) e0
    cases e
    have sq := h2 ht
    rw [enumL_get]
    cases e1 : ds[i]? with
    | none => exact ⟨fun _ => ⟨xs, sq, by rw [rl.length]; exact List.getElem?_eq_none_iff.mp e1⟩, fun x hx => by cases hx⟩
    | some y =>
      refine ⟨(fun z => by cases z), fun x hx => ?_⟩
      obtain ⟨v, hv, _⟩ := rl.get e1
      refine ⟨⟨xs, v, sq, hv⟩, ?_⟩
      cases hx
      rintro y H' ⟨T, x, rfl, hT, rfl, hy⟩
      refine ⟨ext_new hT, R2.newTup hT (.cons ?_ (.cons (rl.get_of e1 (hy xs sq)) .nil))⟩
      rw [Nat.zero_add]; exact rp_int
theorem zipL_get (xs ys : List D) (i : Nat) : (zipL xs ys)[i]? = match xs[i]?, ys[i]? with
    | some x, some y => some (.tup [x, y])
    | _, _ => none := by
  unfold zipL
  rw [List.getElem?_zipWith]
  cases xs[i]? <;> cases ys[i]? <;> rfl
theorem it_zip {d e : D} {a b : Addr} (r : Rp (S.wd K Z) d (.ref a)) (r' : Rp (S.wd K Z) e (.ref b)) (ht : isTup d = false) (ht' : isTup e = false) : ItOk K Z (.zip d e) S (Itz K a b) := by
  intro Z' σ2 S2 le R2 l hl i
  have hl' : ((topD d S2.st).bind fun xs => (topD e S2.st).map fun ys => zipL xs ys) = some l := hl
  cases e0 : topD d S2.st with
  | none => rw [e0] at hl'; cases hl'
  | some ds =>
    cases e1 : topD e S2.st with
    | none => rw [e0, e1] at hl'; cases hl'
    | some es =>
      rw [e0, e1] at hl'; cases hl'
      obtain ⟨a', xs, ea, rl, _, h2⟩ := R2.top (le.rp _ _ r) e0
      cases ea
      obtain ⟨b', ys, eb, rl', _, h3⟩ := R2.top (le.rp _ _ r') e1
      cases eb
      have sq := h2 ht
      have sq' := h3 ht'
      rw [zipL_get]
      cases e2 : ds[i]? with
      | none => exact ⟨fun _ => ⟨xs, ys, sq, sq', .inl (by rw [rl.length]; exact List.getElem?_eq_none_iff.mp e2)⟩, fun x hx => by cases hx⟩
      | some x =>
        cases e3 : es[i]? with
        | none => exact ⟨fun _ => ⟨xs, ys, sq, sq', .inr (by rw [rl'.length]; exact List.getElem?_eq_none_iff.mp e3)⟩, fun x hx => by cases hx⟩
        | some y =>
          refine ⟨(fun z => by cases z), fun x hx => ?_⟩
          obtain ⟨v, hv, _⟩ := rl.get e2
          obtain ⟨v', hv', _⟩ := rl'.get e3
          refine ⟨⟨xs, ys, v, v', sq, sq', hv, hv'⟩, ?_⟩
          cases hx
          rintro y H' ⟨T, x, z, rfl, hT, rfl, hx, hy⟩
          exact ⟨ext_new hT, R2.newTup hT (.cons (rl.get_of e2 (hx xs sq)) (.cons (rl'.get_of e3 (hy ys sq')) .nil))⟩
theorem it_zipT {d e : D} {a b : Addr} (r : Rp (S.wd K Z) d (.ref a)) (r' : Rp (S.wd K Z) e (.ref b)) (ht : isTup d = true) (ht' : isTup e = true) : ItOk K Z (.zip d e) S (RZ.ItzT K a b) := by
  intro Z' σ2 S2 le R2 l hl i
  have hl' : ((topD d S2.st).bind fun xs => (topD e S2.st).map fun ys => zipL xs ys) = some l := hl
  cases e0 : topD d S2.st with
  | none => rw [e0] at hl'; cases hl'
  | some ds =>
    cases e1 : topD e S2.st with
    | none => rw [e0, e1] at hl'; cases hl'
    | some es =>
      rw [e0, e1] at hl'; cases hl'
      obtain ⟨a', xs, ea, rl, h2, _⟩ := R2.top (le.rp _ _ r) e0
      cases ea
      obtain ⟨b', ys, eb, rl', h3, _⟩ := R2.top (le.rp _ _ r') e1
      cases eb
      have sq := h2 ht
      have sq' := h3 ht'
      rw [zipL_get]
      cases e2 : ds[i]? with
      | none => exact ⟨fun _ => ⟨xs, ys, sq, sq', .inl (by rw [rl.length]; exact List.getElem?_eq_none_iff.mp e2)⟩, fun x hx => by cases hx⟩
      | some x =>
        cases e3 : es[i]? with
        | none => exact ⟨fun _ => ⟨xs, ys, sq, sq', .inr (by rw [rl'.length]; exact List.getElem?_eq_none_iff.mp e3)⟩, fun x hx => by cases hx⟩
        | some y =>
          refine ⟨(fun z => by cases z), fun x hx => ?_⟩
          obtain ⟨v, hv, _⟩ := rl.get e2
          obtain ⟨v', hv', _⟩ := rl'.get e3
          refine ⟨⟨xs, ys, v, v', sq, sq', hv, hv'⟩, ?_⟩
          cases hx
          rintro y H' ⟨T, x, z, rfl, hT, rfl, hx, hy⟩
          exact ⟨ext_new hT, R2.newTup hT (.cons (rl.get_of e2 (hx xs sq)) (.cons (rl'.get_of e3 (hy ys sq')) .nil))⟩
theorem rpK_get {w : Wd} : ∀ {ds : List (Key × D)} {vs : List (Key × V)} {i : Nat}, RpK w ds vs → vs.length = ds.length ∧ ∀ kd, ds[i]? = some kd → ∃ v, vs[i]? = some (kd.1, v)
  | [], _, i, h => by rw [h.of_nil]; exact ⟨rfl, fun kd q => by simp at q⟩
  | (k, d) :: ds, _, 0, h => by
    obtain ⟨x, xs, rfl, h1, h2⟩ := h.of_cons
    exact ⟨by simp [(rpK_get (i := 0) h2).1], fun kd q => by simp at q; subst q; exact ⟨x, rfl⟩⟩
  | (k, d) :: ds, _, i + 1, h => by
    obtain ⟨x, xs, rfl, h1, h2⟩ := h.of_cons
    obtain ⟨l, g⟩ := rpK_get (i := i) h2
    exact ⟨by simp [l], fun kd q => by
      obtain ⟨v, e⟩ := g kd (by simpa using q)
      exact ⟨v, by simpa using e⟩⟩
theorem it_keys {kvs : List (Key × D)} {a : Addr} {o : Obj} {es : List (Key × V)} (hm : ¬ Mu Z S a) (h : S.H a = some (.frz o (.dK es))) (r : RpK (S.wd K Z) kvs es) : ItOk K Z (.keys kvs) S (Itk a o es) := by
  intro Z' σ2 S2 le R2 l hl i
  cases hl
  have h2 : S2.H a = some (.frz o (.dK es)) := (le.still a _ h hm).1
  obtain ⟨hlen, g⟩ := rpK_get (i := i) r
  rw [List.getElem?_map]
  cases e1 : kvs[i]? with
  | none => exact ⟨fun _ => ⟨h2, by rw [hlen]; exact List.getElem?_eq_none_iff.mp e1⟩, fun x hx => by cases hx⟩
  | some kd =>
    obtain ⟨v, hv⟩ := g kd e1
    refine ⟨(fun z => by cases z), fun x hx => ⟨⟨h2, ?_⟩, ?_⟩⟩
    · exact (List.getElem?_eq_some_iff.mp hv).1
    · cases hx
      rintro y H' ⟨rfl, k, u, hk, rfl⟩
      rw [hv] at hk; cases hk
      refine ⟨fun _ _ e => e, ?_⟩
      show Rp _ (dOf kd.1) (kV kd.1)
      cases kd.1 with
      | inl i => exact rp_int
      | inr z => exact rp_str
end
/-! ### the sources' rules -/
section
variable {X : Cx} {W : WX} {tg a b : Expr} {pos p : Pos}
theorem pi_any {l : Expr} {tl : TE} (hl : PE X l tl) : PI X tg l (fun σ H R => tl σ H fun x H1 => ∃ a, x = .ref a ∧ (((∃ xs, SqL X.K H1 a xs) ∧ R (Itl X.K a) H1) ∨ ((∃ xs, SqT X.K H1 a xs) ∧ R (Itt X.K a) H1))) := by
  refine ⟨fun pins s σ H R I h => ?_⟩
  refine thn (hl.run pins s σ H _ I h) fun v s1 ⟨x, H1, I1, r1, q1⟩ => ?_
  obtain ⟨a, e, q⟩ := q1
  subst e
  cases r1
  rcases q with ⟨⟨xs, hq⟩, q⟩ | ⟨⟨xs, hq⟩, q⟩
  · obtain ⟨its, rv, p, hz⟩ := I1.list hq
    refine wpAny_pyIter_list p.isList ?_
    refine ⟨s1.heap.objs.size, [s1.heap.objs.size], _, _, H1, rfl, I1.kept (t' := s1.toks) fun b o e => Heap.get?_push_of_some _ e, turn_list a _, ⟨_, Heap.get?_push_size _ rfl, rfl, rfl⟩, fun b hb => ?_, q⟩
    have e : b = s1.heap.objs.size := by simpa using hb
    subst e
    exact I1.fpOk (Nat.le_refl _) (I1.hok.fresh (Nat.le_refl _))
  · obtain ⟨its, rv, p, hz⟩ := I1.tuple hq
    refine wpAny_pyIter_tuple (show s1.heap.IsTuple a its.toArray from p) ?_
    refine ⟨s1.heap.objs.size, [s1.heap.objs.size], _, _, H1, rfl, I1.kept (t' := s1.toks) fun b o e => Heap.get?_push_of_some _ e, turn_tuple a _, ⟨_, Heap.get?_push_size _ rfl, rfl, rfl⟩, fun b hb => ?_, q⟩
    have e : b = s1.heap.objs.size := by simpa using hb
    subst e
    exact I1.fpOk (Nat.le_refl _) (I1.hok.fresh (Nat.le_refl _))
def seqM (m : M D) : M Src := bnd m fun d => fun e s => match topD d s with
  | some _ => .ok (.seq d) e s
  | none => .bad
theorem it_seq {m : M D} (h : PEv X W a m) : PIt X W tg a (seqM m) := by
  refine PI.weak (pi_any h) fun σ H Q q => ?_
  obtain ⟨Z, S, rfl, R, hw⟩ := q
  refine ⟨Z, S, rfl, R, Wp.bnd hw fun d S1 R1 T1 h1 v r1 => ?_⟩
  cases e1 : topD d S1.st with
  | none => rw [e1] at h1; exact h1.elim
  | some ds =>
    rw [e1] at h1
    obtain ⟨a, xs, e, rl, ht, hl⟩ := R1.top r1 e1
    subst e
    refine ⟨a, rfl, ?_⟩
    cases e2 : isTup d with
    | false => exact .inl ⟨⟨xs, hl e2⟩, h1.here R1 _ (it_lst r1 e2)⟩
    | true => exact .inr ⟨⟨xs, ht e2⟩, h1.here R1 _ (it_tup r1 e2)⟩
/-- told so that the kernel stops at once where the number is not known -/
def rngOk (n : Int) : Bool := Nat.ble n.toNat 4611686018427387903 && Nat.ble (-n).toNat 4611686018427387903
theorem rngOk_ok {n : Int} (h : rngOk n = true) : -(2 ^ 62) ≤ n ∧ n < 2 ^ 62 := by
  unfold rngOk at h
  rw [Bool.and_eq_true] at h
  have h1 := Nat.le_of_ble_eq_true h.1
  have h2 := Nat.le_of_ble_eq_true h.2
  omega
def rg1S (m : M (List D)) : M Src := bnd m fun ds => match ds with
  | [.int n] => chk (rngOk n) (rt (.rng 0 n.toNat))
  | _ => fail
theorem it_rg1 {m : M (List D)} (hg : Gl X "range") (hm : X.mg "range" = none) (h : PAv X W [a] m) (hs : starEach [a] X.env = [(false, eval a X.env)] := by rfl) : PIt X W tg (.Call (.Name "range" p) [a] [] pos) (rg1S m) := by
  refine PI.weak (pi_range1 hg hm h hs) fun σ H Q q => ?_
  obtain ⟨Z, S, rfl, R, hw⟩ := q
  refine ⟨Z, S, rfl, R, Wp.bnd hw fun ds S1 R1 T1 h1 vs r1 => ?_⟩
  split at h1
  · rename_i n
    obtain ⟨hb, h2⟩ := h1.chk
    have hb' := rngOk_ok hb
    exact ⟨n, r1.of_ints (ns := [n]), hb'.1, hb'.2, h2.here R1 _ it_rng⟩
  · exact h1.elim
def rg2S (m : M (List D)) : M Src := bnd m fun ds => match ds with
  | [.int i, .int j] => chk (rngOk i && rngOk j) (rt (.rng i (j - i).toNat))
  | _ => fail
theorem it_rg2 {m : M (List D)} (hg : Gl X "range") (hm : X.mg "range" = none) (h : PAv X W [a, b] m) (hs : starEach [a, b] X.env = [(false, eval a X.env), (false, eval b X.env)] := by rfl) (hs2 : starEach [b] X.env = [(false, eval b X.env)] := by rfl) : PIt X W tg (.Call (.Name "range" p) [a, b] [] pos) (rg2S m) := by
  refine PI.weak (pi_range2 hg hm h hs hs2) fun σ H Q q => ?_
  obtain ⟨Z, S, rfl, R, hw⟩ := q
  refine ⟨Z, S, rfl, R, Wp.bnd hw fun ds S1 R1 T1 h1 vs r1 => ?_⟩
  split at h1
  · rename_i i j
    obtain ⟨hb, h2⟩ := h1.chk
    have hb1 := rngOk_ok (Bool.and_eq_true_iff.mp hb).1
    have hb2 := rngOk_ok (Bool.and_eq_true_iff.mp hb).2
    have hb' := (⟨hb1.1, hb1.2, hb2.1, hb2.2⟩ : -(2 ^ 62) ≤ i ∧ i < 2 ^ 62 ∧ -(2 ^ 62) ≤ j ∧ j < 2 ^ 62)
    exact ⟨i, j, r1.of_ints (ns := [i, j]), hb', h2.here R1 _ it_rng⟩
  · exact h1.elim
def enumM (m : M (List D)) : M Src := bnd m fun ds => fun e s => match ds with
  | [d] => match isTup d, topD d s with
    | false, some _ => .ok (.enum d) e s
    | _, _ => .bad
  | _ => .bad
theorem it_enumr {m : M (List D)} {tpos : Pos} {elts : List Expr} {kk : Nat} (hg : Gl X "enumerate") (hm : X.mg "enumerate" = none) (h : PAv X W [a] m) (hs : starEach [a] X.env = [(false, eval a X.env)] := by rfl) : PIt X W (.Tuple elts kk tpos) (.Call (.Name "enumerate" p) [a] [] pos) (enumM m) := by
  refine PI.weak (pi_enum hg hm h hs) fun σ H Q q => ?_
  obtain ⟨Z, S, rfl, R, hw⟩ := q
  refine ⟨Z, S, rfl, R, Wp.bnd hw fun ds S1 R1 T1 h1 vs r1 => ?_⟩
  match ds, h1, r1 with
  | [d], h1, r1 =>
    obtain ⟨v, vs', rfl, r2, r3⟩ := r1.of_cons
    rw [r3.of_nil]
    cases e2 : isTup d with
    | true => dsimp only at h1; rw [e2] at h1; exact h1.elim
    | false =>
      dsimp only at h1
      rw [e2] at h1
      cases e1 : topD d S1.st with
      | none => rw [e1] at h1; exact h1.elim
      | some ds =>
        rw [e1] at h1
        obtain ⟨a, xs, e, rl, ht, hl⟩ := R1.top r2 e1
        subst e
        exact ⟨a, xs, rfl, hl e2, h1.here R1 _ (it_enum r2 e2)⟩
  | [], h1, _ => exact h1.elim
  | _ :: _ :: _, h1, _ => exact h1.elim
def zipM (m : M (List D)) : M Src := bnd m fun ds => fun e s => match ds with
  | [x, y] => match (isTup x == isTup y), topD x s, topD y s with
    | true, some _, some _ => .ok (.zip x y) e s
    | _, _, _ => .bad
  | _ => .bad
theorem it_zipr {m : M (List D)} {tpos : Pos} {elts : List Expr} {kk : Nat} (hg : Gl X "zip") (hm : X.mg "zip" = none) (h : PAv X W [a, b] m)
    (hs : starEach [a, b] X.env = (false, eval a X.env) :: starEach [b] X.env := by rfl) (hpl : (backTo pos (starEach [b] X.env)).any (·.1) = false := by rfl) : PIt X W (.Tuple elts kk tpos) (.Call (.Name "zip" p) [a, b] [] pos) (zipM m) := by
  refine PI.weak (RZ.pi_zipA hg hm h hs hpl) fun σ H Q q => ?_
  obtain ⟨Z, S, rfl, R, hw⟩ := q
  refine ⟨Z, S, rfl, R, Wp.bnd hw fun ds S1 R1 T1 h1 vs r1 => ?_⟩
  match ds, h1, r1 with
  | [x, y], h1, r1 =>
    obtain ⟨v, vs', rfl, r2, r3⟩ := r1.of_cons
    obtain ⟨v2, vs2, rfl, r4, r5⟩ := r3.of_cons
    rw [r5.of_nil]
    dsimp only at h1
    cases e1 : topD x S1.st with
    | none => rw [e1] at h1; split at h1 <;> first | contradiction | exact h1.elim
    | some ds =>
      cases e2 : topD y S1.st with
      | none => rw [e1, e2] at h1; split at h1 <;> first | contradiction | exact h1.elim
      | some es =>
        rw [e1, e2] at h1
        obtain ⟨a, xs, e, rl, ht, hl⟩ := R1.top r2 e1
        subst e
        obtain ⟨b, ys, e, rl', ht', hl'⟩ := R1.top r4 e2
        subst e
        cases t1 : isTup x <;> cases t2 : isTup y <;> rw [t1, t2] at h1
        · exact ⟨a, b, xs, ys, rfl, .inl ⟨hl t1, hl' t2, h1.here R1 _ (it_zip r2 r4 t1 t2)⟩⟩
        · exact h1.elim
        · exact h1.elim
        · exact ⟨a, b, xs, ys, rfl, .inr ⟨ht t1, ht' t2, h1.here R1 _ (it_zipT r2 r4 t1 t2)⟩⟩
  | [], h1, _ => exact h1.elim
  | [_], h1, _ => exact h1.elim
  | _ :: _ :: _ :: _, h1, _ => exact h1.elim
def keysM (m : M D) : M Src := bnd m fun d => match d with
  | .dct kvs => rt (.keys kvs)
  | _ => fail
theorem it_keysr {m : M D} (h : PEv X W a m) : PIt X W tg a (keysM m) := by
  refine PI.weak (pi_keys h) fun σ H Q q => ?_
  obtain ⟨Z, S, rfl, R, hw⟩ := q
  refine ⟨Z, S, rfl, R, Wp.bnd hw fun d S1 R1 T1 h1 v r1 => ?_⟩
  split at h1
  · rename_i kvs
    have r1' : Rp (S1.wd X.K Z) (.dct kvs) v := r1
    unfold Rp at r1'
    obtain ⟨a, es, rfl, ⟨hm, o, ho⟩, rk⟩ := r1'
    exact ⟨a, o, rfl, .inl ⟨es, ho, h1.here R1 _ (it_keys hm ho rk)⟩⟩
  · exact h1.elim
end
end QB

/-! The pure layer, part 11: statements. -/
namespace QB
open PySem PySem.Spec PyProof.Rows L2

inductive SR where
  | nx (e : PEnv) (s : Store) | ret (d : D) (e : PEnv) (s : Store) | bk (e : PEnv) (s : Store) | ct (e : PEnv) (s : Store) | exc (x : Exn) (e : PEnv) (s : Store) | bad
abbrev SM := PEnv → Store → SR
def Res.toS {α : Type} (r : Res α) (f : α → SM) : SR := match r with
  | .ok a e s => f a e s
  | .exc x e s => .exc x e s
  | .bad => .bad
def SR.andThen (r : SR) (f : SM) : SR := match r with
  | .nx e s => f e s
  | r => r
section
variable {α : Type} {f : α → SM} {g : SM} {a : α} {e : PEnv} {s : Store} {x : Exn} {d : D}
@[simp] theorem toS_ok : (Res.ok a e s).toS f = f a e s := rfl
@[simp] theorem toS_exc : (Res.exc x e s : Res α).toS f = .exc x e s := rfl
@[simp] theorem toS_bad : (Res.bad : Res α).toS f = .bad := rfl
@[simp] theorem then_nx : (SR.nx e s).andThen g = g e s := rfl
@[simp] theorem then_ret : (SR.ret d e s).andThen g = .ret d e s := rfl
@[simp] theorem then_bk : (SR.bk e s).andThen g = .bk e s := rfl
@[simp] theorem then_ct : (SR.ct e s).andThen g = .ct e s := rfl
@[simp] theorem then_exc : (SR.exc x e s).andThen g = .exc x e s := rfl
@[simp] theorem then_bad : SR.bad.andThen g = .bad := rfl
end
def WpS (K : PySem.W.Frag) (mg : Str → Option Value) (W : WX) (Z : Addr → Prop) (S : S8) (r : SR) (D : Ends) : Prop := match r with
  | .nx e s => ∀ (σ' : L2.St) (S' : S8), S'.env = e → S'.st = s → Rel K Z σ' S' → Tr S S' → D.nx σ' S'.H
  | .bk e s => ∀ (σ' : L2.St) (S' : S8), S'.env = e → S'.st = s → Rel K Z σ' S' → Tr S S' → D.bk σ' S'.H
  | .ct e s => ∀ (σ' : L2.St) (S' : S8), S'.env = e → S'.st = s → Rel K Z σ' S' → Tr S S' → D.ct σ' S'.H
  | .ret d e s => ∀ (σ' : L2.St) (S' : S8), S'.env = e → S'.st = s → Rel K Z σ' S' → Tr S S' → ∀ v, Rp (S'.wd K Z) d v → D.rt v S'.H
  | .exc x e s => ∀ (σ' : L2.St) (S' : S8), S'.env = e → S'.st = s → Rel K Z σ' S' → Tr S S' → Qx K mg W Z σ' x S'
  | .bad => False
section
variable {K : PySem.W.Frag} {mg : Str → Option Value} {W : WX} {Z : Addr → Prop} {σ : L2.St} {S S1 : S8} {α : Type}
theorem WpS.from {r : SR} {D : Ends} (h : WpS K mg W Z S r D) (t : Tr S S1) : WpS K mg W Z S1 r D := by
  cases r with
  | nx e s => exact fun σ' S' h1 h2 R T => h σ' S' h1 h2 R (t.trans T)
  | bk e s => exact fun σ' S' h1 h2 R T => h σ' S' h1 h2 R (t.trans T)
  | ct e s => exact fun σ' S' h1 h2 R T => h σ' S' h1 h2 R (t.trans T)
  | ret d e s => exact fun σ' S' h1 h2 R T => h σ' S' h1 h2 R (t.trans T)
  | exc x e s => exact fun σ' S' h1 h2 R T => h σ' S' h1 h2 R (t.trans T)
  | bad => exact h
theorem WpS.bnd {m : M α} {f : α → SM} {D : Ends} {Q' : α → S8 → Prop} (h : WpS K mg W Z S ((m S.env S.st).toS f) D)
    (k : ∀ a S', Rel K Z σ S' → Tr S S' → WpS K mg W Z S' (f a S'.env S'.st) D → Q' a S') : Wp K Z σ S (m S.env S.st) Q' (Qx K mg W Z σ) := by
  cases e : m S.env S.st with
  | ok a e' s' =>
    rw [e] at h
    intro S' h1 h2 R T
    refine k a S' R T ?_
    rw [h1, h2]
    exact WpS.from h T
  | exc x e' s' => rw [e] at h; exact h σ
  | bad => rw [e] at h; exact h
end
def tS (K : PySem.W.Frag) (mg : Str → Option Value) (W : WX) (m : SM) : TS := fun D σ H => ∃ Z S, S.H = H ∧ Rel K Z σ S ∧ WpS K mg W Z S (m S.env S.st) D
def PSv (X : Cx) (W : WX) (st : Stmt) (m : SM) : Prop := PS X st (tS X.K X.mg W m)
def PSsv (X : Cx) (W : WX) (st : List Stmt) (m : SM) : Prop := PSs X st (tS X.K X.mg W m)
/-- what is assigned to -/
def WpU (K : PySem.W.Frag) (mg : Str → Option Value) (W : WX) (Z : Addr → Prop) (S : S8) (r : Res Unit) (Q : L2.St → Hp → Prop) : Prop := match r with
  | .ok _ e s => ∀ (σ' : L2.St) (S' : S8), S'.env = e → S'.st = s → Rel K Z σ' S' → Tr S S' → Q σ' S'.H
  | .exc x e s => ∀ (σ' : L2.St) (S' : S8), S'.env = e → S'.st = s → Rel K Z σ' S' → Tr S S' → Qx K mg W Z σ' x S'
  | .bad => False
section
variable {K : PySem.W.Frag} {mg : Str → Option Value} {W : WX} {Z : Addr → Prop} {σ : L2.St} {S S1 : S8} {α : Type}
theorem WpU.from {r : Res Unit} {Q : L2.St → Hp → Prop} (h : WpU K mg W Z S r Q) (t : Tr S S1) : WpU K mg W Z S1 r Q := by
  cases r with
  | ok _ e s => exact fun σ' S' h1 h2 R T => h σ' S' h1 h2 R (t.trans T)
  | exc x e s => exact fun σ' S' h1 h2 R T => h σ' S' h1 h2 R (t.trans T)
  | bad => exact h
theorem WpU.bnd {m : M α} {f : α → M Unit} {Q : L2.St → Hp → Prop} {Q' : α → S8 → Prop} (h : WpU K mg W Z S ((m S.env S.st).andThen f) Q)
    (k : ∀ a S', Rel K Z σ S' → Tr S S' → WpU K mg W Z S' (f a S'.env S'.st) Q → Q' a S') : Wp K Z σ S (m S.env S.st) Q' (Qx K mg W Z σ) := by
  cases e : m S.env S.st with
  | ok a e' s' =>
    rw [e] at h
    intro S' h1 h2 R T
    refine k a S' R T ?_
    rw [h1, h2]
    exact WpU.from h T
  | exc x e' s' => rw [e] at h; exact h σ
  | bad => rw [e] at h; exact h
/-- a target, then the rest -/
theorem WpS.ofU {r : Res Unit} {f : Unit → SM} {D : Ends} (h : WpS K mg W Z S (r.toS f) D) : WpU K mg W Z S r (fun σ' H' => ∃ S', S'.H = H' ∧ Rel K Z σ' S' ∧ WpS K mg W Z S' (f () S'.env S'.st) D) := by
  cases r with
  | ok a e s =>
    intro σ' S' h1 h2 R T
    refine ⟨S', rfl, R, ?_⟩
    rw [h1, h2]; exact WpS.from h T
  | exc x e s => exact h
  | bad => exact h
theorem WpU.imp {r : Res Unit} {Q Q' : L2.St → Hp → Prop} (h : WpU K mg W Z S r Q) (k : ∀ σ' H', Q σ' H' → Q' σ' H') : WpU K mg W Z S r Q' := by
  cases r with
  | ok _ e s => exact fun σ' S' h1 h2 R T => k _ _ (h σ' S' h1 h2 R T)
  | exc x e s => exact h
  | bad => exact h
end
/-- only slots in ts differ -/
def Agr (ts : List Nat) (σ σ' : L2.St) : Prop := σ'.length = σ.length ∧ ∀ j, j ∉ ts → σ'[j]? = σ[j]?
theorem Agr.refl (σ : L2.St) : Agr [] σ σ := ⟨rfl, fun _ _ => rfl⟩
theorem Agr.trans {ts us : List Nat} {σ σ1 σ2 : L2.St} (a : Agr ts σ σ1) (b : Agr us σ1 σ2) : Agr (ts ++ us) σ σ2 :=
  ⟨b.1.trans a.1, fun j h => (b.2 j fun z => h (List.mem_append_right _ z)).trans (a.2 j fun z => h (List.mem_append_left _ z))⟩
theorem Agr.set {σ : L2.St} {i : Nat} {v : Option V} : Agr [i] σ (σ.set i v) := ⟨List.length_set, fun j h => List.getElem?_set_ne fun e => h (by rw [e]; simp)⟩
def tTg (K : PySem.W.Frag) (mg : Str → Option Value) (W : WX) (ts : List Nat) (f : D → M Unit) : TG := fun v σ H Q => ∃ Z S d, S.H = H ∧ Rel K Z σ S ∧ Rp (S.wd K Z) d v ∧ WpU K mg W Z S (f d S.env S.st) (fun σ' H' => Agr ts σ σ' → Q σ' H')
def PTg (X : Cx) (W : WX) (tg : Expr) (ts : List Nat) (f : D → M Unit) : Prop := PG X tg (tTg X.K X.mg W ts f)
def tTgs (K : PySem.W.Frag) (mg : Str → Option Value) (W : WX) (ts : List Nat) (f : List D → M Unit) : TGs := fun vs σ H Q => ∃ Z S ds, S.H = H ∧ Rel K Z σ S ∧ RpL (S.wd K Z) ds vs ∧ WpU K mg W Z S (f ds S.env S.st) (fun σ' H' => Agr ts σ σ' → Q σ' H')
def PTgs (X : Cx) (W : WX) (tg : List Expr) (ts : List Nat) (f : List D → M Unit) : Prop := PGs X tg (tTgs X.K X.mg W ts f)
theorem PG.weak {X : Cx} {e : Expr} {t t' : TG} (h : PG X e t) (k : ∀ v σ H Q, t' v σ H Q → t v σ H Q) : PG X e t' := ⟨fun pins s σ H v u Q I r q => h.run pins s σ H v u Q I r (k v σ H Q q)⟩
theorem PGs.weak {X : Cx} {e : List Expr} {t t' : TGs} (h : PGs X e t) (k : ∀ v σ H Q, t' v σ H Q → t v σ H Q) : PGs X e t' := ⟨fun pins s σ H v u Q I r q => h.run pins s σ H v u Q I r (k v σ H Q q)⟩

/-! ### a slot set -/
section
variable {K : PySem.W.Frag} {Z : Addr → Prop} {σ : L2.St} {S : S8}
abbrev S8.putSlot (S : S8) (i : Nat) (d : D) : S8 := { S with env := S.env.set i (.val d) }
theorem cont_slot {i : Nat} {d : D} : ∀ {p : Pl} {c : Cell}, (S.putSlot i d).cont p = some c → S.cont p = some c ∧ p ≠ .inl i
  | .inr k, c, h => ⟨h, fun z => by cases z⟩
  | .inl j, c, h => by
    have h' : (match (S.env.set i (.val d))[j]? with | some (.own c) => some c | _ => none) = some c := h
    by_cases e : i = j
    · subst e
      by_cases l : i < S.env.length
      · rw [List.getElem?_set_self l] at h'; cases h'
      · rw [List.getElem?_eq_none (by simp; omega)] at h'; cases h'
    · rw [List.getElem?_set_ne e] at h'
      exact ⟨h', fun z => by cases z; exact e rfl⟩
theorem le_slot {i : Nat} {d : D} : (S.wd K Z).Le ((S.putSlot i d).wd K Z) := by
  refine ⟨rfl, fun a o e m => ⟨e, ?_⟩, Nat.le_refl _, fun _ _ => rfl⟩
  rintro (z | ⟨q, c, hq, eq⟩)
  · exact m (.inl z)
  · exact m (.inr ⟨q, c, (cont_slot hq).1, eq⟩)
theorem Tr.slot {i : Nat} {d : D} : Tr S (S.putSlot i d) where
  dom := fun _ h => h
  keep := fun _ _ h _ => h
  fresh := fun p c h => .inl ⟨p, c, (cont_slot h).1, rfl⟩
  n := Nat.le_refl _
  c := fun _ _ => rfl
theorem Rel.slot (R : Rel K Z σ S) {i : Nat} {d : D} {v : V} (r : Rp (S.wd K Z) d v) : Rel K Z (σ.set i (some v)) (S.putSlot i d) where
  len := by simp [R.len]
  val := fun j e h => by
    have h' : (S.env.set i (.val d))[j]? = some (.val e) := h
    by_cases ij : i = j
    · subst ij
      by_cases l : i < S.env.length
      · rw [List.getElem?_set_self l] at h'
        cases h'
        exact ⟨v, List.getElem?_set_self (by rw [← R.len]; exact l), le_slot.rp _ _ r⟩
      · rw [List.getElem?_eq_none (by simp; omega)] at h'; cases h'
    · rw [List.getElem?_set_ne ij] at h'
      obtain ⟨u, e1, r1⟩ := R.val j e h'
      exact ⟨u, by rw [List.getElem?_set_ne ij]; exact e1, le_slot.rp _ _ r1⟩
  own := fun j c h => by
    have h' : (S.env.set i (.val d))[j]? = some (.own c) := h
    by_cases ij : i = j
    · subst ij
      by_cases l : i < S.env.length
      · rw [List.getElem?_set_self l] at h'; cases h'
      · rw [List.getElem?_eq_none (by simp; omega)] at h'; cases h'
    · rw [List.getElem?_set_ne ij] at h'
      rw [List.getElem?_set_ne ij]; exact R.own j c h'
  cell := fun p c h => le_slot.cell rfl (R.cell p c (cont_slot h).1)
  inj := fun p q c d hp hq e => R.inj p q c d (cont_slot hp).1 (cont_slot hq).1 e
  zf := fun p c h => R.zf p c (cont_slot h).1
  zt := R.zt
end
/-! ### a cell set -/
section
variable {K : PySem.W.Frag} {Z : Addr → Prop} {σ : L2.St} {S : S8}
abbrev S8.putCell (S : S8) (k : Nat) (c : Cell) (o : HO) : S8 := ⟨S.env, S.st.set k c, S.ad, upd S.H (S.ad (.inr k)) o⟩
theorem cont_put {k : Nat} {c0 c : Cell} {o : HO} (h0 : S.st[k]? = some c0) : ∀ {p : Pl} {d : Cell}, (S.putCell k c o).cont p = some d → (p = .inr k ∧ d = c) ∨ (p ≠ .inr k ∧ S.cont p = some d)
  | .inl j, d, h => .inr ⟨(fun z => by cases z), h⟩
  | .inr j, d, h => by
    have h' : (S.st.set k c)[j]? = some d := h
    have l : k < S.st.length := (List.getElem?_eq_some_iff.mp h0).1
    by_cases e : k = j
    · subst e
      rw [List.getElem?_set_self l] at h'
      exact .inl ⟨rfl, (by cases h'; rfl)⟩
    · rw [List.getElem?_set_ne e] at h'
      exact .inr ⟨(fun z => by cases z; exact e rfl), h'⟩
theorem le_put {k : Nat} {c0 c : Cell} {o : HO} (h0 : S.st[k]? = some c0) : (S.wd K Z).Le ((S.putCell k c o).wd K Z) := by
  refine ⟨rfl, fun a u e m => ⟨?_, ?_⟩, by show S.st.length ≤ (S.st.set k c).length; simp, fun _ _ => rfl⟩
  · have n : a ≠ S.ad (.inr k) := fun z => m (.inr ⟨.inr k, c0, h0, z.symm⟩)
    show upd S.H (S.ad (.inr k)) o a = some u
    rw [upd_ne n]; exact e
  · rintro (z | ⟨q, d, hq, eq⟩)
    · exact m (.inl z)
    · rcases cont_put h0 hq with ⟨rfl, _⟩ | ⟨_, h2⟩
      · exact m (.inr ⟨.inr k, c0, h0, eq⟩)
      · exact m (.inr ⟨q, d, h2, eq⟩)
theorem Tr.put {k : Nat} {c0 c : Cell} {o : HO} (h0 : S.st[k]? = some c0) : Tr S (S.putCell k c o) where
  dom := fun a h => by
    by_cases e : a = S.ad (.inr k)
    · subst e; show upd S.H _ o _ ≠ none; rw [upd_same]; intro z; cases z
    · show upd S.H _ o a ≠ none; rw [upd_ne e]; exact h
  keep := fun a u h n => by
    have e : a ≠ S.ad (.inr k) := fun z => n (.inr k) c0 h0 z.symm
    show upd S.H _ o a = some u
    rw [upd_ne e]; exact h
  fresh := fun p d h => by
    rcases cont_put h0 h with ⟨rfl, _⟩ | ⟨_, h2⟩
    · exact .inl ⟨.inr k, c0, h0, rfl⟩
    · exact .inl ⟨p, d, h2, rfl⟩
  n := by show S.st.length ≤ (S.st.set k c).length; simp
  c := fun _ _ => rfl
theorem Rel.put (R : Rel K Z σ S) {k : Nat} {c0 c : Cell} {o : HO} (h0 : S.st[k]? = some c0) (hc : ∀ w' : Wd, (S.wd K Z).Le w' → w'.H (S.ad (.inr k)) = some o → CellAt w' c (S.ad (.inr k))) : Rel K Z σ (S.putCell k c o) where
  len := R.len
  val := fun i d h => let ⟨v, e, r⟩ := R.val i d h; ⟨v, e, (le_put h0).rp d v r⟩
  own := R.own
  cell := fun p d h => by
    rcases cont_put h0 h with ⟨rfl, rfl⟩ | ⟨hn, h2⟩
    · exact hc _ (le_put h0) upd_same
    · refine (le_put h0).cell ?_ (R.cell p d h2)
      have : S.ad p ≠ S.ad (.inr k) := fun e => hn (R.inj p (.inr k) d c0 h2 h0 e)
      show upd S.H _ o (S.ad p) = S.H (S.ad p)
      exact upd_ne this
  inj := fun p q c1 c2 hp hq e => by
    rcases cont_put h0 hp with ⟨rfl, _⟩ | ⟨_, h1⟩ <;> rcases cont_put h0 hq with ⟨rfl, _⟩ | ⟨_, h2⟩
    · rfl
    · exact R.inj _ _ _ _ h0 h2 e
    · exact R.inj _ _ _ _ h1 h0 e
    · exact R.inj _ _ _ _ h1 h2 e
  zf := fun p d h => by
    rcases cont_put h0 h with ⟨rfl, _⟩ | ⟨_, h2⟩
    · exact R.zf _ _ h0
    · exact R.zf p d h2
  zt := fun a z => (Tr.put h0).dom a (R.zt a z)
end

section
variable {X : Cx} {W : WX} {pos : Pos} {e a : Expr}
/-! ### targets -/
def setM (i : Nat) (d : D) : M Unit := fun e s => .ok () (e.set i (.val d)) s
theorem tg_name {x : Str} (i : Nat) (hN : X.N.Nodup) (hi : X.N[i]? = some x) (hx : Loc X.env.scope x) (hf : X.fn x = true ∨ X.env.scope.names.lookup x = some .local := by first | exact .inl rfl | exact .inr rfl | assumption) : PTg X W (.Name x pos) [i] (setM i) := by
  refine PG.weak (pg_name hN hi hx hf) fun v σ H Q q => ?_
  obtain ⟨Z, S, d, rfl, R, r, hw⟩ := q
  exact hw _ (S.putSlot i d) rfl rfl (R.slot r) Tr.slot Agr.set
def consT (f : D → M Unit) (g : List D → M Unit) : List D → M Unit
  | d :: ds => bnd (f d) fun _ => g ds
  | [] => fail
def nilT : List D → M Unit
  | [] => rt ()
  | _ :: _ => fail
theorem tgs_nil : PTgs X W [] [] nilT := by
  refine PGs.weak pgs_nil fun vs σ H Q q => ?_
  obtain ⟨Z, S, ds, rfl, R, r, hw⟩ := q
  cases ds with
  | cons _ _ => exact hw.elim
  | nil => exact ⟨r.of_nil, hw σ S rfl rfl R (Tr.refl S) (Agr.refl σ)⟩
theorem tgs_cons {es : List Expr} {ts us : List Nat} {f : D → M Unit} {g : List D → M Unit} (h : PTg X W e ts f) (h' : PTgs X W es us g)
    (ha : (assignEach (e :: es) X.env).map (·.2) = assign e X.env :: (assignEach es X.env).map (·.2) := by rfl) : PTgs X W (e :: es) (ts ++ us) (consT f g) := by
  refine PGs.weak (pgs_cons h h' ha) fun vs σ H Q q => ?_
  obtain ⟨Z, S, ds, rfl, R, r, hw⟩ := q
  cases ds with
  | nil => exact hw.elim
  | cons d ds =>
    obtain ⟨v, vs', rfl, r1, r2⟩ := r.of_cons
    refine ⟨v, vs', rfl, Z, S, d, rfl, R, r1, ?_⟩
    have hw' : WpU X.K X.mg W Z S ((f d S.env S.st).andThen fun _ => g ds) (fun σ' H' => Agr (ts ++ us) σ σ' → Q σ' H') := hw
    cases e1 : f d S.env S.st with
    | ok u e' s' =>
      rw [e1] at hw'
      intro σ' S' h1 h2 R' T ag
      refine ⟨Z, S', ds, rfl, R', T.rpL r2, ?_⟩
      rw [h1, h2]; exact WpU.imp (WpU.from hw' T) fun σ2 H2 q ag2 => q (ag.trans ag2)
    | exc x e' s' => rw [e1] at hw'; exact hw'
    | bad => rw [e1] at hw'; exact hw'
def tupT (n : Nat) (g : List D → M Unit) : D → M Unit
  | .tup ds => if ds.length = n then g ds else fail
  | _ => fail
theorem tg_tup {es : List Expr} {k n : Nat} {ts : List Nat} {g : List D → M Unit} (hc : X.calm = true) (h : PTgs X W es ts g) (h1 : (assignEach es X.env).length = n := by rfl) (h2 : (assignEach es X.env).findIdx? (·.1) = none := by rfl) :
    PTg X W (.Tuple es k pos) ts (tupT n g) := by
  refine PG.weak (pg_tup hc h h1 h2) fun v σ H Q q => ?_
  obtain ⟨Z, S, d, rfl, R, r, hw⟩ := q
  cases d with
  | tup ds =>
    have hw' : WpU X.K X.mg W Z S ((if ds.length = n then g ds else fail) S.env S.st) (fun σ' H' => Agr ts σ σ' → Q σ' H') := hw
    by_cases hl : ds.length = n
    · rw [if_pos hl] at hw'
      unfold Rp at r
      obtain ⟨a, xs, rfl, h1, h2⟩ := r
      exact ⟨a, xs, rfl, h1.sq, h2.length.trans hl, Z, S, ds, rfl, R, h2, hw'⟩
    · rw [if_neg hl] at hw'; exact hw'.elim
  | _ => exact hw.elim
/-- o[i] = d, o a cell -/
def putC (c : Cell) (i d : D) : Option Cell := match c with
  | .lst ds => match i with
    | .int j => (ixN ds.length j).map fun n => .lst (ds.set n d)
    | _ => none
  | .dct kvs => (keyOf i).bind fun kk => if szOk (kvs.length + 1) = true then some (.dct (putD kvs kk d)) else none
/-- a cell changed -/
def updM (o : D) (f : Cell → Option Cell) : M Unit := fun e s => match o with
  | .ref k => match s[k]? with
    | some c => match f c with
      | some c' => .ok () e (s.set k c')
      | none => .bad
    | none => .bad
  | _ => .bad
theorem updM_ref {k : Nat} {f : Cell → Option Cell} {e : PEnv} {s : Store} : updM (.ref k) f e s = match s[k]? with
    | some c => match f c with
      | some c' => .ok () e (s.set k c')
      | none => .bad
    | none => .bad := rfl
def putS (o i d : D) : M Unit := updM o fun c => putC c i d
def rSetA : TSet := fun o i v H Q => rSetL o i v H Q ∨ L2.rSetD o i v H Q
theorem set_any (hu : X.A.units + 1 < cLine) : PSet X rSetA := fun pins s σ H o i v ov iv u Q I r1 r2 r3 q => q.elim (set_list pins s σ H o i v ov iv u Q I r1 r2 r3) (L2.set_dict hu pins s σ H o i v ov iv u Q I r1 r2 r3)
theorem szOk_lt {n : Nat} (h : szOk (n + 1) = true) : n < sizeLine := szOk_le h
theorem keyOf_rp {w : Wd} {d : D} {k : Key} {v : V} (e : keyOf d = some k) (r : Rp w d v) : v = kV k := by
  cases d with
  | int i => cases e; unfold Rp at r; exact r
  | str s => cases e; unfold Rp at r; exact r
  | _ => cases e
theorem put_go {Z : Addr → Prop} {σ : L2.St} {S : S8} {o i d : D} {ov iv v : V} {Q : L2.St → Hp → Prop} (R : Rel X.K Z σ S) (ro : Rp (S.wd X.K Z) o ov) (ri : Rp (S.wd X.K Z) i iv) (rv : Rp (S.wd X.K Z) d v)
    (hw : WpU X.K X.mg W Z S (putS o i d S.env S.st) Q) : rSetA ov iv v S.H fun H' => Q σ H' := by
  cases o with
  | ref k =>
    unfold Rp at ro
    obtain ⟨hk, rfl⟩ := ro
    unfold putS at hw
    rw [updM_ref] at hw
    cases e1 : S.st[k]? with
    | none => rw [e1] at hw; exact hw.elim
    | some c =>
      rw [e1] at hw
      dsimp only at hw
      cases e5 : putC c i d with
      | none => rw [e5] at hw; exact hw.elim
      | some c' =>
        rw [e5] at hw
        dsimp only at hw
        cases c with
        | lst ds =>
          cases i with
          | int j =>
            have e6 : (ixN ds.length j).map (fun n => Cell.lst (ds.set n d)) = some c' := e5
            obtain ⟨xs, e2, r2⟩ := R.cell (.inr k) _ e1
            unfold Rp at ri
            cases e3 : ixN ds.length j with
            | none => rw [e3] at e6; cases e6
            | some n =>
              rw [e3] at e6; cases e6
              refine .inl ⟨_, xs, j, n, rfl, ri, e2, by rw [r2.length]; exact e3, ?_⟩
              exact hw σ (S.putCell k (.lst (ds.set n d)) (.lst (xs.set n v))) rfl rfl (R.put e1 fun w' le e => ⟨_, e, (le.rpL _ _ r2).set (le.rp _ _ rv) n⟩) (Tr.put e1)
          | _ => cases e5
        | dct kvs =>
          have e6 : ((keyOf i).bind fun kk => if szOk (kvs.length + 1) = true then some (Cell.dct (putD kvs kk d)) else none) = some c' := e5
          cases e3 : keyOf i with
          | none => rw [e3] at e6; cases e6
          | some kk =>
            rw [e3] at e6
            simp only [Option.bind] at e6
            split at e6
            · rename_i e4
              cases e6
              obtain ⟨es, e2, r2⟩ := R.cell (.inr k) _ e1
              refine .inr ⟨_, _, rfl, .inl ⟨es, kk, e2, keyOf_rp e3 ri, by rw [r2.length]; exact szOk_lt e4, rfl⟩, ?_⟩
              exact hw σ (S.putCell k (.dct (putD kvs kk d)) (.dK (putK es kk v))) rfl rfl (R.put e1 fun w' le e => ⟨_, e, (le.rpK _ _ r2).put (le.rp _ _ rv)⟩) (Tr.put e1)
            · cases e6
  | _ => exact hw.elim
def subT (mo mi : M D) (d : D) : M Unit := bnd mo fun o => bnd mi fun i => putS o i d
theorem tg_sub {o i : Expr} {mo mi : M D} (hu : X.A.units + 1 < cLine) (ho : PEv X W o mo) (hi : PEv X W i mi)
    (ha : ∀ (v : Value), assign (.Subscript o i pos) X.env v = (do
      let ov ← holding [v] (eval o X.env)
      let iv ← holding [v, ov] (eval i X.env)
      standAt pos
      holding [v, ov, iv] (setItem ov iv v)
      release [v, ov, iv] []) := by intros; rfl) : PTg X W (.Subscript o i pos) [] (subT mo mi) := by
  refine PG.weak (pg_sub ho hi (set_any hu) ha) fun v σ H Q q => ?_
  obtain ⟨Z, S, d, rfl, R, r, hw⟩ := q
  refine ⟨Z, S, rfl, R, WpU.bnd hw fun od S1 R1 T1 h1 ov r1 => ?_⟩
  refine ⟨Z, S1, rfl, R1, WpU.bnd h1 fun id S2 R2 T2 h2 iv r2 => ?_⟩
  have q := put_go R2 (T2.rp r1) r2 (T2.rp (T1.rp r)) h2
  rcases q with ⟨p, xs, k, j, e1, e2, e3, e4, q⟩ | ⟨a, H', e1, e2, q⟩
  · exact .inl ⟨p, xs, k, j, e1, e2, e3, e4, q (Agr.refl σ)⟩
  · exact .inr ⟨a, H', e1, e2, q (Agr.refl σ)⟩
/-! ### statements -/
def nxS : Unit → SM := fun _ e s => .nx e s
def asgS (m : M D) (f : D → M Unit) : SM := fun e s => (bnd m f e s).toS nxS
theorem WpS.nx {K : PySem.W.Frag} {mg : Str → Option Value} {Z : Addr → Prop} {S : S8} {r : Res Unit} {D : Ends} (h : WpS K mg W Z S (r.toS nxS) D) : WpU K mg W Z S r D.nx := by
  cases r with
  | ok a e s => exact h
  | exc x e s => exact h
  | bad => exact h
theorem st_asg {tg : Expr} {ts : List Nat} {m : M D} {f : D → M Unit} (he : PEv X W e m) (hg : PTg X W tg ts f) (h1 : swapsWithSole [tg] e pos.line X.env = pure false := by rfl) (h2 : swappedStores [tg] e X.env = pure none := by rfl)
    (h3 : (assignEach [tg] X.env).map (·.2) = [assign tg X.env] := by rfl) : PSv X W (.Assign [tg] e pos) (asgS m f) := by
  refine PS.weak (ps_asg he hg h1 h2 h3) fun D σ H q => ?_
  obtain ⟨Z, S, rfl, R, hw⟩ := q
  exact ⟨Z, S, rfl, R, WpU.bnd (WpS.nx hw) fun d S1 R1 T1 h1 v r1 => ⟨Z, S1, d, rfl, R1, r1, WpU.imp h1 fun _ _ q _ => q⟩⟩
def exprS (m : M D) : SM := fun e s => (m e s).toS fun _ => .nx
theorem st_expr {m : M D} (he : PEv X W e m) (h : swapsWith e none pos.line X.env = pure false := by rfl) : PSv X W (.Expr e pos) (exprS m) := by
  refine PS.weak (ps_expr he h) fun D σ H q => ?_
  obtain ⟨Z, S, rfl, R, hw⟩ := q
  exact ⟨Z, S, rfl, R, WpS.bnd hw fun d S1 R1 T1 h1 v r1 => h1 σ S1 rfl rfl R1 (Tr.refl S1)⟩
def retS (m : M D) : SM := fun e s => (m e s).toS fun d => .ret d
theorem st_ret {m : M D} (he : PEv X W e m) : PSv X W (.Return (some e) pos) (retS m) := by
  refine PS.weak (ps_ret he) fun D σ H q => ?_
  obtain ⟨Z, S, rfl, R, hw⟩ := q
  exact ⟨Z, S, rfl, R, WpS.bnd hw fun d S1 R1 T1 h1 v r1 => h1 σ S1 rfl rfl R1 (Tr.refl S1) v r1⟩
theorem st_retN : PSv X W (.Return none pos) (.ret .non) := by
  refine PS.weak ps_retN fun D σ H q => ?_
  obtain ⟨Z, S, rfl, R, hw⟩ := q
  exact hw σ S rfl rfl R (Tr.refl S) .non (by unfold Rp; rfl)
theorem st_pass : PSv X W (.Pass pos) .nx := by
  refine PS.weak ps_pass fun D σ H q => ?_
  obtain ⟨Z, S, rfl, R, hw⟩ := q
  exact hw σ S rfl rfl R (Tr.refl S)
theorem st_break : PSv X W (.Break pos) .bk := by
  refine PS.weak ps_break fun D σ H q => ?_
  obtain ⟨Z, S, rfl, R, hw⟩ := q
  exact hw σ S rfl rfl R (Tr.refl S)
theorem st_cont : PSv X W (.Continue pos) .ct := by
  refine PS.weak ps_continue fun D σ H q => ?_
  obtain ⟨Z, S, rfl, R, hw⟩ := q
  exact hw σ S rfl rfl R (Tr.refl S)
def badS : SM := fun _ _ => .bad
theorem st_never {st : Stmt} : PSv X W st badS := PS.weak ps_never fun D σ H q => by
  obtain ⟨Z, S, rfl, R, hw⟩ := q
  exact hw
def seqS (m n : SM) : SM := fun e s => (m e s).andThen n
theorem ss_nil : PSsv X W [] .nx := by
  refine PSs.weak pss_nil fun D σ H q => ?_
  obtain ⟨Z, S, rfl, R, hw⟩ := q
  exact hw σ S rfl rfl R (Tr.refl S)
theorem WpS.andThen {K : PySem.W.Frag} {mg : Str → Option Value} {Z : Addr → Prop} {S : S8} {r : SR} {n : SM} {D : Ends} (h : WpS K mg W Z S (r.andThen n) D) : WpS K mg W Z S r { D with nx := tS K mg W n D } := by
  cases r with
  | nx e s =>
    intro σ' S' h1 h2 R T
    refine ⟨Z, S', rfl, R, ?_⟩
    rw [h1, h2]; exact WpS.from h T
  | _ => exact h
theorem ss_cons {st : Stmt} {rest : List Stmt} {m n : SM} (h : PSv X W st m) (h' : PSsv X W rest n) : PSsv X W (st :: rest) (seqS m n) := by
  refine PSs.weak (pss_cons h h') fun D σ H q => ?_
  obtain ⟨Z, S, rfl, R, hw⟩ := q
  exact ⟨Z, S, rfl, R, WpS.andThen hw⟩
theorem ss_one {st : Stmt} {m : SM} (h : PSv X W st m) : PSsv X W [st] m := by
  refine PSs.weak (pss_one h) fun D σ H q => q
def ifS (c : M Bool) (a b : SM) : SM := fun e s => (c e s).toS fun t => match t with
  | true => a
  | false => b
theorem st_if {c : Expr} {a b : List Stmt} {mc : M Bool} {ma mb : SM} (hc : PTv X W c mc) (ha : PSsv X W a ma) (hb : PSsv X W b mb) : PSv X W (.If c a b pos) (ifS mc ma mb) := by
  refine PS.weak (ps_if hc ha hb) fun D σ H q => ?_
  obtain ⟨Z, S, rfl, R, hw⟩ := q
  refine ⟨Z, S, rfl, R, WpS.bnd hw fun t S1 R1 T1 h1 => ?_⟩
  cases t with
  | true => exact iteT ⟨Z, S1, rfl, R1, h1⟩
  | false => exact iteF ⟨Z, S1, rfl, R1, h1⟩
end
end QB

/-! The pure layer, part 12: loops, parallel and augmented assignments. -/
namespace QB
open PySem PySem.Spec PyProof.Rows L2

/-- behind a turn -/
def turnS (r : SR) (k : SM) : SR := match r with
  | .nx e s => k e s
  | .ct e s => k e s
  | .bk e s => .nx e s
  | .ret d e s => .ret d e s
  | .exc x e s => .exc x e s
  | .bad => .bad
section
variable {e : PEnv} {s : Store} {k : SM} {d : D} {x : Exn}
@[simp] theorem turn_nx : turnS (.nx e s) k = k e s := rfl
@[simp] theorem turn_ct : turnS (.ct e s) k = k e s := rfl
@[simp] theorem turn_bk : turnS (.bk e s) k = .nx e s := rfl
@[simp] theorem turn_ret : turnS (.ret d e s) k = .ret d e s := rfl
@[simp] theorem turn_exc : turnS (.exc x e s) k = .exc x e s := rfl
@[simp] theorem turn_bad : turnS .bad k = .bad := rfl
end
def forGo (f : D → M Unit) (body : SM) (sr : Src) : Nat → Nat → SM
  | 0, i => fun e s => match sr.items s with
    | some l => match l[i]? with
      | none => .nx e s
      | some _ => .bad
    | none => .bad
  | n + 1, i => fun e s => match sr.items s with
    | some l => match l[i]? with
      | none => .nx e s
      | some d => turnS ((f d e s).toS fun _ => body) (forGo f body sr n (i + 1))
    | none => .bad
def forS (src : M Src) (f : D → M Unit) (body : SM) : SM := fun e s => (src e s).toS fun sr => fun e s => match sr.items s with
  | some l => forGo f body sr l.length 0 e s
  | none => .bad
def whileGo (c : M Bool) (body : SM) : Nat → SM
  | 0 => fun _ _ => .bad
  | n + 1 => fun e s => (c e s).toS fun t => match t with
    | true => fun e s => turnS (body e s) (whileGo c body n)
    | false => fun e s => .nx e s
section
variable {K : PySem.W.Frag} {mg : Str → Option Value} {W : WX} {Z : Addr → Prop} {σ : L2.St} {S S1 : S8}
/-- the next turn's entry -/
def Nxt (K : PySem.W.Frag) (mg : Str → Option Value) (W : WX) (Z : Addr → Prop) (S : S8) (k : SM) (D : Ends) : L2.St → Hp → Prop := fun σ' H' => ∃ S', S'.H = H' ∧ Rel K Z σ' S' ∧ Tr S S' ∧ WpS K mg W Z S' (k S'.env S'.st) D
theorem WpS.turn {r : SR} {k : SM} {D : Ends} (h : WpS K mg W Z S (turnS r k) D) : WpS K mg W Z S r { nx := Nxt K mg W Z S k D, rt := D.rt, bk := D.nx, ct := Nxt K mg W Z S k D } := by
  cases r with
  | nx e s => exact fun σ' S' h1 h2 R T => ⟨S', rfl, R, T, by rw [h1, h2]; exact WpS.from h T⟩
  | ct e s => exact fun σ' S' h1 h2 R T => ⟨S', rfl, R, T, by rw [h1, h2]; exact WpS.from h T⟩
  | bk e s => exact h
  | ret d e s => exact h
  | exc x e s => exact h
  | bad => exact h
theorem WpS.turnU {r : Res Unit} {body k : SM} {D : Ends} (h : WpS K mg W Z S (turnS (r.toS fun _ => body) k) D) :
    WpU K mg W Z S r (fun σ' H' => tS K mg W body { nx := Nxt K mg W Z S k D, rt := D.rt, bk := D.nx, ct := Nxt K mg W Z S k D } σ' H') := by
  cases r with
  | ok a e s =>
    intro σ' S' h1 h2 R T
    refine ⟨Z, S', rfl, R, ?_⟩
    rw [h1, h2]
    exact WpS.from (WpS.turn h) T
  | exc x e s => exact h
  | bad => exact h
end
section
variable {X : Cx} {W : WX} {pos : Pos} {e a : Expr}
theorem for_go {Z : Addr → Prop} {sr : Src} {J : It} {S1 : S8} {ts : List Nat} {f : D → M Unit} {body : SM} {D : Ends} (ok : ItOk X.K Z sr S1 J) :
    ∀ (i m : Nat) (σ : L2.St) (H : Hp), (∃ S2, S2.H = H ∧ Rel X.K Z σ S2 ∧ Tr S1 S2 ∧ WpS X.K X.mg W Z S2 (forGo f body sr m i S2.env S2.st) D) →
    (J.stop i H ∧ D.nx σ H) ∨ (J.go i H ∧ ∃ N : L2.St → Hp → Prop, (∀ σ' H', N σ' H' → ∃ m', m' < m ∧ ∃ S2, S2.H = H' ∧ Rel X.K Z σ' S2 ∧ Tr S1 S2 ∧ WpS X.K X.mg W Z S2 (forGo f body sr m' (i + 1) S2.env S2.st) D) ∧
      ∀ x H', J.yld i H x H' → tTg X.K X.mg W ts f x σ H' fun σ2 H2 => tS X.K X.mg W body { nx := N, rt := D.rt, bk := D.nx, ct := N } σ2 H2) := by
  intro i m σ H ⟨S2, e2, R2, T2, hw⟩
  subst e2
  have le := T2.le (K := X.K) (Z := Z)
  cases m with
  | zero =>
    have hw' : WpS X.K X.mg W Z S2 (match sr.items S2.st with | some l => (match l[i]? with | none => SR.nx S2.env S2.st | some _ => .bad) | none => .bad) D := hw
    cases e1 : sr.items S2.st with
    | none => rw [e1] at hw'; exact hw'.elim
    | some l =>
      rw [e1] at hw'
      dsimp only at hw'
      cases e3 : l[i]? with
      | none => rw [e3] at hw'; exact .inl ⟨(ok Z σ S2 le R2 l e1 i).1 e3, hw' σ S2 rfl rfl R2 (Tr.refl S2)⟩
      | some d => rw [e3] at hw'; exact hw'.elim
  | succ n =>
    have hw' : WpS X.K X.mg W Z S2 (match sr.items S2.st with | some l => (match l[i]? with | none => SR.nx S2.env S2.st | some d => turnS ((f d S2.env S2.st).toS fun _ => body) (forGo f body sr n (i + 1))) | none => .bad) D := hw
    cases e1 : sr.items S2.st with
    | none => rw [e1] at hw'; exact hw'.elim
    | some l =>
      rw [e1] at hw'
      dsimp only at hw'
      cases e3 : l[i]? with
      | none => rw [e3] at hw'; exact .inl ⟨(ok Z σ S2 le R2 l e1 i).1 e3, hw' σ S2 rfl rfl R2 (Tr.refl S2)⟩
      | some d =>
        rw [e3] at hw'
        dsimp only at hw'
        obtain ⟨hgo, hy⟩ := (ok Z σ S2 le R2 l e1 i).2 d e3
        refine .inr ⟨hgo, Nxt X.K X.mg W Z S2 (forGo f body sr n (i + 1)) D, ?_, ?_⟩
        · rintro σ' H' ⟨S3, e4, R3, T3, h3⟩
          exact ⟨n, Nat.lt_succ_self n, S3, e4, R3, T2.trans T3, h3⟩
        · intro x H' q
          obtain ⟨hx, hr⟩ := hy x H' q
          refine ⟨Z, S2.up H', d, rfl, R2.up hx, hr, ?_⟩
          refine WpU.imp (WpU.from (WpS.turnU hw') (Tr.up hx)) fun σ' H2 q _ => q
theorem st_for {tg it : Expr} {body : List Stmt} {ms : M Src} {ts : List Nat} {f : D → M Unit} {mb : SM} (po : PassesOwn (model X.prog X.w) X.A X.env X.xe) (hc : X.calm = true) (hi : PIt X W tg it ms) (hg : PTg X W tg ts f) (hb : PSsv X W body mb)
    (hs : ∀ x, foldedSetIterable it X.env x = pure x := by intro _; rfl) : PSv X W (.For tg it body [] pos) (forS ms f mb) := by
  refine PS.weak (ps_for po hc hi hg hb hs) fun D σ H q => ?_
  obtain ⟨Z, S, rfl, R, hw⟩ := q
  refine ⟨Z, S, rfl, R, WpS.bnd hw fun sr S1 R1 T1 h1 J ok => ?_⟩
  cases e1 : sr.items S1.st with
  | none => rw [e1] at h1; exact h1.elim
  | some l =>
    rw [e1] at h1
    exact ⟨fun i m σ H => ∃ S2, S2.H = H ∧ Rel X.K Z σ S2 ∧ Tr S1 S2 ∧ WpS X.K X.mg W Z S2 (forGo f mb sr m i S2.env S2.st) D, ⟨l.length, S1, rfl, R1, Tr.refl S1, h1⟩, for_go ok⟩
theorem st_while {c : Expr} {body : List Stmt} {mc : M Bool} {mb : SM} (n : Nat) (po : PassesOwn (model X.prog X.w) X.A X.env X.xe) (hc : PTv X W c mc) (hb : PSsv X W body mb) : PSv X W (.While c body [] pos) (whileGo mc mb n) := by
  refine PS.weak (ps_while po hc hb) fun D σ H q => ?_
  obtain ⟨Z, S, rfl, R, hw⟩ := q
  refine ⟨fun m σ H => ∃ S2, S2.H = H ∧ Rel X.K Z σ S2 ∧ WpS X.K X.mg W Z S2 (whileGo mc mb m S2.env S2.st) D, ⟨n, S, rfl, R, hw⟩, ?_⟩
  rintro m σ H ⟨S2, rfl, R2, h2⟩
  cases m with
  | zero => exact h2.elim
  | succ m =>
    refine ⟨Z, S2, rfl, R2, WpS.bnd h2 fun t S3 R3 T3 h3 => ?_⟩
    cases t with
    | false => exact iteF (h3 σ S3 rfl rfl R3 (Tr.refl S3))
    | true =>
      refine iteT ⟨Nxt X.K X.mg W Z S3 (whileGo mc mb m) D, ?_, Z, S3, rfl, R3, WpS.turn h3⟩
      rintro σ' H' ⟨S4, e4, R4, T4, h4⟩
      exact ⟨m, Nat.lt_succ_self m, S4, e4, R4, h4⟩
/-! ### x += e, on integers -/
def augD (f : Int → Int → Int) (a : D) (b : D) : Option D := match a, b with
  | .int i, .int j => some (.int (f i j))
  | _, _ => none
def augS (i : Nat) (g : Int → Int → Int) (m : M D) : SM := fun e s => (bnd (varM i) (fun a => bnd m fun b => bnd (opt (augD g a b)) fun d => setM i d) e s).toS nxS
theorem st_aug {x : Str} {i : Nat} {op : Operator} {g : Int → Int → Int} {m : M D} {pos' : Pos} (hN : X.N.Nodup) (hi : X.N[i]? = some x) (hx : Loc X.env.scope x) (he : PEv X W e m) (ho : PIp X op (ipI g)) (hf : X.fn x = true ∨ X.env.scope.names.lookup x = some .local := by first | exact .inl rfl | exact .inr rfl | assumption) :
    PSv X W (.AugAssign (.Name x pos') op e pos) (augS i g m) := by
  refine PS.weak (ps_aug hN hi hx he ho hf) fun D σ H q => ?_
  obtain ⟨Z, S, rfl, R, hw⟩ := q
  have hw := WpS.nx hw
  rw [bnd_app] at hw
  unfold varM at hw
  split at hw
  · rename_i d ed
    obtain ⟨v, e1, r1⟩ := R.val i d ed
    refine ⟨v, e1, Z, S, rfl, R, WpU.bnd hw fun b S1 R1 T1 h1 y r2 => ?_⟩
    rw [bnd_app] at h1
    cases e2 : augD g d b with
    | none => rw [e2] at h1; exact h1.elim
    | some z =>
      rw [e2] at h1
      unfold augD at e2
      split at e2
      · rename_i p q
        cases e2
        unfold Rp at r1
        have r2' : Rp (S1.wd X.K Z) (.int q) y := r2
        unfold Rp at r2'
        exact ⟨p, q, r1, r2', h1 _ (S1.putSlot i _) rfl rfl (R1.slot rp_int) Tr.slot⟩
      · cases e2
  · exact hw.elim
/-! ### x, y = a, b without a tuple -/
def par2 (i j : Nat) : List D → M Unit
  | [a, b] => bnd (setM i a) fun _ => setM j b
  | _ => fail
def par3 (i j l : Nat) : List D → M Unit
  | [a, b, c] => bnd (setM i a) fun _ => bnd (setM j b) fun _ => setM l c
  | _ => fail
def parS (ms : M (List D)) (f : List D → M Unit) : SM := fun e s => (bnd ms f e s).toS nxS
theorem st_par2 {i j : Nat} {x y : Str} {a b : Expr} {ms : M (List D)} {px py pt pt2 : Pos} {kt k2 : Nat} (hc : X.calm = true) (hN : X.N.Nodup) (hi : X.N[i]? = some x) (hj : X.N[j]? = some y) (hij : i ≠ j) (hx : X.env.scope.names.lookup x = some .local) (hy : X.env.scope.names.lookup y = some .local)
    (ha : PAv X W [a, b] ms) (hw : swappedStores [.Tuple [.Name x px, .Name y py] kt pt] (.Tuple [a, b] k2 pt2) X.env = pure (some [x, y]))
    (h2 : swapsWithSole [.Tuple [.Name x px, .Name y py] kt pt] (.Tuple [a, b] k2 pt2) pos.line X.env = pure false := by rfl) : PSv X W (.Assign [.Tuple [.Name x px, .Name y py] kt pt] (.Tuple [a, b] k2 pt2) pos) (parS ms (par2 i j)) := by
  refine PS.weak (ps_par hc hN hi hj hij hx hy ha hw h2) fun D σ H q => ?_
  obtain ⟨Z, S, rfl, R, hw⟩ := q
  refine ⟨Z, S, rfl, R, WpU.bnd (WpS.nx hw) fun ds S1 R1 T1 h1 vs r1 => ?_⟩
  match ds, h1, r1 with
  | [d, d2], h1, r1 =>
    obtain ⟨v, vs', rfl, r2, r3⟩ := r1.of_cons
    obtain ⟨v2, vs2, rfl, r4, r5⟩ := r3.of_cons
    rw [r5.of_nil]
    exact ⟨v, v2, rfl, h1 _ ((S1.putSlot i d).putSlot j d2) rfl rfl ((R1.slot r2).slot (Tr.slot.rp r4)) (Tr.slot.trans Tr.slot)⟩
  | [], h1, _ => exact h1.elim
  | [_], h1, _ => exact h1.elim
  | _ :: _ :: _ :: _, h1, _ => exact h1.elim
theorem st_par3 {i j l : Nat} {x y z : Str} {a b c : Expr} {ms : M (List D)} {px py pz pt pt2 : Pos} {kt k2 : Nat} (hc : X.calm = true) (hN : X.N.Nodup) (hi : X.N[i]? = some x) (hj : X.N[j]? = some y) (hl : X.N[l]? = some z) (hij : i ≠ j) (hil : i ≠ l) (hjl : j ≠ l)
    (hx : X.env.scope.names.lookup x = some .local) (hy : X.env.scope.names.lookup y = some .local) (hz : X.env.scope.names.lookup z = some .local)
    (ha : PAv X W [a, b, c] ms) (hw : swappedStores [.Tuple [.Name x px, .Name y py, .Name z pz] kt pt] (.Tuple [a, b, c] k2 pt2) X.env = pure (some [x, y, z]))
    (h2 : swapsWithSole [.Tuple [.Name x px, .Name y py, .Name z pz] kt pt] (.Tuple [a, b, c] k2 pt2) pos.line X.env = pure false := by rfl) : PSv X W (.Assign [.Tuple [.Name x px, .Name y py, .Name z pz] kt pt] (.Tuple [a, b, c] k2 pt2) pos) (parS ms (par3 i j l)) := by
  refine PS.weak (ps_par3 hc hN hi hj hl hij hil hjl hx hy hz ha hw h2) fun D σ H q => ?_
  obtain ⟨Z, S, rfl, R, hw⟩ := q
  refine ⟨Z, S, rfl, R, WpU.bnd (WpS.nx hw) fun ds S1 R1 T1 h1 vs r1 => ?_⟩
  match ds, h1, r1 with
  | [d, d2, d3], h1, r1 =>
    obtain ⟨v, vs', rfl, r2, r3⟩ := r1.of_cons
    obtain ⟨v2, vs2, rfl, r4, r5⟩ := r3.of_cons
    obtain ⟨v3, vs3, rfl, r6, r7⟩ := r5.of_cons
    rw [r7.of_nil]
    exact ⟨v, v2, v3, rfl, h1 _ (((S1.putSlot i d).putSlot j d2).putSlot l d3) rfl rfl (((R1.slot r2).slot (Tr.slot.rp r4)).slot ((Tr.slot.trans Tr.slot).rp r6)) ((Tr.slot.trans Tr.slot).trans Tr.slot)⟩
  | [], h1, _ => exact h1.elim
  | [_], h1, _ => exact h1.elim
  | [_, _], h1, _ => exact h1.elim
  | _ :: _ :: _ :: _ :: _, h1, _ => exact h1.elim
end
end QB

/-! The pure layer, part 13: comprehensions. -/
namespace QB
open PySem PySem.Spec PyProof.Rows L2

def wipeE (e : PEnv) : List Nat → PEnv
  | [] => e
  | v :: vs => (wipeE e vs).set v .no
def noOwn (e : PEnv) (vs : List Nat) : Bool := vs.all fun i => match e[i]? with
  | some (.own _) => false
  | _ => true
/-- the slots vs as e0 has them -/
def unE (e0 e' : PEnv) : List Nat → PEnv
  | [] => e'
  | v :: vs => match e0[v]? with
    | some sl => (unE e0 e' vs).set v sl
    | none => unE e0 e' vs
theorem unE_length (e0 e' : PEnv) : ∀ vs : List Nat, (unE e0 e' vs).length = e'.length
  | [] => rfl
  | v :: vs => by
    unfold unE
    cases e0[v]? with
    | none => exact unE_length e0 e' vs
    | some sl => dsimp only; rw [List.length_set, unE_length e0 e' vs]
theorem wipeE_length (e : PEnv) : ∀ vs : List Nat, (wipeE e vs).length = e.length
  | [] => rfl
  | v :: vs => by unfold wipeE; rw [List.length_set, wipeE_length e vs]
theorem unE_get {e0 e' : PEnv} (hl : e0.length = e'.length) {j : Nat} : ∀ vs : List Nat, (unE e0 e' vs)[j]? = if j ∈ vs then e0[j]? else e'[j]?
  | [] => by simp [unE]
  | v :: vs => by
    have ih := unE_get hl (j := j) vs
    unfold unE
    by_cases ej : v = j
    · subst ej
      rw [if_pos List.mem_cons_self]
      cases e1 : e0[v]? with
      | none =>
        dsimp only
        rw [ih]
        have : e'[v]? = none := by
          rw [List.getElem?_eq_none_iff] at e1 ⊢; omega
        rw [this, e1]; split <;> rfl
      | some sl =>
        dsimp only
        have : v < e0.length := (List.getElem?_eq_some_iff.mp e1).1
        rw [List.getElem?_set_self (by rw [unE_length]; omega)]
    · have hm : (j ∈ v :: vs) ↔ j ∈ vs := by
        constructor
        · intro h; rcases List.mem_cons.mp h with h | h
          · exact absurd h.symm ej
          · exact h
        · exact List.mem_cons_of_mem _
      cases e1 : e0[v]? with
      | none => dsimp only; rw [ih]; simp only [hm]
      | some sl => dsimp only; rw [List.getElem?_set_ne ej, ih]; simp only [hm]
theorem wipeE_get {e : PEnv} {j : Nat} {sl : Slot} (hn : sl ≠ .no) : ∀ {vs : List Nat}, (wipeE e vs)[j]? = some sl → e[j]? = some sl ∧ j ∉ vs
  | [], h => ⟨h, by simp⟩
  | v :: vs, h => by
    unfold wipeE at h
    by_cases ej : v = j
    · subst ej
      by_cases l : v < (wipeE e vs).length
      · rw [List.getElem?_set_self l] at h; cases h; exact absurd rfl hn
      · rw [List.getElem?_eq_none (by simp; omega)] at h; cases h
    · rw [List.getElem?_set_ne ej] at h
      obtain ⟨h1, h2⟩ := wipeE_get hn h
      exact ⟨h1, fun m => by rcases List.mem_cons.mp m with m | m
                             · exact ej m.symm
                             · exact h2 m⟩
section
variable {K : PySem.W.Frag} {Z : Addr → Prop} {σ : L2.St} {S S1 S0 : S8}
abbrev S8.wip (S : S8) (vs : List Nat) : S8 := { S with env := wipeE S.env vs }
theorem cont_wip {vs : List Nat} : ∀ {p : Pl} {c : Cell}, (S.wip vs).cont p = some c → S.cont p = some c
  | .inr k, c, h => h
  | .inl j, c, h => by
    have h' : (match (wipeE S.env vs)[j]? with | some (.own c) => some c | _ => none) = some c := h
    cases e : (wipeE S.env vs)[j]? with
    | none => rw [e] at h'; cases h'
    | some sl =>
      rw [e] at h'
      cases sl with
      | own c' =>
        cases h'
        have := (wipeE_get (by intro z; cases z) e).1
        show (match S.env[j]? with | some (.own c) => some c | _ => none) = some c
        rw [this]
      | _ => cases h'
theorem le_sub {S' : S8} (hH : S'.H = S.H) (hst : S'.st = S.st) (had : S'.ad = S.ad) (hc : ∀ p c, S'.cont p = some c → S.cont p = some c) : (S.wd K Z).Le (S'.wd K Z) := by
  refine ⟨rfl, fun a o e m => ⟨?_, ?_⟩, ?_, fun k h => by show S'.ad _ = S.ad _; rw [had]⟩
  · show S'.H a = some o
    rw [hH]; exact e
  · rintro (z | ⟨q, c, hq, eq⟩)
    · exact m (.inl z)
    · exact m (.inr ⟨q, c, hc q c hq, by rw [← had]; exact eq⟩)
  · show S.st.length ≤ S'.st.length
    rw [hst]; exact Nat.le_refl _
theorem Tr.sub {S' : S8} (hH : S'.H = S.H) (hst : S'.st = S.st) (had : S'.ad = S.ad) (hc : ∀ p c, S'.cont p = some c → S.cont p = some c) : Tr S S' where
  dom := fun a h => by rw [hH]; exact h
  keep := fun a o h _ => by rw [hH]; exact h
  fresh := fun p c h => .inl ⟨p, c, hc p c h, by rw [had]⟩
  n := by rw [hst]; exact Nat.le_refl _
  c := fun k _ => by rw [had]
theorem Rel.wip (R : Rel K Z σ S) (vs : List Nat) : Rel K Z (wipe σ vs) (S.wip vs) := by
  have le : (S.wd K Z).Le ((S.wip vs).wd K Z) := le_sub rfl rfl rfl fun p c h => cont_wip h
  refine ⟨?_, fun i d h => ?_, fun i c h => ?_, fun p c h => le.cell rfl (R.cell p c (cont_wip h)), fun p q c d hp hq e => R.inj p q c d (cont_wip hp) (cont_wip hq) e, fun p c h => R.zf p c (cont_wip h), R.zt⟩
  · show (wipeE S.env vs).length = _
    rw [wipeE_length, wipe_length]; exact R.len
  · have h' : (wipeE S.env vs)[i]? = some (.val d) := h
    obtain ⟨h1, h2⟩ := wipeE_get (by intro z; cases z) h'
    obtain ⟨v, e, r⟩ := R.val i d h1
    exact ⟨v, by rw [wipe_out h2]; exact e, le.rp d v r⟩
  · have h' : (wipeE S.env vs)[i]? = some (.own c) := h
    obtain ⟨h1, h2⟩ := wipeE_get (by intro z; cases z) h'
    rw [wipe_out h2]; exact R.own i c h1
/-- the slots vs as they were in S0 -/
abbrev S8.unw (S : S8) (e0 : PEnv) (vs : List Nat) : S8 := { S with env := unE e0 S.env vs }
theorem cont_unw {e0 : PEnv} {vs : List Nat} (hl : e0.length = S.env.length) (hn : noOwn e0 vs = true) : ∀ {p : Pl} {c : Cell}, (S.unw e0 vs).cont p = some c → S.cont p = some c
  | .inr k, c, h => h
  | .inl j, c, h => by
    have h' : (match (unE e0 S.env vs)[j]? with | some (.own c) => some c | _ => none) = some c := h
    rw [unE_get hl] at h'
    by_cases m : j ∈ vs
    · rw [if_pos m] at h'
      have q := List.all_eq_true.mp hn j m
      split at h'
      · rename_i e; rw [e] at q; cases q
      · cases h'
    · rw [if_neg m] at h'; exact h'
theorem Rel.unw {Z0 : Addr → Prop} {vs : List Nat} (R0 : Rel K Z0 σ S0) (R : Rel K Z (wipe σ vs) S) (le0 : (S0.wd K Z0).Le (S.wd K Z)) (hn : noOwn S0.env vs = true) : Rel K Z σ (S.unw S0.env vs) := by
  have hl : S0.env.length = S.env.length := by rw [R0.len, R.len, wipe_length]
  have hc := fun p c => cont_unw (p := p) (c := c) hl hn
  have le : (S.wd K Z).Le ((S.unw S0.env vs).wd K Z) := le_sub rfl rfl rfl hc
  refine ⟨?_, fun i d h => ?_, fun i c h => ?_, fun p c h => le.cell rfl (R.cell p c (hc p c h)), fun p q c d hp hq e => R.inj p q c d (hc _ _ hp) (hc _ _ hq) e, fun p c h => R.zf p c (hc p c h), R.zt⟩
  · show (unE S0.env S.env vs).length = _
    rw [unE_length, ← hl]; exact R0.len
  · have h' : (unE S0.env S.env vs)[i]? = some (.val d) := h
    rw [unE_get hl] at h'
    by_cases m : i ∈ vs
    · rw [if_pos m] at h'
      obtain ⟨v, e, r⟩ := R0.val i d h'
      exact ⟨v, e, le.rp d v (le0.rp d v r)⟩
    · rw [if_neg m] at h'
      obtain ⟨v, e, r⟩ := R.val i d h'
      exact ⟨v, by rw [wipe_out m] at e; exact e, le.rp d v r⟩
  · have h' : (unE S0.env S.env vs)[i]? = some (.own c) := h
    rw [unE_get hl] at h'
    by_cases m : i ∈ vs
    · rw [if_pos m] at h'
      have q := List.all_eq_true.mp hn i m
      rw [h'] at q; cases q
    · rw [if_neg m] at h'
      have := R.own i c h'
      rw [wipe_out m] at this; exact this
theorem le_addZ {D : Addr} (T : Tr S1 S) (hD : S1.H D = none) : (S1.wd K Z).Le (S.wd K (addZ Z D)) := by
  have l := T.le (K := K) (Z := Z)
  refine ⟨rfl, fun a o e m => ?_, l.n, l.c⟩
  obtain ⟨h1, h2⟩ := l.still a o e m
  refine ⟨h1, ?_⟩
  have e' : S1.H a = some o := e
  rintro ((z | z) | z)
  · exact h2 (.inl z)
  · rw [z, hD] at e'; cases e'
  · exact h2 (.inr z)
end
theorem wipe_agr {ts vs : List Nat} {σ σ2 : L2.St} (h : ∀ i ∈ ts, i ∈ vs) (a : Agr ts (wipe σ vs) σ2) : wipe σ2 vs = wipe σ vs := by
  have hl : σ2.length = σ.length := a.1.trans (wipe_length σ vs)
  apply List.ext_getElem?
  intro j
  by_cases m : j ∈ vs
  · have key : ∀ (τ : L2.St) (us : List Nat), j ∈ us → (wipe τ us)[j]? = if j < τ.length then some none else none := by
      intro τ us
      induction us with
      | nil => intro h; cases h
      | cons v us ih =>
        intro h
        unfold wipe
        by_cases e : v = j
        · subst e
          by_cases l : v < τ.length
          · rw [if_pos l, List.getElem?_set_self (by rw [wipe_length]; exact l)]
          · rw [if_neg l, List.getElem?_eq_none (by rw [List.length_set, wipe_length]; omega)]
        · rw [List.getElem?_set_ne e]
          rcases List.mem_cons.mp h with h | h
          · exact absurd h.symm e
          · exact ih h
    rw [key _ _ m, key _ _ m, hl]
  · rw [wipe_out m, a.2 j (fun z => m (h j z))]
/-! ### the loop -/
def compTail (cond : M Bool) (step : Cell → M Cell) (acc : Cell) (k : Cell → M Cell) : M Cell := fun e1 s1 => match cond e1 s1 with
  | .ok false e2 s2 => k acc e2 s2
  | .ok true e2 s2 => (match step acc e2 s2 with
    | .ok acc' e3 s3 => k acc' e3 s3
    | _ => .bad)
  | _ => .bad
def compGo (f : D → M Unit) (cond : M Bool) (step : Cell → M Cell) (vs : List Nat) (sr : Src) : Nat → Nat → Cell → M Cell
  | 0, i, acc => fun e s => match sr.items s with
    | some l => match l[i]? with
      | none => .ok acc e s
      | some _ => .bad
    | none => .bad
  | n + 1, i, acc => fun e s => match sr.items s with
    | some l => match l[i]? with
      | none => .ok acc e s
      | some d => match f d e s with
        | .ok _ e1 s1 => compTail cond step acc (fun a e s => compGo f cond step vs sr n (i + 1) a (wipeE e vs) s) e1 s1
        | _ => .bad
    | none => .bad
def compM (init : Cell) (src : M Src) (f : D → M Unit) (cond : M Bool) (step : Cell → M Cell) (vs : List Nat) : M Cell := bnd src fun sr => fun e s => match noOwn e vs, sr.items s with
  | true, some l => match compGo f cond step vs sr l.length 0 init (wipeE e vs) s with
    | .ok c e' s' => .ok c (unE e e' vs) s'
    | _ => .bad
  | _, _ => .bad
def stepL (elt : M D) (c : Cell) : M Cell := bnd elt fun y => match c with
  | .lst acc => chk (szOk (acc.length + 1)) (rt (.lst (acc ++ [y])))
  | _ => fail
def stepD (kx vx : M D) (c : Cell) : M Cell := bnd kx fun k => bnd vx fun z => match c with
  | .dct kvs => match keyOf k with
    | some kk => chk (szOk (kvs.length + 1)) (rt (.dct (putD kvs kk z)))
    | none => fail
  | _ => fail
/-- nothing may be raised -/
def WF : WX := fun _ _ _ _ => False
section
variable {K : PySem.W.Frag} {mg : Str → Option Value} {W : WX} {Z : Addr → Prop} {σ : L2.St} {S S1 : S8}
/-- what stands at the turn i -/
def CW (K : PySem.W.Frag) (Z : Addr → Prop) (σ : L2.St) (vs : List Nat) (Dd : Addr) (S1 : S8) (go : Nat → Nat → Cell → M Cell) (Q : Cell → S8 → Prop) (i m : Nat) (H : Hp) : Prop :=
  ∃ S2 acc, S2.H = H ∧ Rel K (addZ Z Dd) (wipe σ vs) S2 ∧ Tr S1 S2 ∧ CellAt (S2.wd K (addZ Z Dd)) acc Dd ∧
    ∃ c e s, go m i acc S2.env S2.st = .ok c e s ∧ ∀ S', S'.env = e → S'.st = s → Rel K (addZ Z Dd) (wipe σ vs) S' → Tr S1 S' → CellAt (S'.wd K (addZ Z Dd)) c Dd → Q c S'
end
theorem Rel.rewip {K : PySem.W.Frag} {Z : Addr → Prop} {σ σ2 : L2.St} {S : S8} {vs : List Nat} (R : Rel K Z σ2 S) (h : wipe σ2 vs = wipe σ vs) : Rel K Z (wipe σ vs) (S.wip vs) := by rw [← h]; exact R.wip vs
theorem Tr.wip {S : S8} {vs : List Nat} : Tr S (S.wip vs) := Tr.sub rfl rfl rfl fun p c h => cont_wip h
section
variable {X : Cx} {W : WX} {pos : Pos}
def PTsv (X : Cx) (W : WX) (ifs : List Expr) (m : M Bool) : Prop := PTs X ifs (tT X.K X.mg W m)
theorem PTs.weak {X : Cx} {e : List Expr} {t t' : TT} (h : PTs X e t) (k : ∀ σ H Q, t' σ H Q → t σ H Q) : PTs X e t' := ⟨fun pins s σ H Q I q => h.run pins s σ H Q I (k σ H Q q)⟩
theorem ts_nil : PTsv X W [] (rt true) := PTs.weak pts_nil fun σ H Q q => by
  obtain ⟨Z, S, rfl, R, hw⟩ := q
  exact hw.here R
theorem ts_one {c : Expr} {m : M Bool} (h : PTv X W c m) : PTsv X W [c] m := pts_one h
/-- a foreign object that no one touched -/
theorem Tr.cellZ {K : PySem.W.Frag} {Z : Addr → Prop} {σ : L2.St} {S S' : S8} {Dd : Addr} {c : Cell} (T : Tr S S') (R : Rel K (addZ Z Dd) σ S) (hc : CellAt (S.wd K (addZ Z Dd)) c Dd) : CellAt (S'.wd K (addZ Z Dd)) c Dd := by
  refine (T.le (K := K) (Z := addZ Z Dd)).cell ?_ hc
  have hnz : ∀ p c, S.cont p = some c → S.ad p ≠ Dd := fun p c hp e => R.zf p c hp (.inr e)
  have hne := hc.ne
  cases e6 : S.H Dd with
  | none => exact absurd e6 hne
  | some o => exact (T.keep Dd o e6 hnz).trans e6.symm
/-- one turn: what the test and the step ask -/
theorem comp_turn {K : PySem.W.Frag} {mg : Str → Option Value} {Z : Addr → Prop} {σ : L2.St} {S1 : S8} {Dd : Addr} {ts vs : List Nat} {f : D → M Unit} {cond : M Bool} {step : Cell → M Cell} {sr : Src} {J : It} {Qc : Cell → S8 → Prop} {te : L2.St → Hp → (Hp → Prop) → Prop}
    (hD : S1.H Dd = none) (ok : ItOk K Z sr S1 J) (hts : ∀ i ∈ ts, i ∈ vs)
    (hstep : ∀ (σ2 : L2.St) (S3 : S8) (acc : Cell) (Nx : Hp → Prop), Rel K (addZ Z Dd) σ2 S3 → Tr S1 S3 → CellAt (S3.wd K (addZ Z Dd)) acc Dd →
      (∃ acc' e3 s3, step acc S3.env S3.st = .ok acc' e3 s3 ∧ ∀ S4, S4.env = e3 → S4.st = s3 → Rel K (addZ Z Dd) σ2 S4 → Tr S1 S4 → CellAt (S4.wd K (addZ Z Dd)) acc' Dd → Nx S4.H) → te σ2 S3.H Nx)
    (i m : Nat) (H : Hp) (h : CW K Z σ vs Dd S1 (compGo f cond step vs sr) Qc i m H) :
    (J.stop i H ∧ ∃ S' c, S'.H = H ∧ Qc c S') ∨ (J.go i H ∧ ∃ Nx : Hp → Prop, (∀ H', Nx H' → ∃ m', m' < m ∧ CW K Z σ vs Dd S1 (compGo f cond step vs sr) Qc (i + 1) m' H') ∧
      ∀ x H', J.yld i H x H' → tTg K mg WF ts f x (wipe σ vs) H' fun σ2 H2 => wipe σ2 vs = wipe σ vs ∧ tT K mg WF cond σ2 H2 fun b H3 => if b = true then te σ2 H3 Nx else Nx H3) := by
  obtain ⟨S2, acc, rfl, R2, T2, hc, c, e, s, hgo, hq⟩ := h
  have le := le_addZ (K := K) (Z := Z) T2 hD
  cases m with
  | zero =>
    unfold compGo at hgo
    cases e1 : sr.items S2.st with
    | none => rw [e1] at hgo; cases hgo
    | some l =>
      rw [e1] at hgo
      dsimp only at hgo
      cases e3 : l[i]? with
      | none => rw [e3] at hgo; cases hgo; exact .inl ⟨(ok _ _ S2 le R2 l e1 i).1 e3, S2, _, rfl, hq S2 rfl rfl R2 T2 hc⟩
      | some d => rw [e3] at hgo; cases hgo
  | succ n =>
    unfold compGo at hgo
    cases e1 : sr.items S2.st with
    | none => rw [e1] at hgo; cases hgo
    | some l =>
      rw [e1] at hgo
      dsimp only at hgo
      cases e3 : l[i]? with
      | none => rw [e3] at hgo; cases hgo; exact .inl ⟨(ok _ _ S2 le R2 l e1 i).1 e3, S2, _, rfl, hq S2 rfl rfl R2 T2 hc⟩
      | some d =>
        rw [e3] at hgo
        dsimp only at hgo
        obtain ⟨hg, hy⟩ := (ok _ _ S2 le R2 l e1 i).2 d e3
        refine .inr ⟨hg, fun H' => CW K Z σ vs Dd S1 (compGo f cond step vs sr) Qc (i + 1) n H', fun H' h => ⟨n, Nat.lt_succ_self n, h⟩, fun x H' q => ?_⟩
        obtain ⟨hx, hr⟩ := hy x H' q
        refine ⟨addZ Z Dd, S2.up H', d, rfl, R2.up hx, hr, ?_⟩
        cases e4 : f d S2.env S2.st with
        | bad => rw [e4] at hgo; cases hgo
        | exc _ _ _ => rw [e4] at hgo; cases hgo
        | ok u ee ss =>
          rw [e4] at hgo
          dsimp only at hgo
          intro σ3 S3 h1 h2 R3 T3 ag
          have hwp := wipe_agr hts ag
          refine ⟨hwp, addZ Z Dd, S3, rfl, R3, ?_⟩
          have T23 : Tr S2 S3 := (Tr.up hx).trans T3
          have T13 : Tr S1 S3 := T2.trans T23
          have hc3 := T23.cellZ R2 hc
          rw [h1, h2]
          unfold compTail at hgo
          cases e5 : cond ee ss with
          | bad => rw [e5] at hgo; cases hgo
          | exc _ _ _ => rw [e5] at hgo; cases hgo
          | ok b e2 s2 =>
            rw [e5] at hgo
            intro S4 h3 h4 R4 T4
            have T14 : Tr S1 S4 := T13.trans T4
            have hc4 := T4.cellZ R3 hc3
            have lw : ∀ (SS : S8), (SS.wd K (addZ Z Dd)).Le ((SS.wip vs).wd K (addZ Z Dd)) := fun SS => Tr.wip.le
            cases b with
            | false =>
              refine iteF ?_
              dsimp only at hgo
              exact ⟨S4.wip vs, acc, rfl, R4.rewip hwp, T14.trans Tr.wip, (lw S4).cell rfl hc4, c, e, s, by show compGo f cond step vs sr n (i + 1) acc (wipeE S4.env vs) S4.st = _; rw [h3, h4]; exact hgo, hq⟩
            | true =>
              refine iteT ?_
              dsimp only at hgo
              cases e7 : step acc e2 s2 with
              | bad => rw [e7] at hgo; cases hgo
              | exc _ _ _ => rw [e7] at hgo; cases hgo
              | ok acc' e3 s3 =>
                rw [e7] at hgo
                dsimp only at hgo
                refine hstep σ3 S4 acc _ R4 T14 hc4 ⟨acc', e3, s3, by rw [h3, h4]; exact e7, ?_⟩
                intro S5 h5 h6 R5 T5 hc5
                exact ⟨S5.wip vs, acc', rfl, R5.rewip hwp, T5.trans Tr.wip, (lw S5).cell rfl hc5, c, e, s, by show compGo f cond step vs sr n (i + 1) acc' (wipeE S5.env vs) S5.st = _; rw [h5, h6]; exact hgo, hq⟩
/-- a value got with nothing raised -/
theorem Wp.okd {K : PySem.W.Frag} {Z : Addr → Prop} {σ : L2.St} {S : S8} {α : Type} {r : Res α} {a : α} {e : PEnv} {s : Store} {Q : α → S8 → Prop} {Qx : Exn → S8 → Prop} (h : r = .ok a e s) (k : ∀ S', S'.env = e → S'.st = s → Rel K Z σ S' → Tr S S' → Q a S') : Wp K Z σ S r Q Qx := by
  subst h; exact k
theorem bnd_ok {α β : Type} {m : M α} {f : α → M β} {e : PEnv} {s : Store} {b : β} {e2 : PEnv} {s2 : Store} (h : bnd m f e s = .ok b e2 s2) : ∃ a e1 s1, m e s = .ok a e1 s1 ∧ f a e1 s1 = .ok b e2 s2 := by
  rw [bnd_app] at h
  cases q : m e s with
  | ok a e1 s1 => rw [q] at h; exact ⟨a, e1, s1, rfl, h⟩
  | exc x e1 s1 => rw [q] at h; cases h
  | bad => rw [q] at h; cases h
theorem chk_ok {α : Type} {b : Bool} {m : M α} {e : PEnv} {s : Store} {a : α} {e2 : PEnv} {s2 : Store} (h : chk b m e s = .ok a e2 s2) : b = true ∧ m e s = .ok a e2 s2 := by
  cases b with
  | true => exact ⟨rfl, h⟩
  | false => cases h
theorem lc_go {K : PySem.W.Frag} {mg : Str → Option Value} {W : WX} {ts vs : List Nat} {ms : M Src} {f : D → M Unit} {cond : M Bool} {elt : M D} (hts : ∀ i ∈ ts, i ∈ vs) {σ : L2.St} {H : Hp} {Q : VK}
    (q : tG K mg W (rF K) (compM (.lst []) ms f cond (stepL elt) vs) σ H Q) : tLc (tGI K mg W ms) (tTg K mg WF ts f) (tT K mg WF cond) (tG K mg WF (rE K) elt) vs σ H Q := by
  obtain ⟨Z, S, rfl, R, hw⟩ := q
  refine ⟨Z, S, rfl, R, Wp.bnd hw fun sr S1 R1 T1 h1 J ok Dd hD => ?_⟩
  cases e0 : noOwn S1.env vs with
  | false => rw [e0] at h1; exact h1.elim
  | true =>
    cases e1 : sr.items S1.st with
    | none => rw [e0, e1] at h1; exact h1.elim
    | some l =>
      rw [e0, e1] at h1
      dsimp only at h1
      cases e2 : compGo f cond (stepL elt) vs sr l.length 0 (.lst []) (wipeE S1.env vs) S1.st with
      | bad => rw [e2] at h1; exact h1.elim
      | exc _ _ _ => rw [e2] at h1; exact h1.elim
      | ok c e' s' =>
        rw [e2] at h1
        dsimp only at h1
        have hSD : S.H Dd = none := by
          cases e : S.H Dd with
          | none => rfl
          | some o => exact absurd hD (T1.dom Dd (by rw [e]; intro z; cases z))
        have hzD : ¬ Z Dd := fun z => R1.zt Dd z hD
        refine ⟨CW K Z σ vs Dd S1 (compGo f cond (stepL elt) vs sr) (fun _ S' => Q (.ref Dd) S'.H), ⟨l.length, ?_⟩, ?_⟩
        · have R2 : Rel K (addZ Z Dd) σ (S1.up (upd S1.H Dd (.lst []))) := R1.addNew hD
          refine ⟨(S1.up (upd S1.H Dd (.lst []))).wip vs, .lst [], rfl, R2.wip vs, (Tr.up (ext_new hD)).trans Tr.wip, ⟨[], upd_same, RpL.nil⟩, c, e', s', e2, ?_⟩
          intro S' h2 h3 R3 T3 hc
          have R4 := R1.unw R3 (le_addZ T3 hD) e0
          have hl : S1.env.length = S'.env.length := by rw [R1.len, R3.len, wipe_length]
          have hcont := fun p c => cont_unw (S := S') (p := p) (c := c) hl e0
          have T4 : Tr S' (S'.unw S1.env vs) := Tr.sub rfl rfl rfl hcont
          exact h1 (S'.unw S1.env vs) (by show unE S1.env S'.env vs = _; rw [h2]) h3 R4.dropZ (T3.trans T4) _ ⟨Dd, rfl, hSD, hzD, R4, (T4.le (K := K) (Z := addZ Z Dd)).cell rfl hc⟩
        · intro i m H hcw
          have hstep : ∀ (σ2 : L2.St) (S3 : S8) (acc : Cell) (Nx : Hp → Prop), Rel K (addZ Z Dd) σ2 S3 → Tr S1 S3 → CellAt (S3.wd K (addZ Z Dd)) acc Dd →
              (∃ acc' e3 s3, stepL elt acc S3.env S3.st = .ok acc' e3 s3 ∧ ∀ S4, S4.env = e3 → S4.st = s3 → Rel K (addZ Z Dd) σ2 S4 → Tr S1 S4 → CellAt (S4.wd K (addZ Z Dd)) acc' Dd → Nx S4.H) →
              tG K mg WF (rE K) elt σ2 S3.H fun y H4 => ∃ acc, H4 Dd = some (.lst acc) ∧ acc.length < sizeLine ∧ Nx (upd H4 Dd (.lst (acc ++ [y]))) := by
            intro σ2 S3 acc Nx R3 T3 hc3 ⟨acc', e3, s3, hst, hnx⟩
            refine ⟨addZ Z Dd, S3, rfl, R3, ?_⟩
            obtain ⟨y, e4, s4, h2, h3⟩ := bnd_ok hst
            refine Wp.okd h2 fun S4 h4 h5 R4 T4 v rv => ?_
            have hc4 := T4.cellZ R3 hc3
            cases acc with
            | dct _ => cases h3
            | lst ds =>
              obtain ⟨h6, h7⟩ := chk_ok h3
              cases h7
              obtain ⟨xs, hx, rx⟩ := hc4
              refine ⟨xs, hx, by rw [rx.length]; exact szOk_lt h6, ?_⟩
              have R5 := R4.turn (o := .lst (xs ++ [v])) (.inr rfl)
              refine hnx (S4.up (upd S4.H Dd (.lst (xs ++ [v])))) h4 h5 R5 ((T3.trans T4).turn hD) ⟨_, upd_same, ?_⟩
              have lt := le_turn (K := K) (S := S4) (Z := addZ Z Dd) (o := .lst (xs ++ [v])) (.inl (.inr rfl))
              exact (lt.rpL _ _ rx).append (.cons (lt.rp _ _ rv) .nil)
          rcases comp_turn (te := fun σ2 H3 Nx => tG K mg WF (rE K) elt σ2 H3 fun y H4 => ∃ acc, H4 Dd = some (.lst acc) ∧ acc.length < sizeLine ∧ Nx (upd H4 Dd (.lst (acc ++ [y])))) (mg := mg) (cond := cond) (f := f) (ts := ts) hD ok hts hstep i m H hcw with ⟨hs, S', c', rfl, hq⟩ | h
          · exact .inl ⟨hs, hq⟩
          · exact .inr h
theorem fr_lc {elt tg iter : Expr} {ifs : List Expr} {scope : Scope} {own : List (Str × Nat)} {ts : List Nat} {ms : M Src} {f : D → M Unit} {cond : M Bool} {me : M D} (hc : X.calm = true) (hN : X.N.Nodup) (hi : PIt X W tg iter ms) (ok : BlkOk X.N X.env.scope scope own)
    (hg : ∀ (s : Shared) (H : Hp) (C : Addr) (cl : List (Str × Addr)) (fp : List Addr), PTg (X.blk s H scope (compEnvC scope cl C X.env) fp) WF tg ts f)
    (ht : ∀ (s : Shared) (H : Hp) (C : Addr) (cl : List (Str × Addr)) (fp : List Addr), PTsv (X.blk s H scope (compEnvC scope cl C X.env) fp) WF ifs cond)
    (he : ∀ (s : Shared) (H : Hp) (C : Addr) (cl : List (Str × Addr)) (fp : List Addr), PEv (X.blk s H scope (compEnvC scope cl C X.env) fp) WF elt me)
    (hts : ∀ i ∈ ts, i ∈ own.map (·.2)) (hs : ∀ x, foldedSetIterable iter X.env x = pure x := by intro _; rfl) :
    PFr X W (.ListComp elt [⟨tg, iter, ifs, 0⟩] scope pos) (compM (.lst []) ms f cond (stepL me) (own.map (·.2))) :=
  PE.weak (pe_lc (g := tTg X.K X.mg WF ts f) (tt := tT X.K X.mg WF cond) (te := tG X.K X.mg WF (rE X.K) me) hc hN hi ok hg ht he hs) fun _ _ _ q => lc_go hts q
def frzL (m : M Cell) : M D := bnd m fun c => match c with
  | .lst ds => rt (.lst ds)
  | .dct _ => fail
/-- name = [..] on one line -/
theorem st_setLc {i : Nat} {y : Str} {py spos : Pos} {elt tg iter : Expr} {ifs : List Expr} {scope : Scope} {own : List (Str × Nat)} {ts : List Nat} {ms : M Src} {f : D → M Unit} {cond : M Bool} {me : M D} (hc : X.calm = true) (hN : X.N.Nodup) (hy : X.N[i]? = some y) (hyl : X.env.scope.names.lookup y = some .local)
    (hsw : swapsWith (.ListComp elt [⟨tg, iter, ifs, 0⟩] scope pos) (some (.Name y py)) spos.line X.env = pure true) (hi : PIt X W tg iter ms) (ok : BlkOk X.N X.env.scope scope own)
    (hg : ∀ (s : Shared) (H : Hp) (C : Addr) (cl : List (Str × Addr)) (fp : List Addr), PTg (X.blk s H scope (compEnvC scope cl C X.env) fp) WF tg ts f)
    (ht : ∀ (s : Shared) (H : Hp) (C : Addr) (cl : List (Str × Addr)) (fp : List Addr), PTsv (X.blk s H scope (compEnvC scope cl C X.env) fp) WF ifs cond)
    (he : ∀ (s : Shared) (H : Hp) (C : Addr) (cl : List (Str × Addr)) (fp : List Addr), PEv (X.blk s H scope (compEnvC scope cl C X.env) fp) WF elt me)
    (hts : ∀ i ∈ ts, i ∈ own.map (·.2)) (hs : ∀ x, foldedSetIterable iter X.env x = pure x := by intro _; rfl) :
    PSv X W (.Assign [.Name y py] (.ListComp elt [⟨tg, iter, ifs, 0⟩] scope pos) spos) (asgS (frzL (compM (.lst []) ms f cond (stepL me) (own.map (·.2)))) (setM i)) := by
  refine PS.weak (ps_setLc (g := tTg X.K X.mg WF ts f) (tt := tT X.K X.mg WF cond) (te := tG X.K X.mg WF (rE X.K) me) hc hN hy hyl hsw hi ok hg ht he hs) fun D σ H q => ?_
  obtain ⟨Z, S, rfl, R, hw⟩ := q
  refine lc_go hts ⟨Z, S, rfl, R, ?_⟩
  have hw' := WpS.nx hw
  rw [bnd_app] at hw'
  unfold frzL at hw'
  rw [bnd_app] at hw'
  cases e1 : compM (.lst []) ms f cond (stepL me) (own.map (·.2)) S.env S.st with
  | bad => rw [e1] at hw'; exact hw'.elim
  | exc x e' s' => rw [e1] at hw'; exact fun S' h1 h2 R' T' => hw' σ S' h1 h2 R' T'
  | ok c e' s' =>
    rw [e1] at hw'
    intro S' h1 h2 R' T' v rv
    obtain ⟨p, rfl, hp, hz, R2, hcl⟩ := rv
    cases c with
    | lst ds =>
      have r : Rp (S'.wd X.K Z) (.lst ds) (.ref p) := hcl.frozen le_freeze (R2.notMu_z hz) rfl
      exact hw' _ (S'.putSlot i (.lst ds)) (by show S'.env.set i _ = _; rw [h1]) h2 (R'.slot r) (T'.trans Tr.slot)
    | dct kvs => exact hw'.elim
end
end QB

/-! The pure layer, part 14: isinstance, sorted, max and min of a list, dicts, methods. -/
namespace QB
open PySem PySem.Spec PyProof.Rows L2 PySem.W

/-! ### isinstance -/
inductive Ty where
  | int | bool | str | tuple | list | dict
  deriving DecidableEq
def Ty.nm : Ty → String
  | .int => "int" | .bool => "bool" | .str => "str" | .tuple => "tuple" | .list => "list" | .dict => "dict"
def tyD : D → String
  | .non => "NoneType" | .bl _ => "bool" | .int _ => "int" | .str _ => "str" | .tup _ => "tuple" | .lst _ => "list" | .wls _ => "list" | .dct _ => "dict" | .ref _ => ""
def isTy : Ty → D → Bool
  | .int, .int _ => true
  | .int, .bl _ => true
  | .bool, .bl _ => true
  | .str, .str _ => true
  | .tuple, .tup _ => true
  | .list, .lst _ => true
  | .list, .wls _ => true
  | .dict, .dct _ => true
  | _, _ => false
theorem kit_isTy {K : PySem.W.Frag} (T : Ty) (d : D) (h : ∀ k, d ≠ .ref k) : PySem.W.kitOne K (.type (tyD d)) (.type T.nm) = some (isTy T d) := by
  cases d <;> cases T <;> first | rfl | exact absurd rfl (h _)
theorem kit_any {K : PySem.W.Frag} (d : D) (h : ∀ k, d ≠ .ref k) : ∀ Ts : List Ty, PySem.W.kitAny K (.type (tyD d)) (Ts.map fun T : Ty => Value.type T.nm) = some (Ts.any fun T => isTy T d)
  | [] => rfl
  | T :: Ts => by
    show (match PySem.W.kitOne K (.type (tyD d)) (.type T.nm) with | some true => some true | some false => PySem.W.kitAny K (.type (tyD d)) (Ts.map fun T : Ty => Value.type T.nm) | none => none) = _
    rw [kit_isTy T d h]
    cases e : isTy T d with
    | true => simp [e]
    | false => simp only [List.any_cons, e, Bool.false_or]; exact kit_any d h Ts
theorem ty_of {w : Wd} {d : D} {v : V} (r : Rt w d v) : TyX w.K w.H v (.type (tyD d)) := by
  cases d with
  | non => cases (show v = .non from r); exact .base .non
  | bl b => cases (show v = .bl b from r); exact .base (.bl b)
  | int b => cases (show v = .int b from r); exact .base (.int b)
  | str b => cases (show v = .str b from r); exact .base (.str b)
  | tup ds =>
    obtain ⟨a, xs, rfl, h1, _⟩ := r
    rcases h1 with ⟨_, h | ⟨o, h⟩⟩ | ⟨o, its, n, e, hc, _⟩
    · exact .base (.tup h)
    · exact .fTuple h
    · exact .kTuple e hc
  | lst ds =>
    obtain ⟨a, xs, rfl, h, _⟩ := r
    exact .base (.lst h)
  | wls ds =>
    obtain ⟨a, xs, rfl, h1, _⟩ := r
    rcases h1 with ⟨_, h | ⟨o, h⟩⟩ | ⟨o, its, n, e, hc, _⟩
    · exact .base (.lst h)
    · exact .base (.frz h)
    · exact .kList e hc
  | dct ds =>
    obtain ⟨a, xs, rfl, h, _⟩ := r
    rcases h with h | ⟨o, h⟩
    · exact .base (.dK h)
    · exact .fDict h
  | ref k => exact r.elim
def isiM (Ts : List Ty) (ma : M Bv) : M D := bnd ma fun x => bnd (rd x) fun d => rt (.bl (Ts.any fun T => isTy T d))
section
variable {X : Cx} {W : WX} {a b e : Expr} {pos p p2 : Pos} {ma : M Bv}
theorem Rt.nref {w : Wd} {d : D} {v : V} (r : Rt w d v) : ∀ k, d ≠ .ref k := fun k e => by rw [e] at r; exact r
theorem ev_isi (T : Ty) {y : Str} (hm : X.mg "isinstance" = none) (hm2 : X.mg y = none) (hb : bootBuiltins y = some (.type T.nm)) (ha : PBv X W a ma) (hg : Gl X "isinstance" := by rfl) (hg2 : Gl X y := by rfl)
    (hdb : (y == ("__debug__" : Str)) = false := by decide) (hny : y ≠ "__name__" := by decide)
    (hst : starEach [a, .Name y p2] X.env = (false, eval a X.env) :: starEach [.Name y p2] X.env := by rfl) (hst2 : starEach [.Name y p2] X.env = (false, eval (.Name y p2) X.env) :: starEach [] X.env := by rfl)
    (hpl : (backTo pos (starEach [.Name y p2] X.env)).any (·.1) = false := by rfl) : PEv X W (.Call (.Name "isinstance" p) [a, .Name y p2] [] pos) (isiM [T] ma) := by
  refine PE.weak (pe_callB call_isi hg hm rfl (pa_cons ha (pa_cons (pe_bltn hg2 hm2 hb (v := .ty T.nm) rfl hny hdb) pa_nil hst2) hst) (by decide) (by decide) hst hpl) fun σ H Q q => ?_
  obtain ⟨Z, S, rfl, R, hw⟩ := q
  refine ⟨Z, S, rfl, R, Wp.bnd hw fun x S1 R1 T1 h1 u r1 => ?_⟩
  obtain ⟨d, t1, h2⟩ := R1.rd_ok (S0 := S) r1 h1
  refine ⟨u, .ty T.nm, .type (tyD d), .type T.nm, isTy T d, rfl, .ty _, ty_of t1, kit_isTy T d t1.nref, ?_⟩
  have := (Wp.fin R1 h2).now (v := .bl (isTy T d)) (by show Rp _ _ _; unfold Rp; simp)
  exact this
theorem ev_isi2 (T U : Ty) {y z : Str} {p3 p4 : Pos} {k : Nat} (hm : X.mg "isinstance" = none) (hm2 : X.mg y = none) (hm3 : X.mg z = none) (hb : bootBuiltins y = some (.type T.nm)) (hb2 : bootBuiltins z = some (.type U.nm)) (ha : PBv X W a ma) (hg : Gl X "isinstance" := by rfl) (hg2 : Gl X y := by rfl) (hg3 : Gl X z := by rfl)
    (hdb : (y == ("__debug__" : Str)) = false := by decide) (hny : y ≠ "__name__" := by decide) (hdb2 : (z == ("__debug__" : Str)) = false := by decide) (hny2 : z ≠ "__name__" := by decide)
    (hst : starEach [a, .Tuple [.Name y p2, .Name z p3] k p4] X.env = (false, eval a X.env) :: starEach [.Tuple [.Name y p2, .Name z p3] k p4] X.env := by rfl)
    (hst2 : starEach [.Tuple [.Name y p2, .Name z p3] k p4] X.env = (false, eval (.Tuple [.Name y p2, .Name z p3] k p4) X.env) :: starEach [] X.env := by rfl)
    (hst3 : starEach [.Name y p2, .Name z p3] X.env = (false, eval (.Name y p2) X.env) :: starEach [.Name z p3] X.env := by rfl) (hst4 : starEach [.Name z p3] X.env = (false, eval (.Name z p3) X.env) :: starEach [] X.env := by rfl)
    (hpl : (backTo pos (starEach [.Tuple [.Name y p2, .Name z p3] k p4] X.env)).any (·.1) = false := by rfl) : PEv X W (.Call (.Name "isinstance" p) [a, .Tuple [.Name y p2, .Name z p3] k p4] [] pos) (isiM [T, U] ma) := by
  refine PE.weak (pe_callB call_isiT hg hm rfl (pa_cons ha (pa_cons (pe_tup (pa_cons (pe_bltn hg2 hm2 hb (v := .ty T.nm) rfl hny hdb) (pa_cons (pe_bltn hg3 hm3 hb2 (v := .ty U.nm) rfl hny2 hdb2) pa_nil hst4) hst3)) pa_nil hst2) hst) (by decide) (by decide) hst hpl) fun σ H Q q => ?_
  obtain ⟨Z, S, rfl, R, hw⟩ := q
  refine ⟨Z, S, rfl, R, Wp.bnd hw fun x S1 R1 T1 h1 u r1 => ?_⟩
  obtain ⟨d, t1, h2⟩ := R1.rd_ok (S0 := S) r1 h1
  refine ⟨by show 2 ≤ sizeLine; rw [sizeLine_eq]; decide, fun q hq => ?_⟩
  have t2 : Rt ((S1.up (upd S1.H q (.tup [.ty T.nm, .ty U.nm]))).wd X.K Z) d u := ((Tr.up (ext_new hq)).le (K := X.K) (Z := Z)).rt_still (ext_new hq) t1
  refine ⟨u, q, [.ty T.nm, .ty U.nm], .type (tyD d), [.type T.nm, .type U.nm], [T, U].any fun T => isTy T d, rfl, upd_same, .cons (.ty _) (.cons (.ty _) .nil), ty_of t2, kit_any d t1.nref [T, U], ?_⟩
  exact (Wp.fin R1 h2) _ (ext_new hq) _ (by unfold Rp; rfl)
end
/-! ### sorted -/
def leS : D → D → Bool := dataLe false toP
def isInt : D → Bool
  | .int _ => true
  | _ => false
def isPair : D → Bool
  | .tup [.int _, .int _] => true
  | _ => false
def okSort (ds : List D) : Bool := ds.all isInt || ds.all isPair
def sortedD : D → Option Cell
  | .lst ds => if okSort ds = true then some (.lst (ds.mergeSort leS)) else none
  | .wls ds => if okSort ds = true then some (.lst (ds.mergeSort leS)) else none
  | _ => none
theorem isInt_of {d : D} (h : isInt d = true) : ∃ i, d = .int i := by cases d <;> first | exact ⟨_, rfl⟩ | cases h
theorem isPair_of {d : D} (h : isPair d = true) : ∃ i j, d = .tup [.int i, .int j] := by
  unfold isPair at h
  split at h
  · exact ⟨_, _, rfl⟩
  · cases h
theorem okSort_ok {ds : List D} (h : okSort ds = true) : AllAlike (ds.map toP) ∧ Sortable (ds.map toP) ∧ ∀ d ∈ ds, okN 2 d = true ∧ (toP d).depth ≤ 60 := by
  unfold okSort at h
  rw [Bool.or_eq_true] at h
  rcases h with h | h
  · have h' : ∀ d ∈ ds, ∃ i, d = .int i := fun d hd => isInt_of (List.all_eq_true.mp h d hd)
    refine ⟨fun d hd d' hd' => ?_, .inr fun d hd => ?_, fun d hd => ?_⟩
    · obtain ⟨x, hx, rfl⟩ := List.mem_map.mp hd
      obtain ⟨y, hy, rfl⟩ := List.mem_map.mp hd'
      obtain ⟨i, rfl⟩ := h' x hx
      obtain ⟨j, rfl⟩ := h' y hy
      rfl
    · obtain ⟨x, hx, rfl⟩ := List.mem_map.mp hd
      obtain ⟨i, rfl⟩ := h' x hx
      exact ⟨(fun z => by cases z), fun xs z => by cases z⟩
    · obtain ⟨i, rfl⟩ := h' d hd
      exact ⟨rfl, by simp [toP, PyData.depth]⟩
  · have h' : ∀ d ∈ ds, ∃ i j, d = .tup [.int i, .int j] := fun d hd => isPair_of (List.all_eq_true.mp h d hd)
    refine ⟨fun d hd d' hd' => ?_, .inl fun d hd => ?_, fun d hd => ?_⟩
    · obtain ⟨x, hx, rfl⟩ := List.mem_map.mp hd
      obtain ⟨y, hy, rfl⟩ := List.mem_map.mp hd'
      obtain ⟨i, j, rfl⟩ := h' x hx
      obtain ⟨k, l, rfl⟩ := h' y hy
      rfl
    · obtain ⟨x, hx, rfl⟩ := List.mem_map.mp hd
      obtain ⟨i, j, rfl⟩ := h' x hx
      exact ⟨_, _, rfl⟩
    · obtain ⟨i, j, rfl⟩ := h' d hd
      exact ⟨rfl, by simp [toP, toPs, PyData.depth, PyData.depthAll]⟩
def rSortedD (K : PySem.W.Frag) : List V → Hp → VK → Prop := fun vs H Q => ∃ (a : Addr) (ps : List (V × D)), vs = [V.ref a] ∧ SqL K H a (ps.map (·.1)) ∧ (∀ p ∈ ps, Dp K H p.1 (toP p.2)) ∧ AllAlike (ps.map fun p => toP p.2) ∧ Sortable (ps.map fun p => toP p.2) ∧ (∀ p ∈ ps, (toP p.2).depth ≤ 60) ∧
  ∀ p, H p = none → Q (.ref p) (upd H p (.lst ((ps.mergeSort (dataLe false fun q => toP q.2)).map (·.1))))
theorem each_zip {X : Cx} {pins : List (Addr × Obj)} {σ : L2.St} {H : Hp} {s : Shared} (I : Inv X pins σ H s) : ∀ {ps : List (V × D)} {us : List Value}, Vals (ps.map (·.1)) us → (∀ p ∈ ps, Dp X.K H p.1 (toP p.2)) →
    EachIs (fun v (p : V × D) => RelV p.1 v) us ps ∧ EachIs (fun v (p : V × D) => ∃ as, Reads s.heap v (toP p.2) as) us ps
  | [], _, h, _ => by cases h; exact ⟨.nil, .nil⟩
  | p :: ps, _, h, hd => by
    cases h with
    | cons r rr =>
      obtain ⟨h1, h2⟩ := each_zip I rr fun q hq => hd q (List.mem_cons_of_mem _ hq)
      exact ⟨.cons r h1, .cons (Dp.reads I _ _ _ (hd p List.mem_cons_self) r) h2⟩
theorem each_vals : ∀ {ps : List (V × D)} {us : List Value}, EachIs (fun v (p : V × D) => RelV p.1 v) us ps → Vals (ps.map (·.1)) us
  | _, _, .nil => .nil
  | _, _, .cons r rr => .cons r (each_vals rr)
theorem cr_sortedD {X : Cx} (hu : X.A.units + 65 < cLine) : CallR X (.builtin "sorted") (rSortedD X.K) := by
  intro pins s σ H vs us Q I r h
  obtain ⟨a, ps, rfl, hs, hd, hal, hk, hdep, q⟩ := h
  obtain ⟨its, rv, hl, hz⟩ := I.list hs
  rw [Vals.ref1 r]
  obtain ⟨h1, h2⟩ := each_zip I rv hd
  have hz' : ps.length ≤ sizeLine := by rw [List.length_map] at hz; exact hz
  refine sorted_data (enc := fun p => toP p.2) hl.isList h1 h2 hal hk hz' (fun b hb => by have := hdep b hb; omega) fun out ho eo => ?_
  obtain ⟨ep, he'⟩ := PyProof.Rows.sortedAll_at s.heap its out.toArray
  have hlen : ((ps.mergeSort (dataLe false fun q => toP q.2)).map (·.1)).length ≤ sizeLine := by
    rw [List.length_map, List.length_mergeSort]; exact hz'
  exact ⟨.ref _, upd H (s.heap.objs.size + 1) (.lst ((ps.mergeSort (dataLe false fun q => toP q.2)).map (·.1))), I.laid (t' := s.toks) (fun _ _ => PyProof.Rows.sortedAll_old) (Nat.le_succ _) ⟨hlen, out, ep, each_vals eo, he'⟩, rfl, q _ (I.hok.fresh (Nat.le_succ _))⟩
theorem rpL_pairs {w : Wd} : ∀ {ps : List (V × D)}, (∀ p ∈ ps, Rp w p.2 p.1) → RpL w (ps.map (·.2)) (ps.map (·.1))
  | [], _ => .nil
  | p :: ps, h => .cons (h p List.mem_cons_self) (rpL_pairs fun q hq => h q (List.mem_cons_of_mem _ hq))
theorem pairs_of_rpL {w : Wd} : ∀ {ds : List D} {xs : List V}, RpL w ds xs → ∃ ps : List (V × D), ps.map (·.1) = xs ∧ ps.map (·.2) = ds ∧ ∀ p ∈ ps, Rp w p.2 p.1
  | [], _, h => ⟨[], h.of_nil.symm, rfl, fun p hp => by cases hp⟩
  | d :: ds, _, h => by
    obtain ⟨x, xs, rfl, h1, h2⟩ := h.of_cons
    obtain ⟨ps, e1, e2, e3⟩ := pairs_of_rpL h2
    refine ⟨(x, d) :: ps, by simp [e1], by simp [e2], fun p hp => ?_⟩
    rcases List.mem_cons.mp hp with rfl | hp
    · exact h1
    · exact e3 p hp
theorem sort_pairs (ps : List (V × D)) : (ps.mergeSort (dataLe false fun q : V × D => toP q.2)).map (·.2) = (ps.map (·.2)).mergeSort leS := by
  refine List.map_mergeSort (f := fun q : V × D => q.2) (r := dataLe false fun q : V × D => toP q.2) (s := leS) ?_
  intro a ha b hb
  rfl
theorem c1_sorted {X : Cx} : C1F X sortedD (rSortedD X.K) := by
  intro Z σ S x u c Q R t e k
  have key : ∀ (a : Addr) (ds : List D) (xs : List V), u = .ref a → SqL X.K S.H a xs → RpL (S.wd X.K Z) ds xs → okSort ds = true → FinF X.K Z S (.lst (ds.mergeSort leS)) Q → rSortedD X.K [u] S.H Q := by
    intro a ds xs eu hs r ok k
    obtain ⟨h1, h2, h3⟩ := okSort_ok ok
    obtain ⟨ps, e1, e2, e3⟩ := pairs_of_rpL r
    subst e1 e2
    rw [List.map_map] at h1 h2
    refine ⟨a, ps, by rw [eu], hs, fun p hp => ?_, h1, h2, fun p hp => (h3 p.2 (List.mem_map.mpr ⟨p, hp, rfl⟩)).2, ?_⟩
    · exact dp_of 2 p.2 p.1 (h3 p.2 (List.mem_map.mpr ⟨p, hp, rfl⟩)).1 (e3 p hp)
    · refine k.lst R ?_
      rw [← sort_pairs]
      exact rpL_pairs fun p hp => e3 p (List.mem_mergeSort.mp hp)
  cases x with
  | lst ds =>
    obtain ⟨a, xs, rfl, h1, r1⟩ := t
    have e : (if okSort ds = true then some (Cell.lst (ds.mergeSort leS)) else none) = some c := e
    split at e
    · rename_i ok; cases e; exact key a ds xs rfl (.inl (.inl h1)) r1 ok k
    · cases e
  | wls ds =>
    obtain ⟨a, xs, rfl, h1, r1⟩ := t
    have e : (if okSort ds = true then some (Cell.lst (ds.mergeSort leS)) else none) = some c := e
    split at e
    · rename_i ok; cases e; exact key a ds xs rfl h1.sq r1 ok k
    · cases e
  | _ => cases e
/-! ### max, min of a list -/
def maxL : List Int → Int
  | [] => 0
  | [a] => a
  | a :: r => if a < maxL r then maxL r else a
def minL : List Int → Int
  | [] => 0
  | [a] => a
  | a :: r => if minL r < a then minL r else a
theorem maxL_mem : ∀ {ns : List Int}, ns ≠ [] → maxL ns ∈ ns ∧ ∀ y ∈ ns, y ≤ maxL ns
  | [], h => absurd rfl h
  | [a], _ => ⟨by simp [maxL], by simp [maxL]⟩
  | a :: b :: r, _ => by
    obtain ⟨h1, h2⟩ := maxL_mem (ns := b :: r) (by simp)
    have e : maxL (a :: b :: r) = if a < maxL (b :: r) then maxL (b :: r) else a := rfl
    rw [e]
    split
    · refine ⟨List.mem_cons_of_mem _ h1, fun y hy => ?_⟩
      rcases List.mem_cons.mp hy with rfl | hy
      · omega
      · exact h2 y hy
    · refine ⟨List.mem_cons_self, fun y hy => ?_⟩
      rcases List.mem_cons.mp hy with rfl | hy
      · omega
      · have := h2 y hy; omega
theorem minL_mem : ∀ {ns : List Int}, ns ≠ [] → minL ns ∈ ns ∧ ∀ y ∈ ns, minL ns ≤ y
  | [], h => absurd rfl h
  | [a], _ => ⟨by simp [minL], by simp [minL]⟩
  | a :: b :: r, _ => by
    obtain ⟨h1, h2⟩ := minL_mem (ns := b :: r) (by simp)
    have e : minL (a :: b :: r) = if minL (b :: r) < a then minL (b :: r) else a := rfl
    rw [e]
    split
    · refine ⟨List.mem_cons_of_mem _ h1, fun y hy => ?_⟩
      rcases List.mem_cons.mp hy with rfl | hy
      · omega
      · exact h2 y hy
    · refine ⟨List.mem_cons_self, fun y hy => ?_⟩
      rcases List.mem_cons.mp hy with rfl | hy
      · omega
      · have := h2 y hy; omega
def listI : D → Option (List Int)
  | .lst ds => intsOf ds
  | .wls ds => intsOf ds
  | _ => none
def maxD (d : D) : Option D := (listI d).bind fun ns => match ns with
  | [] => none
  | n :: r => some (.int (maxL (n :: r)))
def minD (d : D) : Option D := (listI d).bind fun ns => match ns with
  | [] => none
  | n :: r => some (.int (minL (n :: r)))
theorem listI_ok {K : PySem.W.Frag} {Z : Addr → Prop} {S : S8} {d : D} {u : V} {ns : List Int} (t : Rt (S.wd K Z) d u) (h : listI d = some ns) : ∃ a, u = .ref a ∧ SqL K S.H a (ns.map V.int) := by
  cases d with
  | lst ds =>
    obtain ⟨a, xs, rfl, h1, r1⟩ := t
    have h : intsOf ds = some ns := h
    rw [intsOf_map h] at r1
    exact ⟨a, rfl, by rw [← r1.of_ints]; exact .inl (.inl h1)⟩
  | wls ds =>
    obtain ⟨a, xs, rfl, h1, r1⟩ := t
    have h : intsOf ds = some ns := h
    rw [intsOf_map h] at r1
    exact ⟨a, rfl, by rw [← r1.of_ints]; exact h1.sq⟩
  | _ => cases h
theorem c1_max {X : Cx} : C1S X maxD (rMax X.K) := by
  intro Z σ S x u d Q R t e k
  unfold maxD at e
  cases q : listI x with
  | none => rw [q] at e; cases e
  | some ns =>
    rw [q] at e
    cases ns with
    | nil => cases e
    | cons n r =>
      cases e
      obtain ⟨a, rfl, hs⟩ := listI_ok t q
      refine ⟨a, n :: r, rfl, hs, by simp, fun m hm hall => ?_⟩
      obtain ⟨h1, h2⟩ := maxL_mem (ns := n :: r) (by simp)
      have : m = maxL (n :: r) := by
        have a := h2 m hm
        have b := hall _ h1
        omega
      rw [this]; exact k.now rp_int
theorem c1_min {X : Cx} : C1S X minD (rMin X.K) := by
  intro Z σ S x u d Q R t e k
  unfold minD at e
  cases q : listI x with
  | none => rw [q] at e; cases e
  | some ns =>
    rw [q] at e
    cases ns with
    | nil => cases e
    | cons n r =>
      cases e
      obtain ⟨a, rfl, hs⟩ := listI_ok t q
      refine ⟨a, n :: r, rfl, hs, by simp, fun m hm hall => ?_⟩
      obtain ⟨h1, h2⟩ := minL_mem (ns := n :: r) (by simp)
      have : m = minL (n :: r) := by
        have a := h2 m hm
        have b := hall _ h1
        omega
      rw [this]; exact k.now rp_int
end QB

/-! The pure layer, part 15: dicts made, methods. -/
namespace QB
open PySem PySem.Spec PyProof.Rows L2

section
variable {X : Cx} {W : WX} {pos : Pos}
theorem dc_go {K : PySem.W.Frag} {mg : Str → Option Value} {W : WX} {ts vs : List Nat} {ms : M Src} {f : D → M Unit} {cond : M Bool} {kx vx : M D} (hts : ∀ i ∈ ts, i ∈ vs) {σ : L2.St} {H : Hp} {Q : VK}
    (q : tG K mg W (rF K) (compM (.dct []) ms f cond (stepD kx vx) vs) σ H Q) : tDc (tGI K mg W ms) (tTg K mg WF ts f) (tT K mg WF cond) (tG K mg WF (rE K) kx) (tG K mg WF (rE K) vx) vs σ H Q := by
  obtain ⟨Z, S, rfl, R, hw⟩ := q
  refine ⟨Z, S, rfl, R, Wp.bnd hw fun sr S1 R1 T1 h1 J ok Dd hD => ?_⟩
  cases e0 : noOwn S1.env vs with
  | false => rw [e0] at h1; exact h1.elim
  | true =>
    cases e1 : sr.items S1.st with
    | none => rw [e0, e1] at h1; exact h1.elim
    | some l =>
      rw [e0, e1] at h1
      dsimp only at h1
      cases e2 : compGo f cond (stepD kx vx) vs sr l.length 0 (.dct []) (wipeE S1.env vs) S1.st with
      | bad => rw [e2] at h1; exact h1.elim
      | exc _ _ _ => rw [e2] at h1; exact h1.elim
      | ok c e' s' =>
        rw [e2] at h1
        dsimp only at h1
        have hSD : S.H Dd = none := by
          cases e : S.H Dd with
          | none => rfl
          | some o => exact absurd hD (T1.dom Dd (by rw [e]; intro z; cases z))
        have hzD : ¬ Z Dd := fun z => R1.zt Dd z hD
        refine ⟨CW K Z σ vs Dd S1 (compGo f cond (stepD kx vx) vs sr) (fun _ S' => Q (.ref Dd) S'.H), ⟨l.length, ?_⟩, ?_⟩
        · have R2 : Rel K (addZ Z Dd) σ (S1.up (upd S1.H Dd (.dK []))) := R1.addNew hD
          refine ⟨(S1.up (upd S1.H Dd (.dK []))).wip vs, .dct [], rfl, R2.wip vs, (Tr.up (ext_new hD)).trans Tr.wip, ⟨[], upd_same, RpK.nil⟩, c, e', s', e2, ?_⟩
          intro S' h2 h3 R3 T3 hc
          have R4 := R1.unw R3 (le_addZ T3 hD) e0
          have hl : S1.env.length = S'.env.length := by rw [R1.len, R3.len, wipe_length]
          have hcont := fun p c => cont_unw (S := S') (p := p) (c := c) hl e0
          have T4 : Tr S' (S'.unw S1.env vs) := Tr.sub rfl rfl rfl hcont
          exact h1 (S'.unw S1.env vs) (by show unE S1.env S'.env vs = _; rw [h2]) h3 R4.dropZ (T3.trans T4) _ ⟨Dd, rfl, hSD, hzD, R4, (T4.le (K := K) (Z := addZ Z Dd)).cell rfl hc⟩
        · intro i m H hcw
          have hstep : ∀ (σ2 : L2.St) (S3 : S8) (acc : Cell) (Nx : Hp → Prop), Rel K (addZ Z Dd) σ2 S3 → Tr S1 S3 → CellAt (S3.wd K (addZ Z Dd)) acc Dd →
              (∃ acc' e3 s3, stepD kx vx acc S3.env S3.st = .ok acc' e3 s3 ∧ ∀ S4, S4.env = e3 → S4.st = s3 → Rel K (addZ Z Dd) σ2 S4 → Tr S1 S4 → CellAt (S4.wd K (addZ Z Dd)) acc' Dd → Nx S4.H) →
              tG K mg WF (rE K) kx σ2 S3.H fun y H4 => tG K mg WF (rE K) vx σ2 H4 fun z H5 => ∃ kvs k, y = kV k ∧ H5 Dd = some (.dK kvs) ∧ kvs.length < sizeLine ∧ Nx (upd H5 Dd (.dK (putK kvs k z))) := by
            intro σ2 S3 acc Nx R3 T3 hc3 ⟨acc', e3, s3, hst, hnx⟩
            refine ⟨addZ Z Dd, S3, rfl, R3, ?_⟩
            obtain ⟨y, e4, s4, h2, h3⟩ := bnd_ok hst
            refine Wp.okd h2 fun S4 h4 h5 R4 T4 v rv => ?_
            refine ⟨addZ Z Dd, S4, rfl, R4, ?_⟩
            rw [← h4, ← h5] at h3
            obtain ⟨z, e6, s6, h6, h7⟩ := bnd_ok h3
            refine Wp.okd h6 fun S5 h8 h9 R5 T5 u ru => ?_
            have hc5 := T5.cellZ R4 (T4.cellZ R3 hc3)
            cases acc with
            | lst _ => cases h7
            | dct kvs =>
              dsimp only at h7
              cases ek : keyOf y with
              | none => rw [ek] at h7; cases h7
              | some kk =>
                rw [ek] at h7
                obtain ⟨h10, h11⟩ := chk_ok h7
                cases h11
                obtain ⟨xs, hx, rx⟩ := hc5
                refine ⟨xs, kk, keyOf_rp ek rv, hx, by rw [rx.length]; exact szOk_lt h10, ?_⟩
                have R6 := R5.turn (o := .dK (putK xs kk u)) (.inr rfl)
                refine hnx (S5.up (upd S5.H Dd (.dK (putK xs kk u)))) h8 h9 R6 ((T3.trans (T4.trans T5)).turn hD) ⟨_, upd_same, ?_⟩
                have lt := le_turn (K := K) (S := S5) (Z := addZ Z Dd) (o := .dK (putK xs kk u)) (.inl (.inr rfl))
                exact (lt.rpK _ _ rx).put (lt.rp _ _ ru)
          rcases comp_turn (te := fun σ2 H3 Nx => tG K mg WF (rE K) kx σ2 H3 fun y H4 => tG K mg WF (rE K) vx σ2 H4 fun z H5 => ∃ kvs k, y = kV k ∧ H5 Dd = some (.dK kvs) ∧ kvs.length < sizeLine ∧ Nx (upd H5 Dd (.dK (putK kvs k z)))) (mg := mg) (cond := cond) (f := f) (ts := ts) hD ok hts hstep i m H hcw with ⟨hs, S', c', rfl, hq⟩ | h
          · exact .inl ⟨hs, hq⟩
          · exact .inr h

theorem fr_dc {kx vx tg iter : Expr} {ifs : List Expr} {scope : Scope} {own : List (Str × Nat)} {ts : List Nat} {ms : M Src} {f : D → M Unit} {cond : M Bool} {mk mv : M D} (hc : X.calm = true) (hN : X.N.Nodup) (hi : PIt X W tg iter ms) (ok : BlkOk X.N X.env.scope scope own)
    (hg : ∀ (s : Shared) (H : Hp) (C : Addr) (cl : List (Str × Addr)) (fp : List Addr), PTg (X.blk s H scope (compEnvC scope cl C X.env) fp) WF tg ts f)
    (ht : ∀ (s : Shared) (H : Hp) (C : Addr) (cl : List (Str × Addr)) (fp : List Addr), PTsv (X.blk s H scope (compEnvC scope cl C X.env) fp) WF ifs cond)
    (hk : ∀ (s : Shared) (H : Hp) (C : Addr) (cl : List (Str × Addr)) (fp : List Addr), PEv (X.blk s H scope (compEnvC scope cl C X.env) fp) WF kx mk)
    (he : ∀ (s : Shared) (H : Hp) (C : Addr) (cl : List (Str × Addr)) (fp : List Addr), PEv (X.blk s H scope (compEnvC scope cl C X.env) fp) WF vx mv)
    (hts : ∀ i ∈ ts, i ∈ own.map (·.2)) (hs : ∀ x, foldedSetIterable iter X.env x = pure x := by intro _; rfl) :
    PFr X W (.DictComp kx vx [⟨tg, iter, ifs, 0⟩] scope pos) (compM (.dct []) ms f cond (stepD mk mv) (own.map (·.2))) :=
  PE.weak (pe_dc (g := tTg X.K X.mg WF ts f) (tt := tT X.K X.mg WF cond) (tk := tG X.K X.mg WF (rE X.K) mk) (tv := tG X.K X.mg WF (rE X.K) mv) hc hN hi ok hg ht hk he hs) fun _ _ _ q => dc_go hts q
theorem fr_dnew : PFr X W (.Dict [] [] pos) (rt (.dct [])) := by
  refine PE.weak pe_dnewK fun σ H Q q => ?_
  obtain ⟨Z, S, rfl, R, hw⟩ := q
  intro p hp
  exact hw (S.up (upd S.H p (.dK []))) rfl rfl (R.up (ext_new hp)) (Tr.up (ext_new hp)) _ ⟨p, rfl, hp, fun z => R.zt p z hp, R.addNew hp, [], upd_same, RpK.nil⟩
/-! ### dict(pairs) -/
def pairsOf : List D → Option (List (Key × D))
  | [] => some []
  | .tup [k, v] :: r => (keyOf k).bind fun kk => (pairsOf r).map ((kk, v) :: ·)
  | _ => none
def mergeD (kvs : List (Key × D)) : List (Key × D) → List (Key × D)
  | [] => kvs
  | (k, v) :: r => mergeD (putD kvs k v) r
theorem rpK_merge {w : Wd} : ∀ {more : List (Key × D)} {kvs : List (Key × D)} {es ms : List (Key × V)}, RpK w kvs es → RpK w more ms → RpK w (mergeD kvs more) (mergeK es ms)
  | [], kvs, es, ms, h, h2 => by rw [h2.of_nil]; exact h
  | (k, v) :: r, kvs, es, ms, h, h2 => by
    obtain ⟨x, xs, rfl, h3, h4⟩ := h2.of_cons
    show RpK w (mergeD (putD kvs k v) r) (mergeK (putK es k x) xs)
    exact rpK_merge (h.put h3) h4
theorem pairs_ok {K : PySem.W.Frag} {Z : Addr → Prop} {S : S8} : ∀ {ds : List D} {xs : List V} {kvs : List (Key × D)}, RpL (S.wd K Z) ds xs → pairsOf ds = some kvs →
    ∃ ps es, xs = ps.map V.ref ∧ Paired (fun p (kv : Key × V) => SqT K S.H p [kV kv.1, kv.2]) ps es ∧ RpK (S.wd K Z) kvs es
  | [], _, _, h, e => by cases e; exact ⟨[], [], h.of_nil, .nil, RpK.nil⟩
  | d :: ds, _, kvs, h, e => by
    obtain ⟨x, xs, rfl, h1, h2⟩ := h.of_cons
    unfold pairsOf at e
    split at e
    · rename_i h0; cases h0
    · rename_i k v r h0
      cases h0
      cases ek : keyOf k with
      | none => rw [ek] at e; cases e
      | some kk =>
        rw [ek] at e
        cases er : pairsOf ds with
        | none => rw [er] at e; cases e
        | some l =>
          rw [er] at e; cases e
          obtain ⟨ps, es, rfl, hp, hk⟩ := pairs_ok h2 er
          unfold Rp at h1
          obtain ⟨a, ys, rfl, ht, hy⟩ := h1
          obtain ⟨y1, ys1, rfl, r1, hy1⟩ := hy.of_cons
          obtain ⟨y2, ys2, rfl, r2, hy2⟩ := hy1.of_cons
          rw [hy2.of_nil, keyOf_rp ek r1] at ht
          exact ⟨a :: ps, (kk, y2) :: es, rfl, .cons ht.sq hp, .cons r2 hk⟩
    · cases e
def rDictP (K : PySem.W.Frag) : List V → Hp → VK → Prop := fun xs H Q => ∃ (a : Addr) (ps : List Addr) (kvs : List (Key × V)), xs = [.ref a] ∧ SqL K H a (ps.map V.ref) ∧ Paired (fun p kv => SqT K H p [kV kv.1, kv.2]) ps kvs ∧
  ∀ p, H p = none → Q (.ref p) (upd H p (.dK (mergeK [] kvs)))
def dictD : D → Option Cell
  | .lst ds => (pairsOf ds).map fun kvs => .dct (mergeD [] kvs)
  | .wls ds => (pairsOf ds).map fun kvs => .dct (mergeD [] kvs)
  | _ => none
theorem c1_dict : C1F X dictD (rDictP X.K) := by
  intro Z σ S x u c Q R t e k
  have key : ∀ (a : Addr) (ds : List D) (xs : List V) (kvs : List (Key × D)), u = .ref a → SqL X.K S.H a xs → RpL (S.wd X.K Z) ds xs → pairsOf ds = some kvs → FinF X.K Z S (.dct (mergeD [] kvs)) Q → rDictP X.K [u] S.H Q := by
    intro a ds xs kvs eu hs r ep k
    obtain ⟨ps, es, rfl, hp, hk⟩ := pairs_ok r ep
    exact ⟨a, ps, es, by rw [eu], hs, hp, fun p h0 => k p _ h0 ⟨_, upd_same, (le_new R h0).rpK _ _ (rpK_merge RpK.nil hk)⟩⟩
  cases x with
  | lst ds =>
    obtain ⟨a, xs, rfl, h1, r1⟩ := t
    have e : (pairsOf ds).map (fun kvs => Cell.dct (mergeD [] kvs)) = some c := e
    cases ep : pairsOf ds with
    | none => rw [ep] at e; cases e
    | some kvs => rw [ep] at e; cases e; exact key a ds xs kvs rfl (.inl (.inl h1)) r1 ep k
  | wls ds =>
    obtain ⟨a, xs, rfl, h1, r1⟩ := t
    have e : (pairsOf ds).map (fun kvs => Cell.dct (mergeD [] kvs)) = some c := e
    cases ep : pairsOf ds with
    | none => rw [ep] at e; cases e
    | some kvs => rw [ep] at e; cases e; exact key a ds xs kvs rfl h1.sq r1 ep k
  | _ => cases e
/-! ### d == {} -/
def rEqE : R2 := fun x y H Q => ∃ a b ks, x = .ref a ∧ y = .ref b ∧ Rd H a (.dK ks) ∧ Rd H b (.dK []) ∧ Q (.bl (ks.length == 0)) H
theorem op_eq_empty (hu : X.A.units < cLine) : OpR X (compareOp .Eq) rEqE := by
  intro pins s σ H x y v u Q I rx ry h
  obtain ⟨a, b, ks, rfl, rfl, ea, eb, q⟩ := h
  obtain rfl : v = Value.ref a := rx
  obtain rfl : u = Value.ref b := ry
  obtain ⟨_, ya, va, ra, da⟩ := dk_rd I.hok ea
  obtain ⟨_, yb, vb, rb, db⟩ := dk_rd I.hok eb
  have hl : ks.length = va.length := ra.length
  have hb : vb = [] := by cases rb; rfl
  subst hb
  refine PySem.W.keq_eq (knd := mixKind X.prog X.w) (r := true) ya yb da db hu (fun h => ?_) (fin_bl I q (by rw [hl]; simp))
  have : va = [] := List.eq_nil_of_length_eq_zero h
  subst this
  exact .nil
theorem op_ne_empty (hu : X.A.units < cLine) : OpR X (compareOp .NotEq) (fun x y H Q => ∃ a b ks, x = .ref a ∧ y = .ref b ∧ Rd H a (.dK ks) ∧ Rd H b (.dK []) ∧ Q (.bl (!(ks.length == 0))) H) := by
  intro pins s σ H x y v u Q I rx ry h
  obtain ⟨a, b, ks, rfl, rfl, ea, eb, q⟩ := h
  obtain rfl : v = Value.ref a := rx
  obtain rfl : u = Value.ref b := ry
  obtain ⟨_, ya, va, ra, da⟩ := dk_rd I.hok ea
  obtain ⟨_, yb, vb, rb, db⟩ := dk_rd I.hok eb
  have hl : ks.length = va.length := ra.length
  have hb : vb = [] := by cases rb; rfl
  subst hb
  refine PySem.W.keq_ne (knd := mixKind X.prog X.w) (r := true) ya yb da db hu (fun h => ?_) (fin_bl I q (by rw [hl]; simp))
  have : va = [] := List.eq_nil_of_length_eq_zero h
  subst this
  exact .nil
def eqED : Op2 := fun x y => match x, y with
  | .dct kvs, .dct [] => some (.bl (kvs.length == 0))
  | _, _ => none
def neED : Op2 := fun x y => match x, y with
  | .dct kvs, .dct [] => some (.bl (!(kvs.length == 0)))
  | _, _ => none
theorem opB_eqE : OpB X eqED rEqE := by
  intro Z σ S x y u v d Q R t1 t2 e
  unfold eqED at e
  split at e
  · cases e
    obtain ⟨a, es, rfl, h1, r1⟩ := t1
    obtain ⟨b, fs, rfl, h2, r2⟩ := t2
    rw [r2.of_nil] at h2
    exact ⟨_, rfl, fun q => ⟨a, b, es, rfl, rfl, h1, h2, by rw [r1.length]; exact q⟩⟩
  · cases e
theorem opB_neE : OpB X neED (fun x y H Q => ∃ a b ks, x = .ref a ∧ y = .ref b ∧ Rd H a (.dK ks) ∧ Rd H b (.dK []) ∧ Q (.bl (!(ks.length == 0))) H) := by
  intro Z σ S x y u v d Q R t1 t2 e
  unfold neED at e
  split at e
  · cases e
    obtain ⟨a, es, rfl, h1, r1⟩ := t1
    obtain ⟨b, fs, rfl, h2, r2⟩ := t2
    rw [r2.of_nil] at h2
    exact ⟨_, rfl, fun q => ⟨a, b, es, rfl, rfl, h1, h2, by rw [r1.length]; exact q⟩⟩
  · cases e
/-! ### methods -/
def isLst (o : D) (s : Store) : Bool := match o with
  | .ref k => match s[k]? with
    | some (.lst _) => true
    | _ => false
  | _ => false
theorem isLst_ok {o : D} {s : Store} (h : isLst o s = true) : ∃ k ds, o = .ref k ∧ s[k]? = some (.lst ds) := by
  unfold isLst at h
  split at h
  · rename_i k
    split at h
    · rename_i ds e; exact ⟨k, ds, rfl, e⟩
    · cases h
  · cases h
def needL (o : D) : M Unit := fun e s => match isLst o s with
  | true => .ok () e s
  | false => .bad
def appC (d : D) (c : Cell) : Option Cell := match c with
  | .lst ds => if szOk (ds.length + 1) = true then some (.lst (ds ++ [d])) else none
  | _ => none
def appM (mo me : M D) : M D := bnd mo fun o => bnd (needL o) fun _ => bnd me fun d => bnd (updM o (appC d)) fun _ => rt .non
section
variable {o a b : Expr} {apos : Pos} {mo ma mb : M D}
theorem needL_ok {K : PySem.W.Frag} {Z : Addr → Prop} {σ : L2.St} {S : S8} {o : D} {α : Type} {f : Unit → M α} {Q : α → S8 → Prop} {Qx : Exn → S8 → Prop} (h : Wp K Z σ S (bnd (needL o) f S.env S.st) Q Qx) : isLst o S.st = true ∧ Wp K Z σ S (f () S.env S.st) Q Qx := by
  rw [bnd_app] at h
  unfold needL at h
  cases e : isLst o S.st with
  | false => rw [e] at h; exact h.elim
  | true => rw [e] at h; exact ⟨rfl, h⟩
theorem ev_append (ho : PEv X W o mo) (ha : PEv X W a ma) (hst : starEach [a] X.env = (false, eval a X.env) :: starEach [] X.env := by rfl) (hbase : attributeBase o "append" X.env (eval o X.env) = eval o X.env := by rfl)
    (hfew : ((backTo pos (starEach [a] X.env)).all (fun x => !x.1) && (backToKw pos (keywordEach [] X.env)).all (fun x => x.1.isSome)
      && decide (([a] : List Expr).length + ([] : List Keyword).length + (if ([] : List Keyword).isEmpty then 0 else 1) < 30)) = true := by rfl)
    (hline : (apos.endLine == pos.line) = true := by rfl) (hplain : (backTo pos (starEach [] X.env)).any (·.1) = false := by rfl) : PEv X W (.Call (.Attribute o "append" apos) [a] [] pos) (appM mo ma) := by
  refine PE.weak (pe_bm PySem.F.plainAttrs_list PySem.F.slot_list_append PySem.F.type_list_append mt_append ho (pa_cons ha pa_nil hst) hbase hfew hline hst hplain) fun σ H Q q => ?_
  obtain ⟨Z, S, rfl, R, hw⟩ := q
  refine ⟨Z, S, rfl, R, Wp.bnd hw fun x S1 R1 T1 h1 u r1 => ?_⟩
  obtain ⟨hl, h2⟩ := needL_ok h1
  obtain ⟨k, ds, rfl, e1⟩ := isLst_ok hl
  have r1' : Rp (S1.wd X.K Z) (.ref k) u := r1
  unfold Rp at r1'
  obtain ⟨hk, rfl⟩ := r1'
  obtain ⟨xs, e2, r2⟩ := R1.cell (.inr k) _ e1
  refine ⟨.inl ⟨rfl, xs, .inl (.inl e2)⟩, Z, S1, rfl, R1, Wp.bnd h2 fun d S2 R2 T2 h3 v rv => ?_⟩
  rw [bnd_app, updM_ref] at h3
  cases e3 : S2.st[k]? with
  | none => rw [e3] at h3; exact h3.elim
  | some c =>
    rw [e3] at h3
    dsimp only at h3
    cases c with
    | dct kvs => exact h3.elim
    | lst es =>
      obtain ⟨ys, e4, r4⟩ := R2.cell (.inr k) _ e3
      by_cases hz : szOk (es.length + 1) = true
      · have hc : appC d (.lst es) = some (.lst (es ++ [d])) := by show (if szOk (es.length + 1) = true then _ else _) = _; rw [if_pos hz]
        rw [hc] at h3
        refine ⟨_, ys, v, rfl, rfl, ?_, by rw [r4.length]; exact szOk_lt hz, ?_⟩
        · show S2.H (S1.ad (.inr k)) = _
          rw [← T2.c k hk]; exact e4
        · have R3 := R2.put (c := .lst (es ++ [d])) (o := .lst (ys ++ [v])) e3 fun w' le e => ⟨_, e, (le.rpL _ _ r4).append (.cons (le.rp _ _ rv) .nil)⟩
          have q := h3 (S2.putCell k (.lst (es ++ [d])) (.lst (ys ++ [v]))) rfl rfl R3 (Tr.put e3) .non (by show Rp _ .non .non; unfold Rp; rfl)
          have ea : (S1.wd X.K Z).c k = S2.ad (.inr k) := (T2.c k hk).symm
          rw [ea]
          exact q
      · have hc : appC d (.lst es) = none := by show (if szOk (es.length + 1) = true then _ else _) = _; rw [if_neg hz]
        rw [hc] at h3; exact h3.elim
/-- o.pop(i) -/
def popM (mo mi : M D) : M D := bnd mo fun o => bnd (needL o) fun _ => bnd mi fun i => fun e s => match o, i with
  | .ref k, .int j => match s[k]? with
    | some (.lst ds) => match decide (-(2 ^ 63) ≤ j ∧ j < 2 ^ 63), seqIndex? j ds.length with
      | true, some n => match ds[n]? with
        | some d => .ok d e (s.set k (.lst (ds.eraseIdx n)))
        | none => .bad
      | _, _ => .bad
    | _ => .bad
  | _, _ => .bad
theorem ev_popAt (ho : PEv X W o mo) (ha : PEv X W a ma) (hst : starEach [a] X.env = (false, eval a X.env) :: starEach [] X.env := by rfl) (hbase : attributeBase o "pop" X.env (eval o X.env) = eval o X.env := by rfl)
    (hfew : ((backTo pos (starEach [a] X.env)).all (fun x => !x.1) && (backToKw pos (keywordEach [] X.env)).all (fun x => x.1.isSome)
      && decide (([a] : List Expr).length + ([] : List Keyword).length + (if ([] : List Keyword).isEmpty then 0 else 1) < 30)) = true := by rfl)
    (hline : (apos.endLine == pos.line) = true := by rfl) (hplain : (backTo pos (starEach [] X.env)).any (·.1) = false := by rfl) : PEv X W (.Call (.Attribute o "pop" apos) [a] [] pos) (popM mo ma) := by
  refine PE.weak (pe_bm PySem.F.plainAttrs_list PySem.F.slot_list_pop PySem.F.type_list_pop mt_popAt ho (pa_cons ha pa_nil hst) hbase hfew hline hst hplain) fun σ H Q q => ?_
  obtain ⟨Z, S, rfl, R, hw⟩ := q
  refine ⟨Z, S, rfl, R, Wp.bnd hw fun x S1 R1 T1 h1 u r1 => ?_⟩
  obtain ⟨hl, h2⟩ := needL_ok h1
  obtain ⟨k, ds, rfl, e1⟩ := isLst_ok hl
  have r1' : Rp (S1.wd X.K Z) (.ref k) u := r1
  unfold Rp at r1'
  obtain ⟨hk, rfl⟩ := r1'
  obtain ⟨xs, e2, r2⟩ := R1.cell (.inr k) _ e1
  refine ⟨.inl ⟨rfl, xs, .inl (.inl e2)⟩, Z, S1, rfl, R1, Wp.bnd h2 fun d S2 R2 T2 h3 v rv => ?_⟩
  cases d with
  | int j =>
    dsimp only at h3
    cases e3 : S2.st[k]? with
    | none => rw [e3] at h3; exact h3.elim
    | some c =>
      rw [e3] at h3
      cases c with
      | dct kvs => exact h3.elim
      | lst es =>
        dsimp only at h3
        obtain ⟨ys, e4, r4⟩ := R2.cell (.inr k) _ e3
        cases e5 : decide (-(2 ^ 63) ≤ j ∧ j < 2 ^ 63) with
        | false => rw [e5] at h3; exact h3.elim
        | true =>
          rw [e5] at h3
          have hj := of_decide_eq_true e5
          cases e6 : seqIndex? j es.length with
          | none => rw [e6] at h3; exact h3.elim
          | some n =>
            rw [e6] at h3
            dsimp only at h3
            cases e7 : es[n]? with
            | none => rw [e7] at h3; exact h3.elim
            | some d =>
              rw [e7] at h3
              obtain ⟨y, e8, r8⟩ := r4.get e7
              have rv' : Rp (S2.wd X.K Z) (.int j) v := rv
              unfold Rp at rv'
              refine ⟨_, ys, j, n, y, rfl, by rw [rv'], ?_, hj.1, hj.2, by rw [r4.length]; exact e6, e8, ?_⟩
              · show S2.H (S1.ad (.inr k)) = _
                rw [← T2.c k hk]; exact e4
              · have R3 := R2.put (c := .lst (es.eraseIdx n)) (o := .lst (ys.eraseIdx n)) e3 fun w' le e => ⟨_, e, (le.rpL _ _ r4).erase n⟩
                have q := h3 (S2.putCell k (.lst (es.eraseIdx n)) (.lst (ys.eraseIdx n))) rfl rfl R3 (Tr.put e3) y ((Tr.put e3).rp r8)
                have ea : (S1.wd X.K Z).c k = S2.ad (.inr k) := (T2.c k hk).symm
                rw [ea]
                exact q
  | _ => exact h3.elim
/-- d.get(k, x) -/
def isDct (o : D) (s : Store) : Bool := match o with
  | .dct _ => true
  | .ref k => match s[k]? with
    | some (.dct _) => true
    | _ => false
  | _ => false
def dctOf (o : D) (s : Store) : Option (List (Key × D)) := match o with
  | .dct kvs => some kvs
  | .ref k => match s[k]? with
    | some (.dct kvs) => some kvs
    | _ => none
  | _ => none
theorem dctOf_ok {K : PySem.W.Frag} {Z : Addr → Prop} {σ : L2.St} {S : S8} (R : Rel K Z σ S) {o : D} {v : V} {kvs : List (Key × D)} (r : Rp (S.wd K Z) o v) (h : dctOf o S.st = some kvs) : ∃ a es, v = .ref a ∧ Rd S.H a (.dK es) ∧ RpK (S.wd K Z) kvs es := by
  cases o with
  | dct l =>
    cases h; unfold Rp at r; obtain ⟨a, es, rfl, ⟨_, o, h1⟩, h2⟩ := r
    exact ⟨a, es, rfl, .inr ⟨o, h1⟩, h2⟩
  | ref k =>
    have h' : (match S.st[k]? with | some (.dct kvs) => some kvs | _ => none) = some kvs := h
    cases e1 : S.st[k]? with
    | none => rw [e1] at h'; cases h'
    | some c =>
      rw [e1] at h'
      cases c with
      | lst _ => cases h'
      | dct l =>
        cases h'
        unfold Rp at r
        obtain ⟨es, e2, r2⟩ := R.cell (.inr k) _ e1
        exact ⟨_, es, r.2, .inl e2, r2⟩
  | _ => cases h
def needD (o : D) : M Unit := fun e s => match (dctOf o s).isSome with
  | true => .ok () e s
  | false => .bad
def getM (mo mk md : M D) : M D := bnd mo fun o => bnd (needD o) fun _ => bnd mk fun k => bnd md fun d => fun e s => match dctOf o s, keyOf k with
  | some kvs, some kk => .ok ((valD kvs kk).getD d) e s
  | _, _ => .bad
theorem needD_ok {K : PySem.W.Frag} {Z : Addr → Prop} {σ : L2.St} {S : S8} {o : D} {α : Type} {f : Unit → M α} {Q : α → S8 → Prop} {Qx : Exn → S8 → Prop} (h : Wp K Z σ S (bnd (needD o) f S.env S.st) Q Qx) : (∃ kvs, dctOf o S.st = some kvs) ∧ Wp K Z σ S (f () S.env S.st) Q Qx := by
  rw [bnd_app] at h
  unfold needD at h
  cases e : dctOf o S.st with
  | none => rw [e] at h; exact h.elim
  | some kvs => rw [e] at h; exact ⟨⟨kvs, rfl⟩, h⟩
theorem ev_get2 (hu : X.A.units + 1 < cLine) (ho : PEv X W o mo) (ha : PEv X W a ma) (hb : PEv X W b mb) (m : M2 X o "get" apos a b pos) : PEv X W (.Call (.Attribute o "get" apos) [a, b] [] pos) (getM mo ma mb) := by
  refine PE.weak (pe_dget2 hu ho ha hb m) fun σ H Q q => ?_
  obtain ⟨Z, S, rfl, R, hw⟩ := q
  refine ⟨Z, S, rfl, R, Wp.bnd hw fun x S1 R1 T1 h1 u r1 => ?_⟩
  obtain ⟨⟨kvs, hl⟩, h2⟩ := needD_ok h1
  obtain ⟨a, es, rfl, hd, rk⟩ := dctOf_ok R1 r1 hl
  refine ⟨a, rfl, .inl ⟨es, hd⟩, Z, S1, rfl, R1, Wp.bnd h2 fun k S2 R2 T2 h3 y ry => ?_⟩
  refine ⟨Z, S2, rfl, R2, Wp.bnd h3 fun d S3 R3 T3 h4 z rz => ?_⟩
  cases e5 : dctOf x S3.st with
  | none => rw [e5] at h4; exact h4.elim
  | some kvs' =>
    rw [e5] at h4
    cases e6 : keyOf k with
    | none => rw [e6] at h4; exact h4.elim
    | some kk =>
      rw [e6] at h4
      dsimp only at h4
      obtain ⟨a', es', ea, hd', rk'⟩ := dctOf_ok R3 ((T2.trans T3).rp r1) e5
      cases ea
      refine ⟨valV es' kk, .inl ⟨es', kk, hd', keyOf_rp e6 ry, rfl⟩, ?_⟩
      refine h4.here R3 _ ?_
      show Rp _ _ _
      rcases rk'.val kk with ⟨h5, h6⟩ | ⟨d', v', h5, h6, h7⟩
      · rw [h5, h6]; exact rz
      · rw [h5, h6]; exact h7
end
end
end QB

/-! The pure layer, part 16: calls, promises. -/
namespace QB
open PySem PySem.Spec PyProof.Rows L2

inductive FR where
  | ok (d : D) (s : Store) | exc (x : Exn) (s : Store) | bad
abbrev Fn := List D → Store → FR
def startE (n : Nat) (ds : List D) : PEnv := ds.map Slot.val ++ List.replicate (n - ds.length) Slot.no
def SR.fr : SR → FR
  | .ret d _ s => .ok d s
  | .nx _ s => .ok .non s
  | .exc x _ s => .exc x s
  | _ => .bad
/-- a def with n names, np of them parameters -/
def runF (n np : Nat) (m : SM) : Fn := fun ds s => if ds.length = np then (m (startE n ds) s).fr else .bad
def callM (g : Fn) (ms : M (List D)) : M D := bnd ms fun ds => fun e s => match g ds s with
  | .ok d s' => .ok d e s'
  | .exc x s' => .exc x e s'
  | .bad => .bad
section
variable {K : PySem.W.Frag} {mg : Str → Option Value} {Z : Addr → Prop} {σ : L2.St} {S : S8}
def WpF (K : PySem.W.Frag) (mg : Str → Option Value) (Z : Addr → Prop) (S : S8) (r : FR) (Q : VK) (E : XK) : Prop := match r with
  | .ok d s => ∀ S' : S8, S'.env = [] → S'.st = s → Rel K Z [] S' → Tr S S' → ∀ v, Rp (S'.wd K Z) d v → Q v S'.H
  | .exc x s => ∀ S' : S8, S'.env = [] → S'.st = s → Rel K Z [] S' → Tr S S' → ∀ C dd, ExAt mg (S'.wd K Z) x C dd → E (.ref C) (some dd) S'.H
  | .bad => False
def spOf (K : PySem.W.Frag) (mg : Str → Option Value) (np : Nat) (g : Fn) : Sp := fun vs H Q E => ∃ Z S ds, S.env = [] ∧ S.H = H ∧ Rel K Z [] S ∧ RpL (S.wd K Z) ds vs ∧ ds.length = np ∧ WpF K mg Z S (g ds S.st) Q E
theorem spOf_len {np : Nat} {g : Fn} {vs : List V} {H : Hp} {Q : VK} {E : XK} (h : spOf K mg np g vs H Q E) : vs.length = np := by
  obtain ⟨Z, S, ds, _, _, _, r, l, _⟩ := h
  rw [r.length]; exact l
/-! ### the caller's side: its own slots are foreign to the callee -/
def ownZ (Z : Addr → Prop) (S : S8) : Addr → Prop := fun a => Z a ∨ ∃ i c, S.cont (.inl i) = some c ∧ S.ad (.inl i) = a
abbrev S8.bare (S : S8) : S8 := { S with env := [] }
theorem bare_cont {p : Pl} {c : Cell} (h : S.bare.cont p = some c) : ∃ k, p = .inr k ∧ S.cont p = some c := by
  cases p with
  | inr k => exact ⟨k, rfl, h⟩
  | inl i => cases h
theorem mu_bare {a : Addr} : Mu (ownZ Z S) S.bare a ↔ Mu Z S a := by
  constructor
  · rintro ((z | ⟨i, c, h, e⟩) | ⟨p, c, h, e⟩)
    · exact .inl z
    · exact .inr ⟨_, c, h, e⟩
    · obtain ⟨k, rfl, h2⟩ := bare_cont h
      exact .inr ⟨_, c, h2, e⟩
  · rintro (z | ⟨p, c, h, e⟩)
    · exact .inl (.inl z)
    · cases p with
      | inl i => exact .inl (.inr ⟨i, c, h, e⟩)
      | inr k => exact .inr ⟨.inr k, c, h, e⟩
theorem le_bare : (S.wd K Z).Le (S.bare.wd K (ownZ Z S)) := ⟨rfl, fun a o e m => ⟨e, fun z => m (mu_bare.mp z)⟩, Nat.le_refl _, fun _ _ => rfl⟩
theorem Rel.bare (R : Rel K Z σ S) : Rel K (ownZ Z S) [] S.bare where
  len := rfl
  val := fun i d h => by simp at h
  own := fun i c h => by simp at h
  cell := fun p c h => by
    obtain ⟨k, rfl, h2⟩ := bare_cont h
    exact le_bare.cell rfl (R.cell _ c h2)
  inj := fun p q c d hp hq e => by
    obtain ⟨k, rfl, h1⟩ := bare_cont hp
    obtain ⟨j, rfl, h2⟩ := bare_cont hq
    exact R.inj _ _ c d h1 h2 e
  zf := fun p c h => by
    obtain ⟨k, rfl, h2⟩ := bare_cont h
    rintro (z | ⟨i, d, h3, e⟩)
    · exact R.zf _ c h2 z
    · have := R.inj _ _ d c h3 h2 e
      cases this
  zt := fun a z => by
    rcases z with z | ⟨i, c, h, e⟩
    · exact R.zt a z
    · rw [← e]; exact (R.cell _ c h).ne
/-- the caller's slots again -/
def adBack (S S1 : S8) : Pl → Addr
  | .inl i => S.ad (.inl i)
  | .inr k => S1.ad (.inr k)
abbrev S8.back (S S1 : S8) : S8 := ⟨S.env, S1.st, adBack S S1, S1.H⟩
theorem mu_back {S1 : S8} (he : S1.env = []) {a : Addr} : Mu (ownZ Z S) S1 a ↔ Mu Z (S.back S1) a := by
  constructor
  · rintro ((z | ⟨i, c, h, e⟩) | ⟨p, c, h, e⟩)
    · exact .inl z
    · exact .inr ⟨.inl i, c, h, e⟩
    · cases p with
      | inr k => exact .inr ⟨.inr k, c, h, e⟩
      | inl i =>
        have h' : QB.cont S1.env S1.st (.inl i) = some c := h
        rw [he] at h'; cases h'
  · rintro (z | ⟨p, c, h, e⟩)
    · exact .inl (.inl z)
    · cases p with
      | inl i => exact .inl (.inr ⟨i, c, h, e⟩)
      | inr k => exact .inr ⟨.inr k, c, h, e⟩
theorem le_back {S1 : S8} (he : S1.env = []) : (S1.wd K (ownZ Z S)).Le ((S.back S1).wd K Z) := ⟨rfl, fun a o e m => ⟨e, fun z => m ((mu_back he).mpr z)⟩, Nat.le_refl _, fun _ _ => rfl⟩
theorem Rel.back {S1 : S8} (R : Rel K Z σ S) (R1 : Rel K (ownZ Z S) [] S1) (T : Tr S.bare S1) (he : S1.env = []) : Rel K Z σ (S.back S1) ∧ Tr S (S.back S1) := by
  have le : (S.wd K Z).Le ((S.back S1).wd K Z) := by
    have l1 := T.le (K := K) (Z := ownZ Z S)
    have l2 := le_bare (K := K) (Z := Z) (S := S)
    have l3 := le_back (K := K) (Z := Z) (S := S) he
    exact ⟨rfl, fun a o e m => by
      obtain ⟨e2, m2⟩ := l2.still a o e m
      obtain ⟨e3, m3⟩ := l1.still a o e2 m2
      exact l3.still a o e3 m3, l1.n, fun k h => l1.c k h⟩
  have hown : ∀ i c, S.cont (.inl i) = some c → S1.H (S.ad (.inl i)) = S.H (S.ad (.inl i)) := fun i c h => by
    have n := (R.cell _ c h).ne
    cases e : S.H (S.ad (.inl i)) with
    | none => exact absurd e n
    | some o =>
      refine T.keep _ o e fun p d hp eq => ?_
      obtain ⟨k, rfl, h2⟩ := bare_cont hp
      have := R.inj _ _ d c h2 h eq
      cases this
  refine ⟨⟨R.len, fun i d h => ?_, R.own, fun p c h => ?_, fun p q c d hp hq e => ?_, fun p c h z => ?_, fun a z => R1.zt a (.inl z)⟩, ?_⟩
  · obtain ⟨v, e, r⟩ := R.val i d h
    exact ⟨v, e, le.rp d v r⟩
  · cases p with
    | inl i => exact le.cell (hown i c h) (R.cell _ c h)
    | inr k => exact (le_back he).cell rfl (R1.cell (.inr k) c h)
  · cases p with
    | inl i =>
      cases q with
      | inl j => exact R.inj _ _ c d hp hq e
      | inr k => exact absurd (Or.inr ⟨i, c, hp, e⟩) (R1.zf (.inr k) d hq)
    | inr k =>
      cases q with
      | inl j => exact absurd (Or.inr ⟨j, d, hq, e.symm⟩) (R1.zf (.inr k) c hp)
      | inr j => exact R1.inj _ _ c d hp hq e
  · cases p with
    | inl i => exact R.zf (.inl i) c h z
    | inr k => exact R1.zf (.inr k) c h (.inl z)
  · refine ⟨T.dom, fun a o e n => T.keep a o e fun p c hp eq => ?_, fun p c h => ?_, T.n, T.c⟩
    · obtain ⟨k, rfl, h2⟩ := bare_cont hp
      exact n _ c h2 eq
    · cases p with
      | inl i => exact .inl ⟨.inl i, c, h, rfl⟩
      | inr k =>
        rcases T.fresh (.inr k) c h with ⟨q, d, hq, eq⟩ | hn
        · obtain ⟨j, rfl, h2⟩ := bare_cont hq
          exact .inl ⟨_, d, h2, eq⟩
        · exact .inr hn
theorem ExAt.le {w w' : Wd} (l : w.Le w') {x : Exn} {C dd : Addr} (h : ExAt mg w x C dd) : ExAt mg w' x C dd := by
  obtain ⟨h1, vs, h2, h3⟩ := h
  exact ⟨h1, vs, l.st h2, l.rpF _ _ h3⟩
end
section
variable {X : Cx} {W : WX} {x : Str} {p pos : Pos} {e : Expr} {es : List Expr} {k : Nat} {f : Addr} {fd : FuncData} {ps : List Str} {g : Fn} {ms : M (List D)}
/-- the callee's world is not larger: what it lets out holds for us -/
theorem le_back' {K : PySem.W.Frag} {Z : Addr → Prop} {S S1 : S8} (he : S1.env = []) : ((S.back S1).wd K Z).Le (S1.wd K (ownZ Z S)) := ⟨rfl, fun a o e m => ⟨e, fun z => m ((mu_back he).mp z)⟩, Nat.le_refl _, fun _ _ => rfl⟩
theorem call_go {np : Nat} {σ : L2.St} {H : Hp} {Q : VK} (hn : ∀ ds s, g ds s ≠ .bad → ds.length = np) (q : tG X.K X.mg W (rE X.K) (callM g ms) σ H Q) : tCallS (spOf X.K X.mg np g) (WE W) (tGA X.K X.mg W ms) σ H Q := by
  obtain ⟨Z, S, rfl, R, hw⟩ := q
  refine ⟨Z, S, rfl, R, Wp.bnd hw fun ds S1 R1 T1 h1 vs r1 => ?_⟩
  refine ⟨ownZ Z S1, S1.bare, ds, rfl, rfl, R1.bare, le_bare.rpL _ _ r1, hn ds S1.st fun z => ?_, ?_⟩
  · rw [z] at h1; exact h1
  · show WpF X.K X.mg (ownZ Z S1) S1.bare (g ds S1.st) Q _
    cases e : g ds S1.st with
    | bad => rw [e] at h1; exact h1
    | ok d s' =>
      rw [e] at h1
      intro S2 he hs R2 T2 v rv
      obtain ⟨R3, T3⟩ := R1.back R2 T2 he
      exact h1 (S1.back S2) rfl hs R3 T3 v ((le_back he).rp _ _ rv)
    | exc x s' =>
      rw [e] at h1
      intro S2 he hs R2 T2 C dd hx
      obtain ⟨R3, T3⟩ := R1.back R2 T2 he
      exact h1 (S1.back S2) rfl hs R3 T3 C dd (ExAt.le (le_back he) hx)
theorem ev_call {np : Nat} (F : FnOk X.prog X.w X.K X.mg X.base (L2.CX X.prog X.w) k f fd ps (spOf X.K X.mg np g)) (hn : ∀ ds s, g ds s ≠ .bad → ds.length = np) (hr : Room k X.A) (hm : X.mg x = some (.ref f)) (hk : PySem.W.keepIn X.K (.ref f) = true) (hb : Binds X.K fd ps []) (tk : L2.Takes X W) (ha : PAv X W (e :: es) ms)
    (hg : Gl X x := by rfl) (hdb : (x == ("__debug__" : Str)) = false := by decide) (he : starEach (e :: es) X.env = (false, eval e X.env) :: starEach es X.env := by rfl) (hpl : (backTo pos (starEach es X.env)).any (·.1) = false := by rfl) :
    PEv X W (.Call (.Name x p) (e :: es) [] pos) (callM g ms) :=
  PE.weak (L2.pe_callS F hr hg hm hk hb (fun σ => L2.passAt tk σ) ha hdb he hpl) fun _ _ _ q => call_go hn q
/-! ### the callee's side -/
theorem start_get {N : List Str} {ds : List D} {vs : List V} {w : Wd} (r : RpL w ds vs) (i : Nat) (d : D) (h : (startE N.length ds)[i]? = some (.val d)) : ∃ v, (start N vs)[i]? = some (some v) ∧ Rp w d v := by
  unfold startE at h
  by_cases l : i < ds.length
  · rw [List.getElem?_append_left (by simp; exact l)] at h
    rw [List.getElem?_map] at h
    cases e : ds[i]? with
    | none => rw [e] at h; cases h
    | some d' =>
      rw [e] at h; cases h
      obtain ⟨v, e2, r2⟩ := r.get e
      refine ⟨v, ?_, r2⟩
      show (vs.map some ++ _)[i]? = _
      rw [List.getElem?_append_left (by rw [List.length_map, r.length]; exact l), List.getElem?_map, e2]; rfl
  · rw [List.getElem?_append_right (by simp; omega)] at h
    rw [List.getElem?_replicate] at h
    split at h
    · cases h
    · cases h
theorem start_own {n : Nat} {ds : List D} (i : Nat) (c : Cell) : (startE n ds)[i]? ≠ some (.own c) := by
  intro h
  unfold startE at h
  by_cases l : i < ds.length
  · rw [List.getElem?_append_left (by simp; exact l), List.getElem?_map] at h
    cases e : ds[i]? with
    | none => rw [e] at h; cases h
    | some d' => rw [e] at h; cases h
  · rw [List.getElem?_append_right (by simp; omega), List.getElem?_replicate] at h
    split at h
    · cases h
    · cases h
abbrev S8.withE (S : S8) (e : PEnv) : S8 := { S with env := e }
theorem Rel.entry {K : PySem.W.Frag} {Z : Addr → Prop} {S : S8} {N : List Str} {ds : List D} {vs : List V} (R : Rel K Z [] S) (he : S.env = []) (r : RpL (S.wd K Z) ds vs) (hl : ds.length ≤ N.length) : Rel K Z (start N vs) (S.withE (startE N.length ds)) ∧ Tr S (S.withE (startE N.length ds)) := by
  have hc : ∀ p c, (S.withE (startE N.length ds)).cont p = some c → S.cont p = some c := fun p c h => by
    cases p with
    | inr k => exact h
    | inl i =>
      have h' : (match (startE N.length ds)[i]? with | some (.own c) => some c | _ => none) = some c := h
      split at h'
      · rename_i e; exact absurd e (start_own i _)
      · cases h'
  have le : (S.wd K Z).Le ((S.withE (startE N.length ds)).wd K Z) := le_sub rfl rfl rfl hc
  refine ⟨⟨?_, fun i d h => ?_, fun i c h => absurd h (start_own i c), fun p c h => le.cell rfl (R.cell p c (hc p c h)), fun p q c d hp hq e => R.inj p q c d (hc _ _ hp) (hc _ _ hq) e, fun p c h => R.zf p c (hc p c h), R.zt⟩, Tr.sub rfl rfl rfl hc⟩
  · show (startE N.length ds).length = (start N vs).length
    unfold startE L2.start
    simp [r.length]
  · obtain ⟨v, e, r2⟩ := start_get r i d h
    exact ⟨v, e, le.rp d v r2⟩
theorem WpS.ofF {K : PySem.W.Frag} {mg : Str → Option Value} {Z : Addr → Prop} {S S0 : S8} {r : SR} {Q : VK} {E : XK} (T : Tr S0 S) (h : WpF K mg Z S0 r.fr Q E) : WpS K mg (fun cls d _ H' => E cls d H') Z S r { nx := fun _ H' => Q .non H', rt := Q } := by
  have fin : ∀ {σ' : L2.St} {S' : S8}, Rel K Z σ' S' → Tr S S' → ∃ S2 : S8, S2.env = [] ∧ S2.st = S'.st ∧ S2.H = S'.H ∧ Rel K Z [] S2 ∧ Tr S0 S2 ∧ (S'.wd K Z).Le (S2.wd K Z) := by
    intro σ' S' R' T'
    have hc : ∀ p c, S'.bare.cont p = some c → S'.cont p = some c := fun p c h => by
      obtain ⟨k, rfl, h2⟩ := bare_cont h; exact h2
    have le : (S'.wd K Z).Le (S'.bare.wd K Z) := le_sub rfl rfl rfl hc
    exact ⟨S'.bare, rfl, rfl, rfl, ⟨rfl, fun i d h => by simp at h, fun i c h => by simp at h, fun p c h => le.cell rfl (R'.cell p c (hc p c h)), fun p q c d hp hq e => R'.inj p q c d (hc _ _ hp) (hc _ _ hq) e, fun p c h => R'.zf p c (hc p c h), R'.zt⟩,
      (T.trans T').trans (Tr.sub rfl rfl rfl hc), le⟩
  cases r with
  | nx e s =>
    intro σ' S' h1 h2 R' T'
    obtain ⟨S2, a1, a2, a3, a4, a5, a6⟩ := fin R' T'
    have := h S2 a1 (a2.trans h2) a4 a5 .non (by unfold Rp; rfl)
    rw [a3] at this; exact this
  | ret d e s =>
    intro σ' S' h1 h2 R' T' v rv
    obtain ⟨S2, a1, a2, a3, a4, a5, a6⟩ := fin R' T'
    have := h S2 a1 (a2.trans h2) a4 a5 v (a6.rp _ _ rv)
    rw [a3] at this; exact this
  | exc x e s =>
    intro σ' S' h1 h2 R' T' C dd hx
    obtain ⟨S2, a1, a2, a3, a4, a5, a6⟩ := fin R' T'
    have := h S2 a1 (a2.trans h2) a4 a5 C dd (ExAt.le a6 hx)
    rw [a3] at this; exact this
  | bk _ _ => exact h.elim
  | ct _ _ => exact h.elim
  | bad => exact h.elim
theorem runF_len {n np : Nat} {m : SM} : ∀ ds s, runF n np m ds s ≠ .bad → ds.length = np := fun ds s h => by
  unfold runF at h
  by_cases e : ds.length = np
  · exact e
  · rw [if_neg e] at h; exact absurd rfl h
section
variable {P : Program} {w : World} {K : PySem.W.Frag} {mg : Str → Option Value} {base : Heap} {qual : Str} {params : Arguments} {body : List Stmt} {scope : Scope}
/-- a def keeps its promise -/
theorem fn_ok {N : List Str} {n np : Nat} {m : SM} (F : FunD K x qual params body scope [] [] f fd) (S : FnScope N ps scope) (hn : N.length = n) (hp : ps.length = np)
    (hbody : ∀ (cdv : Value) (A : Around) (outer : List Env) (s : Shared) (H : Hp) (E : XK), Room k (A.deeper (envOfC qual scope s.heap.objs.size f cdv)) →
      let X := cxOf (L2.CX P w) P w K mg base N qual scope f cdv A outer s H E
      L2.Takes X (fun cls d _ H' => E cls d H') → PassesOwn (model X.prog X.w) X.A X.env X.xe → PSsv X (fun cls d _ H' => E cls d H') body m) : FnOk P w K mg base (L2.CX P w) (k + 1) f fd ps (spOf K mg np (runF n np m)) := by
  refine F.ok S (fun vs H Q E h => (spOf_len h).trans hp.symm) fun cdv A outer s H vs Q E hr h => ?_
  obtain ⟨Z, S1, ds, h1, rfl, R, r, hl, hw⟩ := h
  refine ⟨_, hbody cdv A outer s S1.H E hr (L2.takes_of rfl rfl rfl rfl) (L2.passes_of rfl), ?_⟩
  have hle : ds.length ≤ N.length := by
    have := congrArg List.length S.pre
    rw [List.length_take] at this
    omega
  obtain ⟨R1, T1⟩ := R.entry (N := N) h1 r hle
  refine ⟨Z, S1.withE (startE N.length ds), rfl, R1, ?_⟩
  have hw' : WpF K mg Z S1 (m (startE N.length ds) S1.st).fr Q E := by
    have e : runF n np m ds S1.st = (m (startE N.length ds) S1.st).fr := by
      unfold runF; rw [if_pos hl, hn]
    rw [← e]; exact hw
  exact WpS.ofF T1 hw'
end
end
end QB

/-! The pure layer, part 17: constants of the module, lists assigned, calls with keywords. -/
namespace QB
open PySem PySem.Spec PyProof.Rows L2
section
variable {X : Cx} {W : WX} {pos : Pos}
theorem ev_gint {x : Str} {i : Int} (h : ∃ t, X.mg x = some (.int i t)) (hg : Gl X x := by rfl) (hd : (x == ("__debug__" : Str)) = false := by decide) : PEv X W (.Name x pos) (rt (.int i)) := by
  obtain ⟨t, h⟩ := h
  exact ev_glob hg h (v := .int i) ⟨t, rfl⟩ (fun w _ => rp_int) hd
theorem PFr.frzL {e : Expr} {m : M Cell} (h : PFr X W e m) : PEv X W e (frzL m) := by
  refine PE.weak h.frz fun σ H Q q => ?_
  obtain ⟨Z, S, rfl, R, hw⟩ := q
  refine ⟨Z, S, rfl, R, ?_⟩
  have hw' : Wp X.K Z σ S (bnd m (fun c => match c with | .lst ds => rt (D.lst ds) | .dct _ => fail) S.env S.st) (fun a S' => ∀ v, rE X.K Z σ S S' a v → Q v S'.H) (Qx X.K X.mg W Z σ) := hw
  show Wp X.K Z σ S (bnd m (fun c => rt c.d) S.env S.st) _ _
  rw [bnd_app] at hw' ⊢
  cases e1 : m S.env S.st with
  | bad => rw [e1] at hw'; exact hw'
  | exc x e' s' => rw [e1] at hw'; exact hw'
  | ok c e' s' =>
    rw [e1] at hw'
    cases c with
    | lst ds => exact hw'
    | dct kvs => exact hw'.elim
/-- name = [..] on one line, as a cell -/
theorem st_setLcC {i : Nat} {y : Str} {py spos : Pos} {elt tg iter : Expr} {ifs : List Expr} {scope : Scope} {own : List (Str × Nat)} {ts : List Nat} {ms : M Src} {f : D → M Unit} {cond : M Bool} {me : M D} (hc : X.calm = true) (hN : X.N.Nodup) (hy : X.N[i]? = some y) (hyl : X.env.scope.names.lookup y = some .local)
    (hsw : swapsWith (.ListComp elt [⟨tg, iter, ifs, 0⟩] scope pos) (some (.Name y py)) spos.line X.env = pure true) (hi : PIt X W tg iter ms) (ok : BlkOk X.N X.env.scope scope own)
    (hg : ∀ (s : Shared) (H : Hp) (C : Addr) (cl : List (Str × Addr)) (fp : List Addr), PTg (X.blk s H scope (compEnvC scope cl C X.env) fp) WF tg ts f)
    (ht : ∀ (s : Shared) (H : Hp) (C : Addr) (cl : List (Str × Addr)) (fp : List Addr), PTsv (X.blk s H scope (compEnvC scope cl C X.env) fp) WF ifs cond)
    (he : ∀ (s : Shared) (H : Hp) (C : Addr) (cl : List (Str × Addr)) (fp : List Addr), PEv (X.blk s H scope (compEnvC scope cl C X.env) fp) WF elt me)
    (hts : ∀ i ∈ ts, i ∈ own.map (·.2)) (hs : ∀ x, foldedSetIterable iter X.env x = pure x := by intro _; rfl) :
    PSv X W (.Assign [.Name y py] (.ListComp elt [⟨tg, iter, ifs, 0⟩] scope pos) spos) (asgS (cellM (compM (.lst []) ms f cond (stepL me) (own.map (·.2)))) (setM i)) := by
  refine PS.weak (ps_setLc (g := tTg X.K X.mg WF ts f) (tt := tT X.K X.mg WF cond) (te := tG X.K X.mg WF (rE X.K) me) hc hN hy hyl hsw hi ok hg ht he hs) fun D σ H q => ?_
  obtain ⟨Z, S, rfl, R, hw⟩ := q
  refine lc_go hts ⟨Z, S, rfl, R, ?_⟩
  have hw' := WpS.nx hw
  rw [bnd_app] at hw'
  unfold cellM at hw'
  rw [bnd_app] at hw'
  cases e1 : compM (.lst []) ms f cond (stepL me) (own.map (·.2)) S.env S.st with
  | bad => rw [e1] at hw'; exact hw'.elim
  | exc x e' s' => rw [e1] at hw'; exact fun S' h1 h2 R' T' => hw' σ S' h1 h2 R' T'
  | ok c e' s' =>
    rw [e1] at hw'
    intro S' h1 h2 R' T' v rv
    obtain ⟨p, rfl, hp, hz, R2, hcl⟩ := rv
    have R3 := R2.toCell hz hcl
    have T3 := T'.toCell (c := c) hp
    have r : Rp ((S'.pushCell c p).wd X.K Z) (.ref s'.length) (.ref p) := by
      unfold Rp
      refine ⟨?_, ?_⟩
      · show s'.length < (S'.st ++ [c]).length
        rw [h2]; simp
      · show V.ref p = V.ref (if s'.length = S'.st.length then p else _)
        rw [h2, if_pos rfl]
    exact hw' _ ((S'.pushCell c p).putSlot i (.ref s'.length)) (by show S'.env.set i _ = _; rw [h1]) (by show S'.st ++ [c] = _; rw [h2]) (R3.slot r) (T3.trans Tr.slot)
/-! ### calls with keywords -/
def permL {α : Type} (ix : List Nat) (l : List α) : List α := ix.filterMap fun i => l[i]?
theorem permL_vals {ix : List Nat} {zs : List V} {ws : List Value} (r : Vals zs ws) : Vals (permL ix zs) (permL ix ws) := by
  induction ix with
  | nil => exact .nil
  | cons i ix ih =>
    unfold permL at *
    rw [List.filterMap_cons, List.filterMap_cons]
    cases e : zs[i]? with
    | none =>
      have : ws[i]? = none := by
        rw [List.getElem?_eq_none_iff] at e ⊢
        rw [← r.length]; exact e
      rw [this]; exact ih
    | some z =>
      obtain ⟨u, hu, ru⟩ := r.get e
      rw [hu]; exact .cons ru ih
theorem permL_rp {w : Wd} {ix : List Nat} {ds : List D} {zs : List V} (r : RpL w ds zs) : RpL w (permL ix ds) (permL ix zs) := by
  induction ix with
  | nil => exact .nil
  | cons i ix ih =>
    unfold permL at *
    rw [List.filterMap_cons, List.filterMap_cons]
    cases e : ds[i]? with
    | none =>
      have : zs[i]? = none := by
        rw [List.getElem?_eq_none_iff] at e ⊢
        rw [r.length]; exact e
      rw [this]; exact ih
    | some z =>
      obtain ⟨u, hu, ru⟩ := r.get e
      rw [hu]; exact .cons ru ih
/-- how n positional values and the keywords ks bind -/
structure KwB (K : PySem.W.Frag) (fd : FuncData) (ps : List Str) (n : Nat) (ks : List Str) (ix : List Nat) : Prop where
  to : ∀ (s : Shared) (us ws : List Value), us.length = n → ws.length = ks.length → BindsTo s fd ⟨us, ks.zip ws⟩ (ps.zip (permL ix (us ++ ws)))
theorem kwB_of {K : PySem.W.Frag} {x qual : Str} {params : Arguments} {body : List Stmt} {scope : Scope} {kws : List (Str × V)} {f : Addr} {fd : FuncData} {ps : List Str} {n : Nat} {ks : List Str} {ix : List Nat} (F : FunD K x qual params body scope [] kws f fd)
    (h : ∀ (kV doc pm : Value) (an : Option Addr) (cdv ct : Value) (us ws : List Value), us.length = n → ws.length = ks.length → bindArgs (PySem.W.fnOf x qual params body scope .none kV doc pm an cdv ct) ⟨us, ks.zip ws⟩ = pure (ps.zip (permL ix (us ++ ws)))) : KwB K fd ps n ks ix := by
  obtain ⟨oc, od, dV, kV, doc, pm, an, cdv, ct, osl, rfl, lk, hcd, hD, hK⟩ := F.ex
  rcases hD with ⟨_, rfl⟩ | ⟨e, _⟩
  · exact ⟨fun s us ws l1 l2 => .of_eq (h kV doc pm an cdv ct us ws l1 l2)⟩
  · exact absurd rfl e
def tGK (K : PySem.W.Frag) (mg : Str → Option Value) (W : WX) (m : M (List D)) : TA := tGA K mg W m
def PKv (X : Cx) (W : WX) (kws : List Keyword) (m : M (List D)) : Prop := PK X kws (tGA X.K X.mg W m)
theorem PK.weak {X : Cx} {e : List Keyword} {t t' : TA} (h : PK X e t) (k : ∀ σ H Q, t' σ H Q → t σ H Q) : PK X e t' := ⟨fun pos pins s σ H Q I q => h.run pos pins s σ H Q I (k σ H Q q)⟩
theorem kv_nil : PKv X W [] (rt []) := by
  refine PK.weak pk_nil fun σ H Q q => ?_
  obtain ⟨Z, S, rfl, R, hw⟩ := q
  exact hw.here R [] RpL.nil
theorem kv_cons {nm : Option Str} {e : Expr} {kpos : Pos} {kws : List Keyword} {m : M D} {ms : M (List D)} (h : PEv X W e m) (hs : PKv X W kws ms) : PKv X W (⟨nm, e, kpos⟩ :: kws) (consM m ms) := by
  refine PK.weak (pk_cons h hs) fun σ H Q q => ?_
  obtain ⟨Z, S, rfl, R, hw⟩ := q
  refine ⟨Z, S, rfl, R, Wp.bnd hw fun d S1 R1 T1 h1 v r1 => ?_⟩
  refine ⟨Z, S1, rfl, R1, Wp.bnd h1 fun ds S2 R2 T2 h2 vs r2 => ?_⟩
  exact h2.here R2 _ (.cons (T2.rp r1) r2)
section
variable {x : Str} {p : Pos} {e : Expr} {es : List Expr} {kws : List Keyword} {k n np : Nat} {f : Addr} {fd : FuncData} {ps ks : List Str} {ix : List Nat} {g : Fn} {ms mk : M (List D)}
theorem run_fnK {pins : List (Addr × Obj)} {σ : L2.St} {H : Hp} {s : Shared} {Q : VK} {E : XK} {sp : Sp} {us ws : List Value} {vs zs : List V} (F : FnOk X.prog X.w X.K X.mg X.base (L2.CX X.prog X.w) k f fd ps sp) (hr : Room k X.A) (hb : KwB X.K fd ps n ks ix) (hx : L2.PassesAt (L2.CX X.prog X.w) X σ E)
    (I : Inv X pins σ H s) (r : Vals vs us) (rz : Vals zs ws) (l1 : vs.length = n) (l2 : zs.length = ks.length) (h : sp (permL ix (vs ++ zs)) H Q E) : wpAny (model X.prog X.w) X.A (call (.ref f) us (ks.zip ws)) (EP X pins σ Q) X.xe s := by
  have r2 := permL_vals (ix := ix) (r.append rz)
  refine wpAny_call (codeAny_mono (F.run X.A X.stack s H ⟨us, ks.zip ws⟩ (permL ix (us ++ ws)) (permL ix (vs ++ zs)) Q E hr I.env0 (hb.to s us ws (r.length.symm.trans l1) (rz.length.symm.trans l2)) r2 h) fun r s' hq => ?_)
  cases r with
  | error e => exact hx pins H s e s' I hq
  | ok fl =>
    cases fl with
    | ret u => exact I.after hq
    | next => exact False.elim hq
    | brk => exact False.elim hq
    | cont => exact False.elim hq
/-- f(k = v, ..) -/
def callK (g : Fn) (n m : Nat) (ix : List Nat) (ms mk : M (List D)) : M D := callM g (bnd ms fun ds => bnd mk fun es => chk (decide (ds.length = n ∧ es.length = m)) (rt (permL ix (ds ++ es))))
theorem callK_go {σ : L2.St} {H : Hp} {Q : VK} {m : Nat} (hn : ∀ ds s, g ds s ≠ .bad → ds.length = np) (q : tG X.K X.mg W (rE X.K) (callK g n m ix ms mk) σ H Q) :
    tGA X.K X.mg W ms σ H fun vs H1 => tGA X.K X.mg W mk σ H1 fun zs H2 => vs.length = n ∧ zs.length = m ∧ spOf X.K X.mg np g (permL ix (vs ++ zs)) H2 Q (WE W σ) := by
  obtain ⟨Z, S, rfl, R, hw⟩ := q
  have hw' : Wp X.K Z σ S (bnd ms (fun ds => bnd mk fun es => bnd (chk (decide (ds.length = n ∧ es.length = m)) (rt (permL ix (ds ++ es)))) fun ds => fun e s => match g ds s with
      | .ok d s' => .ok d e s'
      | .exc x s' => .exc x e s'
      | .bad => .bad) S.env S.st) (fun a S' => ∀ v, rE X.K Z σ S S' a v → Q v S'.H) (Qx X.K X.mg W Z σ) := by
    have e : callK g n m ix ms mk S.env S.st = bnd ms (fun ds => bnd mk fun es => bnd (chk (decide (ds.length = n ∧ es.length = m)) (rt (permL ix (ds ++ es)))) fun ds => fun e s => match g ds s with
      | .ok d s' => .ok d e s'
      | .exc x s' => .exc x e s'
      | .bad => .bad) S.env S.st := by
      unfold callK callM
      simp only [bnd_app]
      cases ms S.env S.st with
      | ok ds e1 s1 =>
        simp only [andThen_ok, bnd_app]
        cases mk e1 s1 with
        | ok es e2 s2 => rfl
        | exc _ _ _ => rfl
        | bad => rfl
      | exc _ _ _ => rfl
      | bad => rfl
    rw [← e]; exact hw
  refine ⟨Z, S, rfl, R, Wp.bnd hw' fun ds S1 R1 T1 h1 vs r1 => ?_⟩
  refine ⟨Z, S1, rfl, R1, Wp.bnd h1 fun es S2 R2 T2 h2 zs r2 => ?_⟩
  rw [bnd_app] at h2
  cases hb : decide (ds.length = n ∧ es.length = m) with
  | false => rw [hb] at h2; exact h2.elim
  | true =>
    rw [hb] at h2
    have h2 : Wp X.K Z σ S2 (match g (permL ix (ds ++ es)) S2.st with
      | .ok d s' => .ok d S2.env s'
      | .exc x s' => .exc x S2.env s'
      | .bad => .bad) (fun a S' => ∀ v, rE X.K Z σ S S' a v → Q v S'.H) (Qx X.K X.mg W Z σ) := h2
    have hl := of_decide_eq_true hb
    refine ⟨r1.length.trans hl.1, r2.length.trans hl.2, ownZ Z S2, S2.bare, permL ix (ds ++ es), rfl, rfl, R2.bare, le_bare.rpL _ _ (permL_rp ((T2.rpL r1).append r2)), hn _ S2.st fun z => ?_, ?_⟩
    · rw [z] at h2; exact h2
    · show WpF X.K X.mg (ownZ Z S2) S2.bare (g (permL ix (ds ++ es)) S2.st) Q _
      cases e : g (permL ix (ds ++ es)) S2.st with
      | bad => rw [e] at h2; exact h2
      | ok d s' =>
        rw [e] at h2
        intro S3 he hs R3 T3 v rv
        obtain ⟨R4, T4⟩ := R2.back R3 T3 he
        exact h2 (S2.back S3) rfl hs R4 T4 v ((le_back he).rp _ _ rv)
      | exc x s' =>
        rw [e] at h2
        intro S3 he hs R3 T3 C dd hx
        obtain ⟨R4, T4⟩ := R2.back R3 T3 he
        exact h2 (S2.back S3) rfl hs R4 T4 C dd (ExAt.le (le_back he) hx)
theorem ev_callK0 (F : FnOk X.prog X.w X.K X.mg X.base (L2.CX X.prog X.w) k f fd ps (spOf X.K X.mg np g)) (hn : ∀ ds s, g ds s ≠ .bad → ds.length = np) (hr : Room k X.A) (hm : X.mg x = some (.ref f)) (hk : PySem.W.keepIn X.K (.ref f) = true) (hb : KwB X.K fd ps 0 ks ix) (tk : L2.Takes X W) (hkw : PKv X W kws mk)
    (hg : Gl X x := by rfl) (hdb : (x == ("__debug__" : Str)) = false := by decide) (hall : (backToKw pos (keywordEach kws X.env)).all (·.1.isSome) = true := by rfl) (hks : (backToKw pos (keywordEach kws X.env)).filterMap (·.1) = ks := by rfl)
    (hpl : ((backTo pos (starEach [] X.env)).any (·.1) || (backToKw pos (keywordEach kws X.env)).any (·.1.isNone)) = false := by rfl) : PEv X W (.Call (.Name x p) [] kws pos) (callK g 0 ks.length ix (rt []) mk) := by
  refine ⟨fun pins s σ H Q I h => ?_⟩
  have h := callK_go hn h
  obtain ⟨Z, S, rfl, R, h⟩ := h
  have h2 := h.here R [] RpL.nil
  refine wpAny_Call_Name_kw (ld_glob I hg hm ?_ hdb)
  refine PySem.W.callWith_KW0 (h₀ := X.base) I.ok.mod.kin hk hall (thn (hkw.run pos pins s σ _ _ I h2) fun ws s2 ⟨zs, H2, I2, rz, l1, l2, q2⟩ => ⟨I2.kIn, ?_⟩) hpl
  rw [hks]
  exact run_fnK (us := []) (vs := []) F hr hb (L2.passAt tk σ) I2 .nil rz l1 l2 q2
theorem ev_callKn (F : FnOk X.prog X.w X.K X.mg X.base (L2.CX X.prog X.w) k f fd ps (spOf X.K X.mg np g)) (hn : ∀ ds s, g ds s ≠ .bad → ds.length = np) (hr : Room k X.A) (hm : X.mg x = some (.ref f)) (hk : PySem.W.keepIn X.K (.ref f) = true) (hb : KwB X.K fd ps n ks ix) (tk : L2.Takes X W) (ha : PAv X W (e :: es) ms) (hkw : PKv X W kws mk)
    (hg : Gl X x := by rfl) (hdb : (x == ("__debug__" : Str)) = false := by decide) (hall : (backToKw pos (keywordEach kws X.env)).all (·.1.isSome) = true := by rfl) (hks : (backToKw pos (keywordEach kws X.env)).filterMap (·.1) = ks := by rfl) (he : starEach (e :: es) X.env = (false, eval e X.env) :: starEach es X.env := by rfl)
    (hpl : ((backTo pos (starEach (e :: es) X.env)).any (·.1) || (backToKw pos (keywordEach kws X.env)).any (·.1.isNone)) = false := by rfl) : PEv X W (.Call (.Name x p) (e :: es) kws pos) (callK g n ks.length ix ms mk) := by
  refine ⟨fun pins s σ H Q I h => ?_⟩
  have h := callK_go hn h
  refine wpAny_Call_Name_kw (ld_glob I hg hm ?_ hdb)
  refine PySem.W.callWith_KW (h₀ := X.base) I.ok.mod.kin hk hall (thn (ha.run pos pins s σ H _ I h) fun us s1 ⟨vs, H1, I1, r, q⟩ => ?_) hpl he
  refine thn (hkw.run pos pins s1 σ H1 _ I1 q) fun ws s2 ⟨zs, H2, I2, rz, l1, l2, q2⟩ => ⟨I2.kIn, ?_⟩
  rw [hks]
  exact run_fnK F hr hb (L2.passAt tk σ) I2 r rz l1 l2 q2
end
/-! ### len(set(ints)), all different -/
def lenSetD (d : D) : Option D := (listI d).bind fun ns => if decide (ns.Nodup) && decide (ns.length ≤ 4000) then some (.int ns.length) else none
theorem ev_lenSet {a : Expr} {ma : M Bv} {p p2 q : Pos} (hm : X.mg "len" = none) (hm2 : X.mg "set" = none) (ha : PBv X W a ma) (hc : X.calm = true := by rfl) (hg : Gl X "len" := by rfl) (hg2 : Gl X "set" := by rfl)
    (na : starEach [a] X.env = (false, eval a X.env) :: starEach [] X.env := by rfl) : PEv X W (.Call (.Name "len" p) [.Call (.Name "set" p2) [a] [] q] [] pos) (op1M lenSetD ma) := by
  refine PE.weak (RZ.pe_lenSetI hg hm hg2 hm2 ha hc na) fun σ H Q q => ?_
  obtain ⟨Z, S, rfl, R, hw⟩ := q
  refine ⟨Z, S, rfl, R, Wp.bnd hw fun x S1 R1 T1 h1 u r1 => ?_⟩
  obtain ⟨d, t1, h2⟩ := R1.rd_ok (S0 := S) r1 h1
  obtain ⟨z, e, h3⟩ := Wp.opt h2
  unfold lenSetD at e
  cases el : listI d with
  | none => rw [el] at e; cases e
  | some ns =>
    rw [el] at e
    simp only [Option.bind] at e
    split at e
    · rename_i hh
      cases e
      simp only [Bool.and_eq_true, decide_eq_true_eq] at hh
      obtain ⟨a, rfl, hs⟩ := listI_ok t1 el
      exact ⟨a, ns, rfl, hs, hh.1, hh.2, (Wp.fin R1 h3).now rp_int⟩
    · cases e
end
end QB

/-! The pure layer, part 18: running it by simp. -/
namespace QB
open PySem PySem.Spec PyProof.Rows L2
section
variable {α β : Type} {e : PEnv} {s : Store} {d d2 : D} {c c2 : Cell} {k i j n m np : Nat} {x : Exn}
@[simp] theorem r_runF {b : SM} {ds : List D} : runF n np b ds s = if ds.length = np then (b (startE n ds) s).fr else .bad := rfl
@[simp] theorem r_fr_ret : (SR.ret d e s).fr = .ok d s := rfl
@[simp] theorem r_fr_nx : (SR.nx e s).fr = .ok .non s := rfl
@[simp] theorem r_fr_exc : (SR.exc x e s).fr = .exc x s := rfl
@[simp] theorem r_seqS {a b : SM} : seqS a b e s = (a e s).andThen b := rfl
@[simp] theorem r_asgS {a : M D} {f : D → M Unit} : asgS a f e s = ((a e s).andThen f).toS nxS := rfl
@[simp] theorem r_nxS {u : Unit} : nxS u e s = .nx e s := rfl
@[simp] theorem r_exprS {a : M D} : exprS a e s = (a e s).toS fun _ => SR.nx := rfl
@[simp] theorem r_retS {a : M D} : retS a e s = (a e s).toS fun d => SR.ret d := rfl
@[simp] theorem r_ifS {a : M Bool} {b c : SM} : ifS a b c e s = (a e s).toS fun t => match t with | true => b | false => c := rfl
@[simp] theorem r_parS {a : M (List D)} {f : List D → M Unit} : parS a f e s = ((a e s).andThen f).toS nxS := rfl
@[simp] theorem r_par2 {a b : D} : par2 i j [a, b] e s = .ok () ((e.set i (.val a)).set j (.val b)) s := rfl
@[simp] theorem r_par3 {a b c : D} : par3 i j k [a, b, c] e s = .ok () (((e.set i (.val a)).set j (.val b)).set k (.val c)) s := rfl
@[simp] theorem r_setM : setM i d e s = .ok () (e.set i (.val d)) s := rfl
@[simp] theorem r_varM : varM i e s = match e[i]? with | some (.val d) => .ok d e s | _ => .bad := rfl
@[simp] theorem r_bvarM : bvarM i e s = match e[i]? with | some (.val d) => .ok (.v d) e s | some (.own _) => .ok (.s i) e s | _ => .bad := rfl
@[simp] theorem r_toB {a : M D} : toB a e s = (a e s).andThen fun d => rt (.v d) := rfl
@[simp] theorem r_consM {a : M D} {b : M (List D)} : consM a b e s = (a e s).andThen fun d => bnd b fun ds => rt (d :: ds) := rfl
@[simp] theorem r_tupM {a : M (List D)} : tupM a e s = (a e s).andThen fun ds => chk (szOk ds.length) (rt (.tup ds)) := rfl
@[simp] theorem r_lstM {a : M (List D)} : lstM a e s = (a e s).andThen fun ds => chk (szOk ds.length) (rt (.lst ds)) := rfl
@[simp] theorem r_frz {a : M Cell} : frz a e s = (a e s).andThen fun c => rt c.d := rfl
@[simp] theorem r_cd_lst {l : List D} : (Cell.lst l).d = .lst l := rfl
@[simp] theorem r_cd_dct {l : List (Key × D)} : (Cell.dct l).d = .dct l := rfl
@[simp] theorem r_frzL {a : M Cell} : frzL a e s = (a e s).andThen fun c => match c with | .lst ds => rt (.lst ds) | .dct _ => fail := rfl
@[simp] theorem r_cellM {a : M Cell} : cellM a e s = (a e s).andThen fun c => fun e s => .ok (.ref s.length) e (s ++ [c]) := rfl
@[simp] theorem r_op1M {f : D → Option D} {a : M Bv} : op1M f a e s = (a e s).andThen fun x => bnd (rd x) fun dx => opt (f dx) := rfl
@[simp] theorem r_op1F {f : D → Option Cell} {a : M Bv} : op1F f a e s = (a e s).andThen fun x => bnd (rd x) fun dx => opt (f dx) := rfl
@[simp] theorem r_op2M {f : Op2} {a b : M Bv} : op2M f a b e s = (a e s).andThen fun x => bnd b fun y => bnd (rd x) fun dx => bnd (rd y) fun dy => opt (f dx dy) := rfl
@[simp] theorem r_chainM {f f' : Op2} {a b c : M Bv} : chainM f f' a b c e s = (a e s).andThen fun x => bnd b fun y => bnd (rd x) fun dx => bnd (rd y) fun dy => bnd (opt (f dx dy)) fun z => match z with
  | .bl true => bnd c fun w => bnd (rd y) fun dy => bnd (rd w) fun dw => opt (f' dy dw)
  | .bl false => rt (.bl false)
  | _ => fail := rfl
@[simp] theorem r_boolM {a : M D} : boolM a e s = (a e s).andThen boolD := rfl
@[simp] theorem r_notM {a : M Bool} : notM a e s = (a e s).andThen fun b => rt (!b) := rfl
@[simp] theorem r_notV {a : M Bool} : notV a e s = (a e s).andThen fun b => rt (.bl (!b)) := rfl
@[simp] theorem r_andT {a b : M Bool} : andT a b e s = (a e s).andThen fun x => match x with | true => b | false => rt false := rfl
@[simp] theorem r_orT {a b : M Bool} : orT a b e s = (a e s).andThen fun x => match x with | true => rt true | false => b := rfl
@[simp] theorem r_andV {a : M Bool} {b : M D} : andV a b e s = (a e s).andThen fun x => match x with | true => b | false => rt (.bl false) := rfl
@[simp] theorem r_orV {a : M Bool} {b : M D} : orV a b e s = (a e s).andThen fun x => match x with | true => rt (.bl true) | false => b := rfl
@[simp] theorem r_ifM {a : M Bool} {b c : M α} : ifM a b c e s = (a e s).andThen fun x => match x with | true => b | false => c := rfl
@[simp] theorem r_isiM {Ts : List Ty} {a : M Bv} : isiM Ts a e s = (a e s).andThen fun x => bnd (rd x) fun d => rt (.bl (Ts.any fun T => isTy T d)) := rfl
@[simp] theorem r_callM {g : Fn} {a : M (List D)} : callM g a e s = (a e s).andThen fun ds => fun e s => match g ds s with | .ok d s' => .ok d e s' | .exc x s' => .exc x e s' | .bad => .bad := rfl
@[simp] theorem r_chk {b : Bool} {a : M α} : chk b a e s = match b with | true => a e s | false => .bad := rfl
@[simp] theorem r_partM {a : M D} : partM a e s = (a e s).andThen intD1 := rfl
@[simp] theorem r_sliceM {a : M Bv} {l h : M (Option Int)} : sliceM a l h e s = (a e s).andThen fun x => bnd l fun l => bnd h fun h => bnd (rd x) fun d => opt (slD d l h) := rfl
@[simp] theorem r_rd_ref : rd (.v (.ref k)) e s = match s[k]? with | some c => .ok c.d e s | none => .bad := rfl
@[simp] theorem r_tupT {g : List D → M Unit} {ds : List D} : tupT n g (.tup ds) e s = if ds.length = n then g ds e s else .bad := by
  show (if ds.length = n then g ds else fail) e s = _
  split <;> rfl
@[simp] theorem r_consT {f : D → M Unit} {g : List D → M Unit} {ds : List D} : consT f g (d :: ds) e s = (f d e s).andThen fun _ => g ds := rfl
@[simp] theorem r_nilT : nilT [] e s = .ok () e s := rfl
@[simp] theorem r_subT {a b : M D} : subT a b d e s = (a e s).andThen fun o => bnd b fun i => putS o i d := rfl
@[simp] theorem r_putS {o i d : D} : putS o i d e s = updM o (fun c => putC c i d) e s := rfl
@[simp] theorem r_updM {f : Cell → Option Cell} : updM (.ref k) f e s = match s[k]? with | some c => (match f c with | some c' => .ok () e (s.set k c') | none => .bad) | none => .bad := rfl
@[simp] theorem r_appM {a b : M D} : appM a b e s = (a e s).andThen fun o => bnd (needL o) fun _ => bnd b fun d => bnd (updM o (appC d)) fun _ => rt .non := rfl
@[simp] theorem r_needL {o : D} : needL o e s = match isLst o s with | true => .ok () e s | false => .bad := rfl
@[simp] theorem r_isLst : isLst (.ref k) s = match s[k]? with | some (.lst _) => true | _ => false := rfl
@[simp] theorem r_appC {l : List D} : appC d (.lst l) = if szOk (l.length + 1) = true then some (.lst (l ++ [d])) else none := rfl
@[simp] theorem r_popM {a b : M D} : popM a b e s = (a e s).andThen fun o => bnd (needL o) fun _ => bnd b fun i => fun e s => match o, i with
  | .ref k, .int j => match s[k]? with
    | some (.lst ds) => match decide (-(2 ^ 63) ≤ j ∧ j < 2 ^ 63), seqIndex? j ds.length with
      | true, some n => match ds[n]? with
        | some d => .ok d e (s.set k (.lst (ds.eraseIdx n)))
        | none => .bad
      | _, _ => .bad
    | _ => .bad
  | _, _ => .bad := rfl
@[simp] theorem r_getM {a b c : M D} : getM a b c e s = (a e s).andThen fun o => bnd (needD o) fun _ => bnd b fun k => bnd c fun d => fun e s => match dctOf o s, keyOf k with
  | some kvs, some kk => .ok ((valD kvs kk).getD d) e s
  | _, _ => .bad := rfl
@[simp] theorem r_needD {o : D} : needD o e s = match (dctOf o s).isSome with | true => .ok () e s | false => .bad := rfl
@[simp] theorem r_dctOf_ref : dctOf (.ref k) s = match s[k]? with | some (.dct kvs) => some kvs | _ => none := rfl
@[simp] theorem r_dctOf_dct {l : List (Key × D)} : dctOf (.dct l) s = some l := rfl
@[simp] theorem r_keyOf_int {i : Int} : keyOf (.int i) = some (.inl i) := rfl
@[simp] theorem r_szOk0 : szOk 0 = true := rfl
@[simp] theorem r_szOk1 : szOk 1 = true := rfl
@[simp] theorem r_szOk2 : szOk 2 = true := rfl
@[simp] theorem r_szOk3 : szOk 3 = true := rfl
@[simp] theorem r_szOk4 : szOk 4 = true := rfl
@[simp] theorem r_szOk5 : szOk 5 = true := rfl
@[simp] theorem r_add {a b : Int} : addD (.int a) (.int b) = some (.int (a + b)) := rfl
@[simp] theorem r_sub {a b : Int} : subD (.int a) (.int b) = some (.int (a - b)) := rfl
@[simp] theorem r_neg {a : Int} : negD (.int a) = some (.int (-a)) := rfl
@[simp] theorem r_lt {a b : Int} : ltD (.int a) (.int b) = some (.bl (decide (a < b))) := rfl
@[simp] theorem r_le {a b : Int} : leD (.int a) (.int b) = some (.bl (decide (a ≤ b))) := rfl
@[simp] theorem r_gt {a b : Int} : gtD (.int a) (.int b) = some (.bl (decide (b < a))) := rfl
@[simp] theorem r_ge {a b : Int} : geD (.int a) (.int b) = some (.bl (decide (b ≤ a))) := rfl
@[simp] theorem r_eq {a b : Int} : eqD (.int a) (.int b) = some (.bl (decide (a = b))) := by
  show some (D.bl (PyData.eqv (.int a) (.int b))) = _
  congr 2
@[simp] theorem r_ne {a b : Int} : neD (.int a) (.int b) = some (.bl (!decide (a = b))) := by
  show some (D.bl (!PyData.eqv (.int a) (.int b))) = _
  congr 2
@[simp] theorem r_toInt {a : Int} : toIntD (.int a) = some (.int a) := rfl
@[simp] theorem r_len_tup {l : List D} : lenD (.tup l) = some (.int l.length) := rfl
@[simp] theorem r_len_lst {l : List D} : lenD (.lst l) = some (.int l.length) := rfl
@[simp] theorem r_len_wls {l : List D} : lenD (.wls l) = some (.int l.length) := rfl
@[simp] theorem r_len_dct {l : List (Key × D)} : lenD (.dct l) = some (.int l.length) := rfl
@[simp] theorem r_tuple_lst {l : List D} : tupleD (.lst l) = some (.tup l) := rfl
@[simp] theorem r_tuple_tup {l : List D} : tupleD (.tup l) = some (.tup l) := rfl
theorem small64_of {a : Int} (h1 : -18446744073709551616 < a) (h2 : a < 18446744073709551616) : small64 a = true := by
  unfold small64
  rw [decide_eq_true (by omega), decide_eq_true (by omega)]; rfl
@[simp] theorem r_mulL {a b : Int} (h1 : -18446744073709551616 < a) (h2 : a < 18446744073709551616) : mulD (.int a) (.int b) = some (.int (a * b)) := by
  show (if (small64 a || small64 b) = true then some (D.int (a * b)) else none) = _
  rw [small64_of h1 h2]; rfl
@[simp] theorem r_mulR {a b : Int} (h1 : -18446744073709551616 < b) (h2 : b < 18446744073709551616) : mulD (.int a) (.int b) = some (.int (a * b)) := by
  show (if (small64 a || small64 b) = true then some (D.int (a * b)) else none) = _
  rw [small64_of h1 h2, Bool.or_true]; rfl
@[simp] theorem r_mod {a b : Int} (h : 0 < b) : modD (.int a) (.int b) = some (.int (a % b)) := by
  show (if decide (0 < b) = true then some (D.int (a % b)) else none) = _
  rw [if_pos (decide_eq_true h)]
@[simp] theorem r_fdiv {a b : Int} (h : 0 < b) (h2 : b < 18446744073709551616) : fdivD (.int a) (.int b) = some (.int (a / b)) := by
  show (if pos64 b = true then some (D.int (a / b)) else none) = _
  have : pos64 b = true := by unfold pos64; rw [decide_eq_true h, decide_eq_true (by omega)]; rfl
  rw [if_pos this]
@[simp] theorem r_pow {a b : Int} (h1 : -18446744073709551616 < a) (h2 : a < 18446744073709551616) (h3 : 0 ≤ b) (h4 : b ≤ 1000) : powD (.int a) (.int b) = some (.int (a ^ b.toNat)) := by
  show (if (decide (0 ≤ b) && decide (b ≤ 1000) && small64 a) = true then some (D.int (a ^ b.toNat)) else none) = _
  rw [small64_of h1 h2, decide_eq_true h3, decide_eq_true h4]; rfl
end
end QB

/-! The pure layer, part 19: loops and comprehensions over lists that stay; stores. -/
namespace QB
open PySem PySem.Spec PyProof.Rows L2
def Src.Const (sr : Src) (l : List D) : Prop := ∀ s, sr.items s = some l
def forL (f : D → M Unit) (body : SM) : List D → SM
  | [] => .nx
  | d :: ds => fun e s => turnS ((f d e s).toS fun _ => body) (forL f body ds)
section
variable {f : D → M Unit} {body : SM} {sr : Src} {l : List D} {e : PEnv} {s : Store}
@[simp] theorem r_forL_nil : forL f body [] e s = .nx e s := rfl
@[simp] theorem r_forL_cons {d : D} {ds : List D} : forL f body (d :: ds) e s = turnS ((f d e s).toS fun _ => body) (forL f body ds) := rfl
theorem forGo_const (h : sr.Const l) : ∀ n i, i + n = l.length → forGo f body sr n i = forL f body (l.drop i)
  | 0, i, hi => by
    have : l.drop i = [] := List.drop_eq_nil_of_le (by omega)
    rw [this]
    funext e s
    unfold forGo
    rw [h s]
    dsimp only
    rw [List.getElem?_eq_none (by omega)]
    rfl
  | n + 1, i, hi => by
    have hlt : i < l.length := by omega
    rw [List.drop_eq_getElem_cons hlt]
    funext e s
    unfold forGo
    rw [h s]
    dsimp only
    rw [List.getElem?_eq_getElem hlt]
    dsimp only
    rw [forGo_const h n (i + 1) (by omega)]
    rfl
theorem forGo_c (h : sr.Const l) : forGo f body sr l.length 0 = forL f body l := by rw [forGo_const h l.length 0 (by omega)]; rfl
def runFor (sr : Src) (f : D → M Unit) (body : SM) : SM := fun e s => match sr.items s with | some l => forGo f body sr l.length 0 e s | none => .bad
@[simp] theorem r_forS {src : M Src} : forS src f body e s = (src e s).toS fun sr => runFor sr f body := rfl
theorem runFor_c (h : sr.Const l) : runFor sr f body e s = forL f body l e s := by
  unfold runFor
  rw [h s]
  dsimp only
  rw [forGo_c h]
@[simp] theorem r_items_tup : (Src.seq (.tup l)).items s = some l := rfl
@[simp] theorem r_items_lst : (Src.seq (.lst l)).items s = some l := rfl
@[simp] theorem r_items_wls : (Src.seq (.wls l)).items s = some l := rfl
@[simp] theorem r_items_rng {a : Int} {n : Nat} : (Src.rng a n).items s = some (rngL a n) := rfl
@[simp] theorem r_items_keys {kvs : List (Key × D)} : (Src.keys kvs).items s = some (kvs.map fun kv => dOf kv.1) := rfl
@[simp] theorem r_items_enum_lst : (Src.enum (.lst l)).items s = some (enumL 0 l) := rfl
@[simp] theorem r_items_zip_lst {m : List D} : (Src.zip (.lst l) (.lst m)).items s = some (zipL l m) := rfl
@[simp] theorem r_items_zip_tup {m : List D} : (Src.zip (.tup l) (.tup m)).items s = some (zipL l m) := rfl
@[simp] theorem r_items_ref {k : Nat} : (Src.seq (.ref k)).items s = match s[k]? with | some (.lst ds) => some ds | _ => none := rfl
@[simp] theorem r_for_tup : runFor (.seq (.tup l)) f body e s = forL f body l e s := runFor_c fun _ => rfl
@[simp] theorem r_for_lst : runFor (.seq (.lst l)) f body e s = forL f body l e s := runFor_c fun _ => rfl
@[simp] theorem r_for_wls : runFor (.seq (.wls l)) f body e s = forL f body l e s := runFor_c fun _ => rfl
@[simp] theorem r_for_rng {a : Int} {n : Nat} : runFor (.rng a n) f body e s = forL f body (rngL a n) e s := runFor_c fun _ => rfl
@[simp] theorem r_for_keys {kvs : List (Key × D)} : runFor (.keys kvs) f body e s = forL f body (kvs.map fun kv => dOf kv.1) e s := runFor_c fun _ => rfl
@[simp] theorem r_for_enum : runFor (.enum (.lst l)) f body e s = forL f body (enumL 0 l) e s := runFor_c fun _ => rfl
@[simp] theorem r_for_zip_lst {m : List D} : runFor (.zip (.lst l) (.lst m)) f body e s = forL f body (zipL l m) e s := runFor_c fun _ => rfl
@[simp] theorem r_for_zip_tup {m : List D} : runFor (.zip (.tup l) (.tup m)) f body e s = forL f body (zipL l m) e s := runFor_c fun _ => rfl
@[simp] theorem r_seqM {a : M D} : QB.seqM a e s = (a e s).andThen fun d => fun e s => match topD d s with | some _ => .ok (.seq d) e s | none => .bad := rfl
@[simp] theorem r_topD_tup : topD (.tup l) s = some l := rfl
@[simp] theorem r_topD_lst : topD (.lst l) s = some l := rfl
@[simp] theorem r_topD_wls : topD (.wls l) s = some l := rfl
@[simp] theorem r_topD_ref {k : Nat} : topD (.ref k) s = match s[k]? with | some (.lst ds) => some ds | _ => none := rfl
@[simp] theorem r_isTup_tup : isTup (.tup l) = true := rfl
@[simp] theorem r_isTup_lst : isTup (.lst l) = false := rfl
@[simp] theorem r_isTup_wls : isTup (.wls l) = false := rfl
@[simp] theorem r_isTup_ref {k : Nat} : isTup (.ref k) = false := rfl
@[simp] theorem r_rngOk {n : Int} (h1 : -4611686018427387904 < n) (h2 : n < 4611686018427387904) : rngOk n = true := by
  unfold rngOk
  rw [Nat.ble_eq_true_of_le (by omega), Nat.ble_eq_true_of_le (by omega)]; rfl
@[simp] theorem r_rngOk_nat {k : Nat} (h : k ≤ 16777216) : rngOk (k : Int) = true := r_rngOk (by omega) (by omega)
@[simp] theorem r_rg1S {a : M (List D)} : rg1S a e s = (a e s).andThen fun ds => match ds with
  | [.int n] => chk (rngOk n) (rt (.rng 0 n.toNat))
  | _ => fail := rfl
@[simp] theorem r_rg2S {a : M (List D)} : rg2S a e s = (a e s).andThen fun ds => match ds with
  | [.int i, .int j] => chk (rngOk i && rngOk j) (rt (.rng i (j - i).toNat))
  | _ => fail := rfl
@[simp] theorem r_zipM {a : M (List D)} : zipM a e s = (a e s).andThen fun ds => fun e s => match ds with
  | [x, y] => match (isTup x == isTup y), topD x s, topD y s with
    | true, some _, some _ => .ok (.zip x y) e s
    | _, _, _ => .bad
  | _ => .bad := rfl
@[simp] theorem r_enumM {a : M (List D)} : enumM a e s = (a e s).andThen fun ds => fun e s => match ds with
  | [d] => match isTup d, topD d s with
    | false, some _ => .ok (.enum d) e s
    | _, _ => .bad
  | _ => .bad := rfl
@[simp] theorem r_keysM {a : M D} : keysM a e s = (a e s).andThen fun d => match d with | .dct kvs => rt (.keys kvs) | _ => fail := rfl
end
/-! ### comprehensions -/
def compL (f : D → M Unit) (cond : M Bool) (step : Cell → M Cell) (vs : List Nat) : List D → Cell → M Cell
  | [], acc => fun e s => .ok acc e s
  | d :: ds, acc => fun e s => match f d e s with
    | .ok _ e1 s1 => compTail cond step acc (fun a e s => compL f cond step vs ds a (wipeE e vs) s) e1 s1
    | _ => .bad
section
variable {f : D → M Unit} {cond : M Bool} {step : Cell → M Cell} {vs : List Nat} {sr : Src} {l : List D} {acc : Cell} {e : PEnv} {s : Store}
theorem compGo_const (h : sr.Const l) : ∀ n i acc, i + n = l.length → compGo f cond step vs sr n i acc = compL f cond step vs (l.drop i) acc
  | 0, i, acc, hi => by
    have : l.drop i = [] := List.drop_eq_nil_of_le (by omega)
    rw [this]
    funext e s
    unfold compGo
    rw [h s]
    dsimp only
    rw [List.getElem?_eq_none (by omega)]
    rfl
  | n + 1, i, acc, hi => by
    have hlt : i < l.length := by omega
    rw [List.drop_eq_getElem_cons hlt]
    funext e s
    unfold compGo
    rw [h s]
    dsimp only
    rw [List.getElem?_eq_getElem hlt]
    dsimp only
    have ih := fun a => compGo_const h n (i + 1) a (by omega)
    simp only [ih]
    rfl
theorem compGo_c (h : sr.Const l) : compGo f cond step vs sr l.length 0 acc = compL f cond step vs l acc := by rw [compGo_const h l.length 0 acc (by omega)]; rfl
def runComp (sr : Src) (f : D → M Unit) (cond : M Bool) (step : Cell → M Cell) (vs : List Nat) (acc : Cell) : M Cell := fun e s => match sr.items s with
  | some l => match compGo f cond step vs sr l.length 0 acc (wipeE e vs) s with
    | .ok c e' s' => .ok c (unE e e' vs) s'
    | _ => .bad
  | none => .bad
@[simp] theorem r_compM {src : M Src} : compM acc src f cond step vs e s = (src e s).andThen fun sr => fun e s => match noOwn e vs with
  | true => runComp sr f cond step vs acc e s
  | false => .bad := by
  unfold compM
  rw [bnd_app]
  cases src e s with
  | ok sr e' s' =>
    show (match noOwn e' vs, sr.items s' with
      | true, some l => _
      | _, _ => _) = (match noOwn e' vs with | true => runComp sr f cond step vs acc e' s' | false => .bad)
    unfold runComp
    cases noOwn e' vs <;> cases sr.items s' <;> rfl
  | exc _ _ _ => rfl
  | bad => rfl
@[simp] theorem r_stepL {a : M D} {ds : List D} : stepL a (.lst ds) e s = (a e s).andThen fun y => chk (szOk (ds.length + 1)) (rt (.lst (ds ++ [y]))) := rfl
@[simp] theorem r_wipe_nil : wipeE e [] = e := rfl
@[simp] theorem r_wipe_cons {v : Nat} {vs : List Nat} : wipeE e (v :: vs) = (wipeE e vs).set v .no := rfl
@[simp] theorem r_unE_nil {e' : PEnv} : unE e e' [] = e' := rfl
@[simp] theorem r_unE_cons {e' : PEnv} {v : Nat} {vs : List Nat} : unE e e' (v :: vs) = match e[v]? with | some sl => (unE e e' vs).set v sl | none => unE e e' vs := rfl
@[simp] theorem r_noOwn_nil : noOwn e [] = true := rfl
def ownAt : Option Slot → Bool
  | some (.own _) => false
  | _ => true
/-- a slot that is free or has a value -/
def sl : Option D → Slot
  | none => .no
  | some d => .val d
@[simp] theorem r_noOwn_cons {v : Nat} {vs : List Nat} : noOwn e (v :: vs) = (ownAt e[v]? && noOwn e vs) := by
  show (_ && noOwn e vs) = _
  congr 1
@[simp] theorem r_ownAt_none : ownAt none = true := rfl
@[simp] theorem r_ownAt_no : ownAt (some .no) = true := rfl
@[simp] theorem r_ownAt_val {d : D} : ownAt (some (.val d)) = true := rfl
@[simp] theorem r_ownAt_sl {d : Option D} : ownAt (some (sl d)) = true := by cases d <;> rfl
/-- parts that leave the store as it is -/
theorem compL_map {α : Type} {g : α → D} {fe : α → PEnv} {b : α → Bool} {y : α → D} {elt : M D} : ∀ {xs : List α} {acc : List D}, (∀ x ∈ xs, f (g x) e s = .ok () (fe x) s ∧ cond (fe x) s = .ok (b x) (fe x) s ∧ (b x = true → elt (fe x) s = .ok (y x) (fe x) s) ∧ wipeE (fe x) vs = e) →
    acc.length + xs.length ≤ 16777216 → compL f cond (stepL elt) vs (xs.map g) (.lst acc) e s = .ok (.lst (acc ++ (xs.filter b).map y)) e s
  | [], acc, _, _ => by simp [compL]
  | x :: xs, acc, h, hs => by
    obtain ⟨h1, h2, h3, h4⟩ := h x List.mem_cons_self
    have ih := fun acc' hl => compL_map (xs := xs) (acc := acc') (fun z hz => h z (List.mem_cons_of_mem _ hz)) hl
    simp only [List.length_cons] at hs
    show (match f (g x) e s with
      | .ok _ e1 s1 => compTail cond (stepL elt) (.lst acc) (fun a e s => compL f cond (stepL elt) vs (xs.map g) a (wipeE e vs) s) e1 s1
      | _ => .bad) = _
    rw [h1]
    dsimp only
    unfold compTail
    rw [h2]
    cases hb : b x with
    | false =>
      dsimp only
      rw [h4, ih acc (by omega)]
      simp [hb]
    | true =>
      dsimp only
      have hst : stepL elt (.lst acc) (fe x) s = .ok (.lst (acc ++ [y x])) (fe x) s := by
        have hz : szOk (acc.length + 1) = true := by unfold szOk; exact Nat.ble_eq_true_of_le (by omega)
        rw [r_stepL, h3 hb, andThen_ok, r_chk, hz]; rfl
      rw [hst]
      dsimp only
      rw [h4, ih (acc ++ [y x]) (by simp; omega)]
      simp [hb]
theorem filter_yes {α : Type} : ∀ xs : List α, xs.filter (fun _ => true) = xs
  | [] => rfl
  | x :: xs => by rw [List.filter_cons_of_pos rfl, filter_yes xs]
/-- the same for any source that says what it walks in this store -/
theorem compGo_map {α : Type} {g : α → D} {fe : α → PEnv} {b : α → Bool} {y : α → D} {elt : M D} {l : List D} (hi : sr.items s = some l) : ∀ {n i : Nat} {xs : List α} {acc : List D}, l.drop i = xs.map g → n = xs.length →
    (∀ x ∈ xs, f (g x) e s = .ok () (fe x) s ∧ cond (fe x) s = .ok (b x) (fe x) s ∧ (b x = true → elt (fe x) s = .ok (y x) (fe x) s) ∧ wipeE (fe x) vs = e) →
    acc.length + xs.length ≤ 16777216 → compGo f cond (stepL elt) vs sr n i (.lst acc) e s = .ok (.lst (acc ++ (xs.filter b).map y)) e s
  | n, i, [], acc, hd, hn, _, _ => by
    have hl : l[i]? = none := by
      have := congrArg (fun z => z[0]?) hd
      simpa [List.getElem?_drop] using this
    subst hn
    unfold compGo
    simp only [List.length_nil]
    rw [hi]
    dsimp only
    rw [hl]
    simp
  | n, i, x :: xs, acc, hd, hn, h, hs => by
    subst hn
    obtain ⟨h1, h2, h3, h4⟩ := h x List.mem_cons_self
    have hl : l[i]? = some (g x) := by
      have := congrArg (fun z => z[0]?) hd
      simpa [List.getElem?_drop] using this
    have hd' : l.drop (i + 1) = xs.map g := by
      have := congrArg List.tail hd
      simpa [List.tail_drop] using this
    have ih := fun acc' hl => compGo_map hi (n := xs.length) (i := i + 1) (xs := xs) (acc := acc') hd' rfl (fun z hz => h z (List.mem_cons_of_mem _ hz)) hl
    simp only [List.length_cons] at hs
    rw [List.length_cons]
    unfold compGo
    rw [hi]
    dsimp only
    rw [hl]
    dsimp only
    rw [h1]
    dsimp only
    unfold compTail
    rw [h2]
    cases hb : b x with
    | false =>
      dsimp only
      rw [h4, ih acc (by omega)]
      simp [hb]
    | true =>
      dsimp only
      have hst : stepL elt (.lst acc) (fe x) s = .ok (.lst (acc ++ [y x])) (fe x) s := by
        have hz : szOk (acc.length + 1) = true := by unfold szOk; exact Nat.ble_eq_true_of_le (by omega)
        rw [r_stepL, h3 hb, andThen_ok, r_chk, hz]; rfl
      rw [hst]
      dsimp only
      rw [h4, ih (acc ++ [y x]) (by simp; omega)]
      simp [hb]
theorem runComp_map {α : Type} {g : α → D} {fe : α → PEnv} {b : α → Bool} {y : α → D} {elt : M D} {e0 : PEnv} (xs : List α) (hi : sr.items s = some (xs.map g)) (he : wipeE e0 vs = e)
    (h : ∀ x ∈ xs, f (g x) e s = .ok () (fe x) s ∧ cond (fe x) s = .ok (b x) (fe x) s ∧ (b x = true → elt (fe x) s = .ok (y x) (fe x) s) ∧ wipeE (fe x) vs = e)
    (hs : xs.length ≤ 16777216) : runComp sr f cond (stepL elt) vs (.lst []) e0 s = .ok (.lst ((xs.filter b).map y)) (unE e0 e vs) s := by
  unfold runComp
  rw [hi]
  dsimp only
  rw [he, compGo_map hi (n := (xs.map g).length) (i := 0) (xs := xs) rfl (by simp) h (by simpa using hs)]
  simp
theorem runComp_all {α : Type} {g : α → D} {fe : α → PEnv} {y : α → D} {elt : M D} {e0 : PEnv} (xs : List α) (hi : sr.items s = some (xs.map g)) (he : wipeE e0 vs = e)
    (h : ∀ x ∈ xs, f (g x) e s = .ok () (fe x) s ∧ elt (fe x) s = .ok (y x) (fe x) s ∧ wipeE (fe x) vs = e)
    (hs : xs.length ≤ 16777216) : runComp sr f (rt true) (stepL elt) vs (.lst []) e0 s = .ok (.lst (xs.map y)) (unE e0 e vs) s := by
  have q := runComp_map (cond := rt true) (fe := fe) (b := fun _ => true) (y := y) (elt := elt) xs hi he (fun x hx => ⟨(h x hx).1, rfl, fun _ => (h x hx).2.1, (h x hx).2.2⟩) hs
  rw [filter_yes] at q
  exact q
end
/-! ### the last cells of a store -/
section
variable {s t : Store} {a b c d : Cell} {k : Nat}
@[simp] theorem st_get0 : (s ++ a :: t)[s.length]? = some a := by simp
@[simp] theorem st_get1 : (s ++ a :: b :: t)[s.length + 1]? = some b := by simp [List.getElem?_append_right]
@[simp] theorem st_get2 : (s ++ a :: b :: c :: t)[s.length + 2]? = some c := by simp [List.getElem?_append_right]
@[simp] theorem st_set0 : (s ++ a :: t).set s.length d = s ++ d :: t := by simp
@[simp] theorem st_set1 : (s ++ a :: b :: t).set (s.length + 1) d = s ++ a :: d :: t := by simp [List.set_append]
@[simp] theorem st_set2 : (s ++ a :: b :: c :: t).set (s.length + 2) d = s ++ a :: b :: d :: t := by simp [List.set_append]
theorem st_getB (h : k < s.length) : (s ++ t)[k]? = s[k]? := List.getElem?_append_left h
theorem st_setB (h : k < s.length) : (s ++ t).set k d = s.set k d ++ t := by simp [List.set_append, h]
end
/-! ### lists of ints, of truth values -/
@[simp] theorem r_all_bls {ns : List Bool} : allD (.lst (ns.map D.bl)) = some (.bl (ns.all id)) := by
  show (blsOf (ns.map D.bl)).map _ = _
  rw [blsOf_bls]; rfl
@[simp] theorem r_any_bls {ns : List Bool} : anyD (.lst (ns.map D.bl)) = some (.bl (ns.any id)) := by
  show (blsOf (ns.map D.bl)).map _ = _
  rw [blsOf_bls]; rfl
@[simp] theorem r_sum_ints {ns : List Int} : sumD (.lst (ns.map D.int)) = some (.int ns.sum) := by
  show (intsOf (ns.map D.int)).map _ = _
  rw [intsOf_ints]; rfl
theorem all_map {α : Type} {xs : List α} {p : α → Bool} : allD (.lst (xs.map fun x => D.bl (p x))) = some (.bl (xs.all p)) := by
  have e : (xs.map fun x => D.bl (p x)) = (xs.map p).map D.bl := by rw [List.map_map]; rfl
  rw [e, r_all_bls, List.all_map]; rfl
@[simp] theorem all_yes {α : Type} : ∀ xs : List α, (xs.all fun _ => true) = true
  | [] => rfl
  | x :: xs => by rw [List.all_cons, all_yes xs]; rfl
theorem ints_map {α : Type} {xs : List α} {p : α → Int} : (xs.map fun x => D.int (p x)) = (xs.map p).map D.int := by rw [List.map_map]; rfl
theorem r_max_ints {ns : List Int} (h : ns ≠ []) : maxD (.lst (ns.map D.int)) = some (.int (maxL ns)) := by
  show ((intsOf (ns.map D.int)).bind _) = _
  rw [intsOf_ints]
  cases ns with
  | nil => exact absurd rfl h
  | cons n r => rfl
theorem r_min_ints {ns : List Int} (h : ns ≠ []) : minD (.lst (ns.map D.int)) = some (.int (minL ns)) := by
  show ((intsOf (ns.map D.int)).bind _) = _
  rw [intsOf_ints]
  cases ns with
  | nil => exact absurd rfl h
  | cons n r => rfl
/-! ### subscripts -/
section
variable {l : List D} {i : Int} {kvs : List (Key × D)} {d : D}
@[simp] theorem r_ix_tup : ixD (.tup l) (.int i) = atI l i := rfl
@[simp] theorem r_ix_lst : ixD (.lst l) (.int i) = atI l i := rfl
@[simp] theorem r_ix_wls : ixD (.wls l) (.int i) = atI l i := rfl
@[simp] theorem r_ix_dct : ixD (.dct kvs) (.int i) = valD kvs (.inl i) := rfl
theorem atI_nat {α : Type} {xs : List α} {j : Nat} (h : j < xs.length) : atI xs (j : Int) = xs[j]? := by
  unfold atI ixN
  rw [if_pos (by omega), if_pos (by omega)]
  rfl
@[simp] theorem r_at0 {α : Type} {a : α} {t : List α} : atI (a :: t) 0 = some a := by
  have := atI_nat (xs := a :: t) (j := 0) (by simp)
  simpa using this
@[simp] theorem r_at1 {α : Type} {a b : α} {t : List α} : atI (a :: b :: t) 1 = some b := by
  have := atI_nat (xs := a :: b :: t) (j := 1) (by simp)
  simpa using this
@[simp] theorem r_at2 {α : Type} {a b c : α} {t : List α} : atI (a :: b :: c :: t) 2 = some c := by
  have := atI_nat (xs := a :: b :: c :: t) (j := 2) (by simp)
  simpa using this
@[simp] theorem r_at3 {α : Type} {a b c d : α} {t : List α} : atI (a :: b :: c :: d :: t) 3 = some d := by
  have := atI_nat (xs := a :: b :: c :: d :: t) (j := 3) (by simp)
  simpa using this
theorem atI_last {α : Type} {xs : List α} {a : α} : atI (xs ++ [a]) (-1) = some a := by
  unfold atI ixN
  rw [if_neg (by omega), if_pos (by simp; omega)]
  have : (-1 + ((xs ++ [a]).length : Int)).toNat = xs.length := by simp; omega
  show (xs ++ [a])[(-1 + ((xs ++ [a]).length : Int)).toNat]? = _
  rw [this]; simp
end
section
variable {a b : Int} {x : D} {neg : Bool}
@[simp] theorem r_is_non : isD neg x .non = some (.bl (neg != QB.isNon x)) := rfl
@[simp] theorem r_is_bl {c d : Bool} : isD neg (.bl c) (.bl d) = some (.bl (neg != decide (c = d))) := rfl
@[simp] theorem r_isNon_non : QB.isNon .non = true := rfl
@[simp] theorem r_isNon_int : QB.isNon (.int a) = false := rfl
@[simp] theorem r_isNon_bl {c : Bool} : QB.isNon (.bl c) = false := rfl
@[simp] theorem r_isNon_str {c : Str} : QB.isNon (.str c) = false := rfl
@[simp] theorem r_isNon_tup {c : List D} : QB.isNon (.tup c) = false := rfl
@[simp] theorem r_isNon_lst {c : List D} : QB.isNon (.lst c) = false := rfl
@[simp] theorem r_isNon_wls {c : List D} : QB.isNon (.wls c) = false := rfl
@[simp] theorem r_isNon_dct {c : List (Key × D)} : QB.isNon (.dct c) = false := rfl
@[simp] theorem r_isNon_ref {c : Nat} : QB.isNon (.ref c) = false := rfl
@[simp] theorem r_max2 : max2D (.int a) (.int b) = some (.int (if b > a then b else a)) := rfl
@[simp] theorem r_min2 : min2D (.int a) (.int b) = some (.int (if b < a then b else a)) := rfl
@[simp] theorem r_abs : absD (.int a) = some (.int (if a < 0 then -a else a)) := rfl
@[simp] theorem r_list_tup {l : List D} : listD (.tup l) = some (.lst l) := rfl
@[simp] theorem r_list_lst {l : List D} : listD (.lst l) = some (.lst l) := rfl
@[simp] theorem r_putC_lst {l : List D} {i : Int} {d : D} : putC (.lst l) (.int i) d = (ixN l.length i).map fun n => .lst (l.set n d) := rfl
@[simp] theorem r_slD_tup {l : List D} {lo hi : Option Int} : slD (.tup l) lo hi = some (.tup (cutL l lo hi)) := rfl
@[simp] theorem r_slD_lst {l : List D} {lo hi : Option Int} : slD (.lst l) lo hi = some (.lst (cutL l lo hi)) := rfl
@[simp] theorem r_slD_wls {l : List D} {lo hi : Option Int} : slD (.wls l) lo hi = some (.lst (cutL l lo hi)) := rfl
theorem cut_from {ds : List D} {k : Nat} : cutL ds (some (k : Int)) none = ds.drop k := by
  unfold cutL
  rw [HT.sIx_nat, HT.sIx_none]
  by_cases h : k ≤ ds.length
  · rw [Nat.min_eq_left h, List.take_of_length_le (by simp)]
  · rw [Nat.min_eq_right (by omega), List.drop_eq_nil_of_le (by omega), List.drop_eq_nil_of_le (by omega)]; simp
theorem cut_to {ds : List D} {i : Int} (h : 0 ≤ i) : cutL ds none (some i) = ds.take i.toNat := by
  unfold cutL
  obtain ⟨k, rfl⟩ := Int.eq_ofNat_of_zero_le h
  show (ds.drop 0).take (HT.sIx ds.length ds.length (some (k : Int)) - 0) = ds.take k
  rw [HT.sIx_nat]
  simp
end
end QB

/-! The pure layer, part 20: dicts from ints to ints, membership, dict comprehensions. -/
namespace QB
open PySem PySem.Spec PyProof.Rows L2
def lvD (lv : List (Int × Int)) : List (Key × D) := lv.map fun p => (.inl p.1, .int p.2)
def getL (lv : List (Int × Int)) (k : Int) : Option Int := (lv.find? fun p => decide (p.1 = k)).map (·.2)
theorem valD_lv : ∀ (lv : List (Int × Int)) (k : Int), valD (lvD lv) (.inl k) = (getL lv k).map D.int
  | [], k => rfl
  | p :: lv, k => by
    have ih := valD_lv lv k
    unfold valD getL lvD at *
    simp only [List.map_cons, List.find?_cons]
    by_cases h : p.1 = k
    · simp [h]
    · simp [h]; simpa using ih
theorem getL_none {lv : List (Int × Int)} {k : Int} (h : k ∉ lv.map (·.1)) : getL lv k = none := by
  unfold getL
  rw [List.find?_eq_none.mpr]; rfl
  intro p hp
  simp
  intro e
  exact h (List.mem_map.mpr ⟨p, hp, e⟩)
theorem getL_some_mem {lv : List (Int × Int)} {k v : Int} (h : getL lv k = some v) : k ∈ lv.map (·.1) := by
  by_cases e : k ∈ lv.map (·.1)
  · exact e
  · rw [getL_none e] at h; cases h
theorem getL_of_mem : ∀ {lv : List (Int × Int)} {p : Int × Int}, (lv.map (·.1)).Nodup → p ∈ lv → getL lv p.1 = some p.2
  | [], _, _, h => by cases h
  | q :: lv, p, hn, h => by
    have hn' := List.nodup_cons.mp hn
    unfold getL
    rw [List.find?_cons]
    rcases List.mem_cons.mp h with rfl | h
    · simp
    · have hne : q.1 ≠ p.1 := fun e => hn'.1 (List.mem_map.mpr ⟨p, h, e.symm⟩)
      simp [hne]
      have := getL_of_mem hn'.2 h
      unfold getL at this
      simpa using this
theorem putD_new {lv : List (Int × Int)} {k v : Int} (h : k ∉ lv.map (·.1)) : putD (lvD lv) (.inl k) (.int v) = lvD (lv ++ [(k, v)]) := by
  unfold putD
  rw [if_neg]
  · simp [lvD]
  · intro e
    obtain ⟨p, hp, e⟩ := List.any_eq_true.mp e
    obtain ⟨q, hq, rfl⟩ := List.mem_map.mp hp
    simp at e
    exact h (List.mem_map.mpr ⟨q, hq, e⟩)
theorem getL_app {lv : List (Int × Int)} {k v o : Int} (h : k ∉ lv.map (·.1)) : getL (lv ++ [(k, v)]) o = if o = k then some v else getL lv o := by
  unfold getL
  rw [List.find?_append]
  by_cases e : o = k
  · subst e
    rw [if_pos rfl, List.find?_eq_none.mpr]
    · simp
    · intro p hp
      simp
      intro e
      exact h (List.mem_map.mpr ⟨p, hp, e⟩)
  · rw [if_neg e]
    cases lv.find? fun p => decide (p.1 = o) with
    | none => simp; intro z; exact absurd z.symm e
    | some p => simp
theorem lvD_length {lv : List (Int × Int)} : (lvD lv).length = lv.length := by unfold lvD; rw [List.length_map]
theorem lvD_keys {lv : List (Int × Int)} : (lvD lv).map (fun kv => dOf kv.1) = (lv.map (·.1)).map D.int := by
  unfold lvD
  rw [List.map_map, List.map_map]
  rfl
theorem okNs_ints : ∀ (n : Nat) (ns : List Int), okNs n (ns.map D.int) = true
  | n, [] => by cases n <;> rfl
  | n, a :: ns => by
    rw [List.map_cons]
    have h : okNs n (D.int a :: ns.map D.int) = (okN n (.int a) && okNs n (ns.map D.int)) := by cases n <;> rfl
    rw [h, okNs_ints n ns, Bool.and_true]
    cases n <;> rfl
theorem eqd_int {a b : Int} : eqd (.int a) (.int b) = decide (a = b) := rfl
theorem any_ints (h : Int) : ∀ ns : List Int, ((ns.map D.int).any fun z => eqd z (.int h)) = decide (h ∈ ns)
  | [] => by simp
  | a :: ns => by
    rw [List.map_cons, List.any_cons, any_ints h ns, eqd_int]
    by_cases e : a = h
    · simp [e]
    · have : h ≠ a := fun z => e z.symm
      simp [e, this]
theorem in_ints {neg : Bool} {h : Int} {ns : List Int} : inD neg (.int h) (.lst (ns.map D.int)) = some (.bl (neg != decide (h ∈ ns))) := by
  show (if (okD (.int h) && okD (.lst (ns.map D.int))) = true then some (D.bl (neg != (ns.map D.int).any fun z => eqd z (.int h))) else none) = _
  have e1 : okD (.lst (ns.map D.int)) = true := by unfold okD okN; exact okNs_ints _ _
  rw [e1, any_ints]
  rfl
theorem in_intsT {neg : Bool} {h : Int} {ns : List Int} : inD neg (.int h) (.tup (ns.map D.int)) = some (.bl (neg != decide (h ∈ ns))) := by
  show (if (okD (.int h) && okD (.tup (ns.map D.int))) = true then some (D.bl (neg != (ns.map D.int).any fun z => eqd z (.int h))) else none) = _
  have e1 : okD (.tup (ns.map D.int)) = true := by unfold okD okN; exact okNs_ints _ _
  rw [e1, any_ints]
  rfl
theorem in_lv {neg : Bool} {h : Int} {lv : List (Int × Int)} : inD neg (.int h) (.dct (lvD lv)) = some (.bl (neg != (getL lv h).isSome)) := by
  show some (D.bl (neg != (valD (lvD lv) (.inl h)).isSome)) = _
  rw [valD_lv]
  cases getL lv h <;> rfl
theorem ix_lv {h : Int} {lv : List (Int × Int)} : ixD (.dct (lvD lv)) (.int h) = (getL lv h).map D.int := valD_lv lv h
theorem eqE_lv {lv : List (Int × Int)} : eqED (.dct (lvD lv)) (.dct []) = some (.bl lv.isEmpty) := by
  show some (D.bl ((lvD lv).length == 0)) = _
  rw [lvD_length]
  cases lv <;> rfl
theorem neE_lv {lv : List (Int × Int)} : neED (.dct (lvD lv)) (.dct []) = some (.bl (!lv.isEmpty)) := by
  show some (D.bl (!((lvD lv).length == 0))) = _
  rw [lvD_length]
  cases lv <;> rfl
/-! dict(pairs) -/
def pairD (p : Int × Int) : D := .tup [.int p.1, .int p.2]
theorem pairsOf_lv : ∀ lv : List (Int × Int), pairsOf (lv.map pairD) = some (lvD lv)
  | [] => rfl
  | p :: lv => by
    show ((keyOf (.int p.1)).bind fun kk => (pairsOf (lv.map pairD)).map ((kk, D.int p.2) :: ·)) = _
    rw [pairsOf_lv lv]; rfl
theorem mergeD_lv : ∀ (more lv : List (Int × Int)), ((lv ++ more).map (·.1)).Nodup → mergeD (lvD lv) (lvD more) = lvD (lv ++ more)
  | [], lv, _ => by show lvD lv = _; rw [List.append_nil]
  | p :: more, lv, h => by
    have hm : p.1 ∉ lv.map (·.1) := by
      rw [List.map_append, List.map_cons] at h
      intro z
      have := List.nodup_append.mp h
      exact this.2.2 _ z _ List.mem_cons_self rfl
    show mergeD (putD (lvD lv) (.inl p.1) (.int p.2)) (lvD more) = _
    rw [putD_new hm, mergeD_lv more (lv ++ [(p.1, p.2)]) (by rw [List.append_assoc]; exact h), List.append_assoc]; rfl
theorem dict_pairs {lv : List (Int × Int)} (h : (lv.map (·.1)).Nodup) : dictD (.lst (lv.map pairD)) = some (.dct (lvD lv)) := by
  show ((pairsOf (lv.map pairD)).map fun kvs => Cell.dct (mergeD [] kvs)) = _
  rw [pairsOf_lv]
  have := mergeD_lv lv [] (by simpa using h)
  show some (Cell.dct (mergeD (lvD []) (lvD lv))) = _
  rw [this]; rfl
/-! {k: v for ..}, the keys all different ints -/
section
variable {f : D → M Unit} {kx vx : M D} {vs : List Nat} {sr : Src} {e : PEnv} {s : Store}
theorem compGo_dict {α : Type} {g : α → D} {fe : α → PEnv} {kf vf : α → Int} {l : List D} (hi : sr.items s = some l) : ∀ {n i : Nat} {xs : List α} {lv : List (Int × Int)}, l.drop i = xs.map g → n = xs.length →
    (∀ x ∈ xs, f (g x) e s = .ok () (fe x) s ∧ kx (fe x) s = .ok (.int (kf x)) (fe x) s ∧ vx (fe x) s = .ok (.int (vf x)) (fe x) s ∧ wipeE (fe x) vs = e) →
    lv.length + xs.length ≤ 16777216 → ((lv ++ xs.map fun x => (kf x, vf x)).map (·.1)).Nodup → compGo f (rt true) (stepD kx vx) vs sr n i (.dct (lvD lv)) e s = .ok (.dct (lvD (lv ++ xs.map fun x => (kf x, vf x)))) e s
  | n, i, [], lv, hd, hn, _, _, _ => by
    have hl : l[i]? = none := by
      have := congrArg (fun z => z[0]?) hd
      simpa [List.getElem?_drop] using this
    subst hn
    unfold compGo
    simp only [List.length_nil]
    rw [hi]
    dsimp only
    rw [hl]
    simp
  | n, i, x :: xs, lv, hd, hn, h, hs, hnd => by
    subst hn
    obtain ⟨h1, h2, h3, h4⟩ := h x List.mem_cons_self
    have hl : l[i]? = some (g x) := by
      have := congrArg (fun z => z[0]?) hd
      simpa [List.getElem?_drop] using this
    have hd' : l.drop (i + 1) = xs.map g := by
      have := congrArg List.tail hd
      simpa [List.tail_drop] using this
    have hm : kf x ∉ lv.map (·.1) := by
      rw [List.map_append, List.map_cons, List.map_cons] at hnd
      intro z
      exact (List.nodup_append.mp hnd).2.2 _ z _ List.mem_cons_self rfl
    simp only [List.length_cons] at hs
    have ih := compGo_dict hi (n := xs.length) (i := i + 1) (xs := xs) (lv := lv ++ [(kf x, vf x)]) hd' rfl (fun z hz => h z (List.mem_cons_of_mem _ hz)) (by simp; omega) (by rw [List.append_assoc]; exact hnd)
    rw [List.length_cons]
    unfold compGo
    rw [hi]
    dsimp only
    rw [hl]
    dsimp only
    rw [h1]
    dsimp only
    unfold compTail
    rw [rt_app]
    dsimp only
    have hst : stepD kx vx (.dct (lvD lv)) (fe x) s = .ok (.dct (lvD (lv ++ [(kf x, vf x)]))) (fe x) s := by
      have hz : szOk ((lvD lv).length + 1) = true := by rw [lvD_length]; unfold szOk; exact Nat.ble_eq_true_of_le (by omega)
      show (bnd kx _) (fe x) s = _
      rw [bnd_app, h2, andThen_ok, bnd_app, h3, andThen_ok]
      show chk _ _ _ _ = _
      rw [r_chk, hz, putD_new hm]; rfl
    rw [hst]
    dsimp only
    rw [h4, ih]
    simp
theorem runComp_dict {α : Type} {g : α → D} {fe : α → PEnv} {kf vf : α → Int} {e0 : PEnv} (xs : List α) (hi : sr.items s = some (xs.map g)) (he : wipeE e0 vs = e)
    (h : ∀ x ∈ xs, f (g x) e s = .ok () (fe x) s ∧ kx (fe x) s = .ok (.int (kf x)) (fe x) s ∧ vx (fe x) s = .ok (.int (vf x)) (fe x) s ∧ wipeE (fe x) vs = e)
    (hs : xs.length ≤ 16777216) (hnd : (xs.map kf).Nodup) : runComp sr f (rt true) (stepD kx vx) vs (.dct []) e0 s = .ok (.dct (lvD (xs.map fun x => (kf x, vf x)))) (unE e0 e vs) s := by
  unfold runComp
  rw [hi]
  dsimp only
  have q := compGo_dict (sr := sr) (kf := kf) (vf := vf) hi (n := (xs.map g).length) (i := 0) (xs := xs) (lv := []) rfl (by simp) h (by simpa using hs) (by rw [List.nil_append, List.map_map]; exact hnd)
  rw [he]
  have q' : compGo f (rt true) (stepD kx vx) vs sr (xs.map g).length 0 (.dct []) e s = .ok (.dct (lvD (xs.map fun x => (kf x, vf x)))) e s := q
  rw [q']
end
end QB

/-! The pure layer, part 21: more to run by. -/
namespace QB
open PySem PySem.Spec PyProof.Rows L2
section
variable {s t : Store} {a b c d : Cell} {k : Nat}
@[simp] theorem st_getk0 (h : s.length = k) : (s ++ a :: t)[k]? = some a := by subst h; exact st_get0
@[simp] theorem st_getk1 (h : s.length = k) : (s ++ a :: b :: t)[k + 1]? = some b := by subst h; exact st_get1
@[simp] theorem st_getk2 (h : s.length = k) : (s ++ a :: b :: c :: t)[k + 2]? = some c := by subst h; exact st_get2
@[simp] theorem st_setk0 (h : s.length = k) : (s ++ a :: t).set k d = s ++ d :: t := by subst h; exact st_set0
@[simp] theorem st_setk1 (h : s.length = k) : (s ++ a :: b :: t).set (k + 1) d = s ++ a :: d :: t := by subst h; exact st_set1
@[simp] theorem st_setk2 (h : s.length = k) : (s ++ a :: b :: c :: t).set (k + 2) d = s ++ a :: b :: d :: t := by subst h; exact st_set2
end
@[simp] theorem r_rg1M {a : M Bv} {e : PEnv} {s : Store} : rg1M a e s = (a e s).andThen fun y => bnd (rd y) fun dy => opt (rangeD (.int 0) dy) := rfl
@[simp] theorem r_range {n : Int} (h1 : -1099511627776 ≤ n) (h2 : n ≤ 16777216) : rangeD (.int 0) (.int n) = some (0, n) := by
  rw [rangeD_int, if_pos]
  unfold rgOk
  simp only [Bool.and_eq_true, decide_eq_true_eq]
  omega
def rangeI (n : Int) : List Int := (List.range n.toNat).map fun i : Nat => (i : Int)
theorem rgL_ints {n : Int} : rgL 0 n = (rangeI n).map D.int := by
  unfold rgL rangeI
  rw [List.map_map, Int.sub_zero]
  apply List.map_congr_left
  intro i _
  show D.int (0 + (i : Int)) = D.int (i : Int)
  rw [Int.zero_add]
theorem rngL_ints {n : Int} : rngL 0 n.toNat = (rangeI n).map D.int := by
  unfold rngL rangeI
  rw [List.map_map]
  apply List.map_congr_left
  intro i _
  show D.int (0 + (i : Int)) = D.int (i : Int)
  rw [Int.zero_add]
theorem rangeI_mem {n o : Int} : o ∈ rangeI n ↔ 0 ≤ o ∧ o < n := by
  unfold rangeI
  constructor
  · intro h
    obtain ⟨i, hi, rfl⟩ := List.mem_map.mp h
    have := List.mem_range.mp hi
    omega
  · rintro ⟨h1, h2⟩
    exact List.mem_map.mpr ⟨o.toNat, List.mem_range.mpr (by omega), by omega⟩
theorem rangeI_nodup {n : Int} : (rangeI n).Nodup := by
  unfold rangeI
  refine List.Pairwise.map (R := fun a b => a ≠ b) _ ?_ List.nodup_range
  intro a b h e
  exact h (by omega)
theorem rangeI_length {n : Int} : (rangeI n).length = n.toNat := by unfold rangeI; rw [List.length_map, List.length_range]
theorem okD_ints {ns : List Int} : okD (.lst (ns.map D.int)) = true := by unfold okD okN; exact okNs_ints _ _
theorem okD_intsT {ns : List Int} : okD (.tup (ns.map D.int)) = true := by unfold okD okN; exact okNs_ints _ _
theorem eqd_ints : ∀ {ns ms : List Int}, PyData.eqv (.list (toPs (ns.map D.int))) (.list (toPs (ms.map D.int))) = decide (ns = ms) := by
  intro ns ms
  have key : ∀ {ns ms : List Int}, PyData.eqvAll (toPs (ns.map D.int)) (toPs (ms.map D.int)) = decide (ns = ms) := by
    intro ns
    induction ns with
    | nil => intro ms; cases ms with
      | nil => rfl
      | cons m ms => rfl
    | cons n ns ih => intro ms; cases ms with
      | nil => rfl
      | cons m ms =>
        show (PyData.eqv (.int n) (.int m) && PyData.eqvAll (toPs (ns.map D.int)) (toPs (ms.map D.int))) = _
        rw [ih]
        show (decide (n = m) && _) = _
        by_cases e : n = m
        · simp [e]
        · simp [e]
  exact key
theorem eq_ints {ns ms : List Int} : eqD (.lst (ns.map D.int)) (.lst (ms.map D.int)) = some (.bl (decide (ns = ms))) := by
  show (if (okD (.lst (ns.map D.int)) && okD (.lst (ms.map D.int))) = true then some (D.bl (eqd (.lst (ns.map D.int)) (.lst (ms.map D.int)))) else none) = _
  rw [okD_ints, okD_ints]
  show some (D.bl (PyData.eqv (toP (.lst (ns.map D.int))) (toP (.lst (ms.map D.int))))) = _
  unfold toP
  rw [eqd_ints]
theorem ne_ints {ns ms : List Int} : neD (.lst (ns.map D.int)) (.lst (ms.map D.int)) = some (.bl (!decide (ns = ms))) := by
  show (if (okD (.lst (ns.map D.int)) && okD (.lst (ms.map D.int))) = true then some (D.bl (!eqd (.lst (ns.map D.int)) (.lst (ms.map D.int)))) else none) = _
  rw [okD_ints, okD_ints]
  show some (D.bl (!PyData.eqv (toP (.lst (ns.map D.int))) (toP (.lst (ms.map D.int))))) = _
  unfold toP
  rw [eqd_ints]
theorem ne_ints_nil {ns : List Int} : neD (.lst (ns.map D.int)) (.lst []) = some (.bl (!decide (ns = []))) := ne_ints (ms := [])
theorem eq_ints_nil {ns : List Int} : eqD (.lst (ns.map D.int)) (.lst []) = some (.bl (decide (ns = []))) := eq_ints (ms := [])
@[simp] theorem eq_nil_nil : eqD (.lst []) (.lst []) = some (.bl true) := rfl
@[simp] theorem ne_nil_nil : neD (.lst []) (.lst []) = some (.bl false) := rfl
theorem seqIx {r : Int} {n : Nat} (h : 0 ≤ r) (h2 : r < n) : PySem.seqIndex? r n = some r.toNat := by
  unfold PySem.seqIndex?
  simp only [if_neg (show ¬ r < 0 by omega)]
  rw [if_pos]
  simp; omega
theorem map_eraseIdx {α β : Type} (f : α → β) : ∀ (l : List α) (i : Nat), (l.map f).eraseIdx i = (l.eraseIdx i).map f
  | [], _ => rfl
  | _ :: _, 0 => rfl
  | a :: l, i + 1 => by
    show f a :: (l.map f).eraseIdx i = f a :: (l.eraseIdx i).map f
    rw [map_eraseIdx f l i]
theorem perm_eraseIdx {α : Type} : ∀ (l : List α) (i : Nat) (v : α), l[i]? = some v → (v :: l.eraseIdx i).Perm l
  | [], i, v, h => by simp at h
  | a :: l, 0, v, h => by
    simp at h; subst h; exact List.Perm.refl _
  | a :: l, i + 1, v, h => by
    have ih := perm_eraseIdx l i v (by simpa using h)
    exact (List.Perm.swap a v (l.eraseIdx i)).trans (ih.cons a)
/-! a list compared with itself, level by level -/
end QB

/-! The pure layer, part 22: sorted ints, sorted pairs. -/
namespace QB
open PySem PySem.Spec PyProof.Rows L2 PySem.W
theorem leS_int {a b : Int} : leS (.int a) (.int b) = decide (a ≤ b) := by
  show (!PyProof.Rows.lexLt itemOrd [Sum.inl b] [Sum.inl a]) = _
  rw [lex_cons]
  show (!(decide (b < a) || (!decide (a < b) && false))) = _
  by_cases h : b < a
  · have : ¬ a ≤ b := by omega
    simp [h, this]
  · have : a ≤ b := by omega
    simp [h, this]
theorem leS_pair {p q : Int × Int} : leS (pairD p) (pairD q) = decide (p.1 < q.1 ∨ p.1 = q.1 ∧ p.2 ≤ q.2) := by
  show (!PyProof.Rows.lexLt itemOrd [Sum.inl q.1, Sum.inl q.2] [Sum.inl p.1, Sum.inl p.2]) = _
  rw [lex_cons, lex_cons]
  show (!(decide (q.1 < p.1) || (!decide (p.1 < q.1) && (decide (q.2 < p.2) || (!decide (p.2 < q.2) && false))))) = _
  by_cases h : q.1 < p.1
  · have : ¬ (p.1 < q.1 ∨ p.1 = q.1 ∧ p.2 ≤ q.2) := by omega
    simp [h, this]
  · by_cases h2 : p.1 < q.1
    · simp [h, h2]
    · have e : p.1 = q.1 := by omega
      by_cases h3 : q.2 < p.2
      · simp [h2, e, h3]
      · have : p.2 ≤ q.2 := by omega
        simp [h2, e, h3, this]
def leI (a b : Int) : Bool := decide (a ≤ b)
def leP (p q : Int × Int) : Bool := decide (p.1 < q.1 ∨ p.1 = q.1 ∧ p.2 ≤ q.2)
def sortI (l : List Int) : List Int := l.mergeSort leI
def sortP (l : List (Int × Int)) : List (Int × Int) := l.mergeSort leP
theorem leI_trans (a b c : Int) (h : leI a b = true) (h2 : leI b c = true) : leI a c = true := by
  unfold leI at *
  simp at *
  omega
theorem leI_total (a b : Int) : (leI a b || leI b a) = true := by
  unfold leI
  simp
  omega
theorem leP_trans (a b c : Int × Int) (h : leP a b = true) (h2 : leP b c = true) : leP a c = true := by
  unfold leP at *
  simp only [decide_eq_true_eq] at *
  omega
theorem leP_total (a b : Int × Int) : (leP a b || leP b a) = true := by
  unfold leP
  simp only [Bool.or_eq_true, decide_eq_true_eq]
  omega
theorem sortI_pw (l : List Int) : (sortI l).Pairwise fun a b => a ≤ b := by
  have := List.pairwise_mergeSort leI_trans leI_total l
  exact this.imp fun h => of_decide_eq_true h
theorem sortP_pw (l : List (Int × Int)) : (sortP l).Pairwise fun p q => p.1 < q.1 ∨ p.1 = q.1 ∧ p.2 ≤ q.2 := by
  have := List.pairwise_mergeSort leP_trans leP_total l
  exact this.imp fun h => of_decide_eq_true h
theorem sortI_perm (l : List Int) : (sortI l).Perm l := List.mergeSort_perm l _
theorem sortP_perm (l : List (Int × Int)) : (sortP l).Perm l := List.mergeSort_perm l _
theorem sortI_congr {l m : List Int} (h : l.Perm m) : sortI l = sortI m :=
  List.Perm.eq_of_pairwise (le := fun a b : Int => a ≤ b) (fun a b _ _ h1 h2 => by omega) (sortI_pw l) (sortI_pw m) ((sortI_perm l).trans (h.trans (sortI_perm m).symm))
theorem sortP_congr {l m : List (Int × Int)} (h : l.Perm m) : sortP l = sortP m :=
  List.Perm.eq_of_pairwise (le := fun p q : Int × Int => p.1 < q.1 ∨ p.1 = q.1 ∧ p.2 ≤ q.2) (fun a b _ _ h1 h2 => by
    apply Prod.ext <;> omega) (sortP_pw l) (sortP_pw m) ((sortP_perm l).trans (h.trans (sortP_perm m).symm))
theorem sortP_of {l : List (Int × Int)} (h : l.Pairwise fun p q => p.1 < q.1 ∨ p.1 = q.1 ∧ p.2 ≤ q.2) : sortP l = l :=
  List.mergeSort_of_pairwise (h.imp fun h => decide_eq_true h)
theorem sorted_ints (ns : List Int) : sortedD (.lst (ns.map D.int)) = some (.lst ((sortI ns).map D.int)) := by
  show (if okSort (ns.map D.int) = true then some (Cell.lst ((ns.map D.int).mergeSort leS)) else none) = _
  rw [if_pos]
  · congr 2
    refine (List.map_mergeSort (f := D.int) (r := leI) (s := leS) ?_).symm
    intro a _ b _
    exact leS_int.symm
  · unfold okSort
    rw [Bool.or_eq_true]
    left
    rw [List.all_map]
    exact List.all_eq_true.mpr fun a _ => rfl
theorem sorted_pairs (ps : List (Int × Int)) : sortedD (.lst (ps.map pairD)) = some (.lst ((sortP ps).map pairD)) := by
  show (if okSort (ps.map pairD) = true then some (Cell.lst ((ps.map pairD).mergeSort leS)) else none) = _
  rw [if_pos]
  · congr 2
    refine (List.map_mergeSort (f := pairD) (r := leP) (s := leS) ?_).symm
    intro a _ b _
    exact leS_pair.symm
  · unfold okSort
    rw [Bool.or_eq_true]
    right
    rw [List.all_map]
    exact List.all_eq_true.mpr fun a _ => rfl
@[simp] theorem eq_bl {a b : Bool} : eqD (.bl a) (.bl b) = some (.bl (decide (a = b))) := by cases a <;> cases b <;> rfl
@[simp] theorem ne_bl {a b : Bool} : neD (.bl a) (.bl b) = some (.bl (!decide (a = b))) := by cases a <;> cases b <;> rfl
end QB

/-! The pure layer, part 23: the law's call. -/
namespace QB
open PySem PySem.Spec PyProof.Rows L2
theorem fn_cx0 {P : Program} {w : World} {K : PySem.W.Frag} {mg : Str → Option Value} {base : Heap} {k : Nat} {f : Addr} {fd : FuncData} {ps : List Str} {sp : Sp} (F : FnOk P w K mg base (L2.CX P w) k f fd ps sp) : FnOk P w K mg base CX0 k f fd ps (fun vs H Q _ => sp vs H Q E0) :=
  ⟨fun vs H Q E h => F.len vs H Q E0 h, fun A outer s H args us vs Q E hr he hb hv hs => codeAny_mono (F.run A outer s H args us vs Q E0 hr he hb hv hs) fun r s' h => by
    cases r with
    | error e =>
      obtain ⟨_, _, _, _, _, _, _, _, _, _, _, _, z⟩ := h
      exact z.elim
    | ok fl => cases fl <;> exact h⟩
theorem law_start {K : PySem.W.Frag} {mg : Str → Option Value} {g : Fn} {H : Hp} {a : Addr} {ns : List Int} (hS : SqL K H a (ns.map V.int)) (h : ∃ S', g [.wls (ns.map D.int)] [] = .ok (.bl true) S') : spOf K mg 1 g [V.ref a] H (fun v _ => v = .bl true) E0 := by
  obtain ⟨S', e⟩ := h
  have hc : ∀ (p : Pl) (c : Cell), (⟨[], [], fun _ => 0, H⟩ : S8).cont p = some c → False := fun p c h => by
    cases p with
    | inl i => cases h
    | inr k => cases h
  have hm : ∀ b, ¬ Mu (fun _ => False) (⟨[], [], fun _ => 0, H⟩ : S8) b := fun b h => by
    rcases h with h | ⟨p, c, h, _⟩
    · exact h
    · exact hc p c h
  refine ⟨fun _ => False, ⟨[], [], fun _ => 0, H⟩, [.wls (ns.map D.int)], rfl, rfl, ⟨rfl, fun i d h => by simp at h, fun i c h => by simp at h, fun p c h => (hc p c h).elim, fun p q c d h => (hc p c h).elim, fun p c h => (hc p c h).elim, fun b z => z.elim⟩, .cons ?_ .nil, rfl, ?_⟩
  · unfold Rp
    refine ⟨a, ns.map V.int, rfl, ?_, RpL.ints ns⟩
    rcases hS with h | h
    · exact .inl ⟨hm a, h⟩
    · exact .inr h
  · show WpF K mg _ _ (g [.wls (ns.map D.int)] []) _ _
    rw [e]
    intro S2 _ _ _ _ v rv
    unfold Rp at rv
    exact rv
end QB

namespace K90
open PySem PySem.Spec PyProof.Rows L2 QB
def b_is_integer : SM := retS (andV (boolM (isiM [.int] (bvarM 0))) (notV (boolM (isiM [.bool] (bvarM 0)))))
def p_is_integer : Fn := runF 1 1 b_is_integer
theorem p_is_integer_len : ∀ ds s, p_is_integer ds s ≠ .bad → ds.length = 1 := fun ds s h => runF_len ds s h
def b_is_between : SM := retS (andV (boolM (callM p_is_integer (consM (varM 0) (rt [])))) (chainM leD leD (bvarM 1) (bvarM 0) (bvarM 2)))
def p_is_between : Fn := runF 3 3 b_is_between
theorem p_is_between_len : ∀ ds s, p_is_between ds s ≠ .bad → ds.length = 3 := fun ds s h => runF_len ds s h
def b_is_tuple_of : SM := retS (andV (boolM (isiM [.tuple] (bvarM 0))) (op2M eqD (toB (op1M lenD (bvarM 0))) (bvarM 1)))
def p_is_tuple_of : Fn := runF 2 2 b_is_tuple_of
theorem p_is_tuple_of_len : ∀ ds s, p_is_tuple_of ds s ≠ .bad → ds.length = 2 := fun ds s h => runF_len ds s h
def b_is_rising : SM := retS (op1M allD (toB (frz (compM (.lst []) (zipM (consM (varM 0) (consM (sliceM (bvarM 0) (partM (rt (.int 1))) (rt none)) (rt [])))) (tupT 2 (consT (setM 1) (consT (setM 2) nilT))) (rt true) (stepL (op2M ltD (bvarM 1) (bvarM 2))) [1, 2]))))
def p_is_rising : Fn := runF 3 1 b_is_rising
theorem p_is_rising_len : ∀ ds s, p_is_rising ds s ≠ .bad → ds.length = 1 := fun ds s h => runF_len ds s h
def b_are_unlike : SM := retS (op2M eqD (toB (op1M lenSetD (bvarM 0))) (toB (op1M lenD (bvarM 0))))
def p_are_unlike : Fn := runF 1 1 b_are_unlike
theorem p_are_unlike_len : ∀ ds s, p_are_unlike ds s ≠ .bad → ds.length = 1 := fun ds s h => runF_len ds s h
def b_is_ask : SM := seqS (ifS (orT (notM (boolM (callM p_is_tuple_of (consM (varM 0) (consM (rt (.int 2)) (rt [])))))) (notM (boolM (callM p_is_between (consM (op2M ixD (bvarM 0) (toB (rt (.int 0)))) (consM (rt (.int 0)) (consM (rt (.int 20)) (rt [])))))))) (retS (rt (.bl false))) (.nx)) (retS (callM p_is_between (consM (op2M ixD (bvarM 0) (toB (rt (.int 1)))) (consM (rt (.int 0)) (consM (op2M subD (toB (rt (.int 5))) (toB (rt (.int 1)))) (rt []))))))
def p_is_ask : Fn := runF 1 1 b_is_ask
theorem p_is_ask_len : ∀ ds s, p_is_ask ds s ≠ .bad → ds.length = 1 := fun ds s h => runF_len ds s h
def b_are_asks : SM := seqS (ifS (orT (notM (boolM (isiM [.tuple] (bvarM 0)))) (orT (notM (boolM (chainM leD leD (toB (rt (.int 1))) (toB (op1M lenD (bvarM 0))) (toB (rt (.int 5)))))) (notM (boolM (op1M allD (toB (frz (compM (.lst []) (seqM (varM 0)) (setM 3) (rt true) (stepL (callM p_is_ask (consM (varM 3) (rt [])))) [3])))))))) (retS (rt (.bl false))) (.nx)) (retS (andV (boolM (callM p_is_rising (consM (varM 0) (rt [])))) (callM p_are_unlike (consM (frz (compM (.lst []) (seqM (varM 0)) (tupT 2 (consT (setM 1) (consT (setM 2) nilT))) (rt true) (stepL (varM 2)) [1, 2])) (rt [])))))
def p_are_asks : Fn := runF 4 1 b_are_asks
theorem p_are_asks_len : ∀ ds s, p_are_asks ds s ≠ .bad → ds.length = 1 := fun ds s h => runF_len ds s h
def b_check_asked : SM := seqS (ifS (notM (boolM (callM p_are_asks (consM (varM 0) (rt []))))) (badS) (.nx)) (seqS (ifS (notM (boolM (callM p_is_between (consM (varM 1) (consM (rt (.int 1)) (consM (rt (.int 5)) (rt []))))))) (badS) (.nx)) (ifS (notM (boolM (callM p_is_between (consM (varM 2) (consM (op1M maxD (toB (op2M addD (toB (frz (lstM (consM (rt (.int 2)) (rt []))))) (toB (frz (compM (.lst []) (seqM (varM 0)) (tupT 2 (consT (setM 3) (consT (setM 4) nilT))) (rt true) (stepL (op2M addD (bvarM 4) (toB (rt (.int 1))))) [3, 4])))))) (consM (rt (.int 5)) (rt []))))))) (badS) (.nx)))
def p_check_asked : Fn := runF 5 3 b_check_asked
theorem p_check_asked_len : ∀ ds s, p_check_asked ds s ≠ .bad → ds.length = 3 := fun ds s h => runF_len ds s h
def b_answered : SM := seqS (asgS (op2M addD (toB (op2M ixD (bvarM 0) (toB (rt (.int 0))))) (bvarM 2)) (setM 4)) (retS (op2M addD (toB (op1M maxD (toB (frz (lstM (consM (varM 4) (consM (getM (varM 3) (varM 1) (rt (.int 0))) (rt [])))))))) (bvarM 2)))
def p_answered : Fn := runF 5 4 b_answered
theorem p_answered_len : ∀ ds s, p_answered ds s ≠ .bad → ds.length = 4 := fun ds s h => runF_len ds s h
def l_by_marks_0 : SM := seqS (asgS (frzL (compM (.lst []) (rg1S (consM (varM 2) (rt []))) (setM 7) (boolM (op2M neD (bvarM 7) (toB (op2M ixD (bvarM 5) (toB (rt (.int 1))))))) (stepL (varM 7)) [7])) (setM 6)) (seqS (exprS (appM (varM 4) (op1M maxD (toB (frz (compM (.lst []) (seqM (varM 6)) (setM 9) (rt true) (stepL (callM p_answered (consM (varM 5) (consM (varM 9) (consM (varM 1) (consM (varM 3) (rt []))))))) [9])))))) (asgS (op2M addD (toB (op2M ixD (bvarM 4) (toB (op1M negD (toB (rt (.int 1))))))) (toB (rt (.int 2)))) (subT (varM 3) (op2M ixD (bvarM 5) (toB (rt (.int 1)))))))
def b_by_marks : SM := seqS (exprS (callM p_check_asked (consM (varM 0) (consM (varM 1) (consM (varM 2) (rt [])))))) (seqS (asgS (tupM (consM (cellM (rt (.dct []))) (consM (cellM (lstM (rt []))) (rt [])))) (tupT 2 (consT (setM 3) (consT (setM 4) nilT)))) (seqS (forS (seqM (varM 0)) (setM 5) (l_by_marks_0)) (retS (tupM (consM (op1M tupleD (toB (frz (compM (.lst []) (seqM (varM 0)) (tupT 2 (consT (setM 8) (consT (setM 7) nilT))) (rt true) (stepL (varM 7)) [8, 7])))) (consM (op2M mulD (toB (op2M mulD (toB (rt (.int 2))) (toB (op2M subD (bvarM 2) (toB (rt (.int 1))))))) (toB (op1M lenD (bvarM 0)))) (consM (op1M tupleD (bvarM 4)) (rt []))))))))
def p_by_marks : Fn := runF 10 3 b_by_marks
theorem p_by_marks_len : ∀ ds s, p_by_marks ds s ≠ .bad → ds.length = 3 := fun ds s h => runF_len ds s h
def l_by_token_0 : SM := seqS (ifS (andT (boolM (op2M (inD false) (bvarM 6) (bvarM 4))) (andT (boolM (op2M leD (toB (op2M ixD (bvarM 4) (bvarM 6))) (bvarM 5))) (boolM (op2M (inD true) (bvarM 6) (toB (frz (compM (.lst []) (seqM (varM 8)) (tupT 2 (consT (setM 10) (consT (setM 9) nilT))) (rt true) (stepL (varM 10)) [10, 9]))))))) (seqS (exprS (appM (varM 8) (tupM (consM (varM 6) (consM (varM 5) (rt [])))))) (augS 5 (· + ·) (rt (.int 2)))) (.nx)) (ifS (boolM (op2M ltD (toB (op1M lenD (bvarM 8))) (toB (op1M lenD (bvarM 0))))) (parS (consM (op2M addD (bvarM 5) (bvarM 1)) (consM (op2M modD (toB (op2M addD (bvarM 6) (toB (rt (.int 1))))) (bvarM 2)) (consM (op2M addD (bvarM 7) (toB (rt (.int 1)))) (rt [])))) (par3 5 6 7)) (.nx))
def b_by_token : SM := seqS (exprS (callM p_check_asked (consM (varM 0) (consM (varM 1) (consM (varM 2) (rt [])))))) (seqS (ifS (notM (boolM (callM p_is_between (consM (varM 3) (consM (rt (.int 0)) (consM (rt (.int 20)) (rt []))))))) (badS) (.nx)) (seqS (asgS (tupM (consM (frz (compM (.dct []) (seqM (varM 0)) (tupT 2 (consT (setM 9) (consT (setM 10) nilT))) (rt true) (stepD (varM 10) (varM 9)) [9, 10])) (consM (varM 3) (consM (rt (.int 0)) (consM (rt (.int 0)) (consM (cellM (lstM (rt []))) (rt []))))))) (tupT 5 (consT (setM 4) (consT (setM 5) (consT (setM 6) (consT (setM 7) (consT (setM 8) nilT))))))) (seqS (whileGo (boolM (op2M ltD (toB (op1M lenD (bvarM 8))) (toB (op1M lenD (bvarM 0))))) (l_by_token_0) 1000000) (retS (tupM (consM (op1M tupleD (toB (frz (compM (.lst []) (seqM (varM 8)) (tupT 2 (consT (setM 10) (consT (setM 9) nilT))) (rt true) (stepL (varM 10)) [10, 9])))) (consM (varM 7) (consM (op1M tupleD (toB (frz (compM (.lst []) (seqM (varM 8)) (tupT 2 (consT (setM 10) (consT (setM 9) nilT))) (rt true) (stepL (varM 9)) [10, 9])))) (rt [])))))))))
def p_by_token : Fn := runF 11 4 b_by_token
theorem p_by_token_len : ∀ ds s, p_by_token ds s ≠ .bad → ds.length = 4 := fun ds s h => runF_len ds s h
def l_by_leader_0 : SM := seqS (asgS (ifM (boolM (op2M neD (bvarM 7) (toB (rt (.int 0))))) (varM 1) (rt (.int 0))) (setM 9)) (seqS (exprS (appM (varM 5) (op2M addD (toB (op1M maxD (toB (frz (lstM (consM (varM 6) (consM (varM 4) (rt [])))))))) (bvarM 9)))) (asgS (op2M addD (toB (op2M addD (toB (op2M ixD (bvarM 5) (toB (op1M negD (toB (rt (.int 1))))))) (toB (rt (.int 2))))) (bvarM 9)) (setM 4)))
def b_by_leader : SM := seqS (exprS (callM p_check_asked (consM (varM 0) (consM (varM 1) (consM (varM 2) (rt [])))))) (seqS (asgS (frz (op1F sortedD (toB (frz (compM (.lst []) (seqM (varM 0)) (tupT 2 (consT (setM 10) (consT (setM 7) nilT))) (rt true) (stepL (tupM (consM (op2M addD (bvarM 10) (ifM (boolM (op2M neD (bvarM 7) (toB (rt (.int 0))))) (bvarM 1) (toB (rt (.int 0))))) (consM (varM 7) (rt []))))) [10, 7]))))) (setM 3)) (seqS (parS (consM (rt (.int 0)) (consM (cellM (lstM (rt []))) (rt []))) (par2 4 5)) (seqS (forS (seqM (varM 3)) (tupT 2 (consT (setM 6) (consT (setM 7) nilT))) (l_by_leader_0)) (seqS (asgS (frzL (compM (.lst []) (seqM (varM 0)) (tupT 2 (consT (setM 10) (consT (setM 7) nilT))) (boolM (op2M neD (bvarM 7) (toB (rt (.int 0))))) (stepL (varM 7)) [10, 7])) (setM 8)) (retS (tupM (consM (op1M tupleD (toB (frz (compM (.lst []) (seqM (varM 3)) (tupT 2 (consT (setM 6) (consT (setM 7) nilT))) (rt true) (stepL (varM 7)) [6, 7])))) (consM (op2M mulD (toB (rt (.int 3))) (toB (op1M lenD (bvarM 8)))) (consM (op1M tupleD (bvarM 5)) (rt []))))))))))
def p_by_leader : Fn := runF 11 3 b_by_leader
theorem p_by_leader_len : ∀ ds s, p_by_leader ds s ≠ .bad → ds.length = 3 := fun ds s h => runF_len ds s h
def b__law_cell : SM := retS (ifM (boolM (op2M ltD (bvarM 1) (toB (op1M lenD (bvarM 0))))) (op2M ixD (bvarM 0) (bvarM 1)) (op2M addD (toB (op2M mulD (toB (rt (.int 6547))) (bvarM 1))) (toB (op2M modD (toB (op1M toIntD (toB (op1M sumD (toB (sliceM (bvarM 0) (rt none) (partM (rt (.int 1))))))))) (toB (rt (.int 1000033)))))))
def p__law_cell : Fn := runF 2 2 b__law_cell
theorem p__law_cell_len : ∀ ds s, p__law_cell ds s ≠ .bad → ds.length = 2 := fun ds s h => runF_len ds s h
def b__law_box : SM := retS (cellM (lstM (consM (op1M absD (bvarM 0)) (consM (op2M geD (toB (op1M absD (bvarM 0))) (toB (op2M powD (toB (rt (.int 10))) (toB (rt (.int 18)))))) (consM (op2M modD (toB (op1M toIntD (toB (op1M absD (bvarM 0))))) (toB (rt (.int 2147483629)))) (consM (rt (.int 0)) (rt [])))))))
def p__law_box : Fn := runF 1 1 b__law_box
theorem p__law_box_len : ∀ ds s, p__law_box ds s ≠ .bad → ds.length = 1 := fun ds s h => runF_len ds s h
def b__law_take : SM := seqS (ifS (andT (boolM (op2M ixD (bvarM 0) (toB (rt (.int 1))))) (boolM (op2M gtD (toB (op2M ixD (bvarM 0) (toB (rt (.int 0))))) (toB (rt (.int 0)))))) (seqS (asgS (op2M modD (toB (op1M toIntD (toB (op2M ixD (bvarM 0) (toB (rt (.int 0))))))) (bvarM 1)) (setM 3)) (seqS (asgS (op2M fdivD (toB (op2M ixD (bvarM 0) (toB (rt (.int 0))))) (bvarM 1)) (subT (varM 0) (rt (.int 0)))) (retS (varM 3)))) (.nx)) (seqS (asgS (op2M addD (toB (op2M ixD (bvarM 0) (toB (rt (.int 3))))) (toB (rt (.int 1)))) (subT (varM 0) (rt (.int 3)))) (seqS (asgS (op2M modD (toB (op1M toIntD (toB (op2M powD (toB (op2M addD (toB (op2M addD (toB (op2M ixD (bvarM 0) (toB (rt (.int 2))))) (toB (op2M mulD (toB (rt (.int 15487483))) (toB (op2M ixD (bvarM 0) (toB (rt (.int 3))))))))) (toB (rt (.int 179425573))))) (toB (rt (.int 5))))))) (toB (rt (.int 2147483647)))) (setM 2)) (retS (op2M modD (toB (op1M toIntD (toB (op2M fdivD (toB (op2M modD (toB (op1M toIntD (toB (op2M powD (toB (op2M addD (toB (op2M mulD (bvarM 2) (toB (rt (.int 48271))))) (toB (op2M mulD (toB (rt (.int 105089))) (toB (op2M ixD (bvarM 0) (toB (rt (.int 3))))))))) (toB (rt (.int 3))))))) (toB (rt (.int 2147483587))))) (toB (rt (.int 64))))))) (bvarM 1)))))
def p__law_take : Fn := runF 4 2 b__law_take
theorem p__law_take_len : ∀ ds s, p__law_take ds s ≠ .bad → ds.length = 2 := fun ds s h => runF_len ds s h
def p__law_same : Nat → Fn
  | 0 => fun _ _ => .bad
  | n + 1 => runF 3 2 (seqS (ifS (orT (boolM (op2M (isD false) (bvarM 1) (toB (rt .non)))) (boolM (isiM [.bool] (bvarM 1)))) (retS (ifM (boolM (op2M (isD false) (bvarM 1) (toB (rt .non)))) (op2M (isD false) (bvarM 0) (toB (rt .non))) (andV (boolM (isiM [.bool] (bvarM 0))) (op2M eqD (toB (op2M (isD false) (bvarM 0) (toB (rt (.bl true))))) (toB (op2M (isD false) (bvarM 1) (toB (rt (.bl true))))))))) (.nx)) (seqS (ifS (boolM (isiM [.int] (bvarM 1))) (retS (andV (boolM (isiM [.int] (bvarM 0))) (andV (boolM (notV (boolM (isiM [.bool] (bvarM 0))))) (op2M eqD (toB (op2M subD (toB (op1M toIntD (bvarM 0))) (bvarM 1))) (toB (rt (.int 0))))))) (.nx)) (seqS (ifS (boolM (isiM [.str] (bvarM 1))) (retS (andV (boolM (isiM [.str] (bvarM 0))) (andV (boolM (op2M eqD (toB (op1M lenD (bvarM 0))) (toB (op1M lenD (bvarM 1))))) (op2M eqD (toB (frz (compM (.lst []) (rg1S (consM (op1M lenD (bvarM 1)) (rt []))) (setM 2) (boolM (op2M neD (toB (sliceM (bvarM 0) (partM (varM 2)) (partM (op2M addD (bvarM 2) (toB (rt (.int 1))))))) (toB (op2M ixD (bvarM 1) (bvarM 2))))) (stepL (varM 2)) [2]))) (toB (frz (lstM (rt [])))))))) (.nx)) (seqS (ifS (orT (boolM (op2M neD (toB (isiM [.list] (bvarM 0))) (toB (isiM [.list] (bvarM 1))))) (boolM (op2M neD (toB (isiM [.tuple] (bvarM 0))) (toB (isiM [.tuple] (bvarM 1)))))) (retS (rt (.bl false))) (.nx)) (retS (andV (boolM (op2M eqD (toB (op1M lenD (bvarM 0))) (toB (op1M lenD (bvarM 1))))) (op2M eqD (toB (frz (compM (.lst []) (rg1S (consM (op1M lenD (bvarM 1)) (rt []))) (setM 2) (notM (boolM (callM (p__law_same n) (consM (op2M ixD (bvarM 0) (bvarM 2)) (consM (op2M ixD (bvarM 1) (bvarM 2)) (rt [])))))) (stepL (varM 2)) [2]))) (toB (frz (lstM (rt [])))))))))))
theorem p__law_same_len : ∀ n ds s, p__law_same n ds s ≠ .bad → ds.length = 2
  | 0, _, _, h => absurd rfl h
  | _ + 1, ds, s, h => runF_len ds s h
def l__law_mixed_0 : SM := exprS (appM (varM 3) (popM (varM 2) (callM p__law_take (consM (varM 0) (consM (op1M lenD (bvarM 2)) (rt []))))))
def b__law_mixed : SM := seqS (parS (consM (cellM ((bnd (rg1M (bvarM 1)) fun r => rt (.lst (rgL r.1 r.2))))) (consM (cellM (lstM (rt []))) (rt []))) (par2 2 3)) (seqS (whileGo (boolM (op2M neD (bvarM 2) (toB (frz (lstM (rt [])))))) (l__law_mixed_0) 1000000) (retS (varM 3)))
def p__law_mixed : Fn := runF 4 2 b__law_mixed
theorem p__law_mixed_len : ∀ ds s, p__law_mixed ds s ≠ .bad → ds.length = 2 := fun ds s h => runF_len ds s h
def l__law_asks_0 : SM := seqS (exprS (appM (varM 3) (tupM (consM (varM 4) (consM (varM 5) (rt [])))))) (asgS (op2M min2D (toB (rt (.int 20))) (toB (op2M addD (bvarM 4) (toB (op2M ixD (toB (frz (lstM (consM (callM p__law_take (consM (varM 0) (consM (rt (.int 2)) (rt [])))) (consM (rt (.int 0)) (consM (callM p__law_take (consM (varM 0) (consM (rt (.int 8)) (rt [])))) (consM (op2M addD (toB (rt (.int 4))) (toB (callM p__law_take (consM (varM 0) (consM (rt (.int 4)) (rt [])))))) (rt [])))))))) (bvarM 2)))))) (setM 4))
def b__law_asks : SM := seqS (parS (consM (callM p__law_take (consM (varM 0) (consM (rt (.int 4)) (rt [])))) (consM (cellM (lstM (rt []))) (consM (callM p__law_take (consM (varM 0) (consM (rt (.int 3)) (rt [])))) (rt [])))) (par3 2 3 4)) (seqS (forS (seqM (sliceM (toB (callM p__law_mixed (consM (varM 0) (consM (varM 1) (rt []))))) (rt none) (partM (op2M addD (toB (rt (.int 1))) (toB (callM p__law_take (consM (varM 0) (consM (varM 1) (rt []))))))))) (setM 5) (l__law_asks_0)) (retS (op1M tupleD (toB (frz (op1F sortedD (bvarM 3)))))))
def p__law_asks : Fn := runF 6 2 b__law_asks
theorem p__law_asks_len : ∀ ds s, p__law_asks ds s ≠ .bad → ds.length = 2 := fun ds s h => runF_len ds s h
def l__law_marks_0 : SM := seqS (asgS (op2M addD (bvarM 5) (toB (op2M mulD (toB (rt (.int 2))) (bvarM 1)))) (setM 7)) (seqS (ifS (boolM (op2M (isD true) (bvarM 4) (toB (rt .non)))) (asgS (op2M max2D (bvarM 7) (toB (op2M addD (toB (op2M addD (bvarM 4) (toB (rt (.int 2))))) (bvarM 1)))) (setM 7)) (.nx)) (seqS (exprS (appM (varM 3) (varM 7))) (asgS (varM 7) (setM 4))))
def b__law_marks : SM := seqS (parS (consM (cellM (lstM (rt []))) (consM (rt .non) (rt []))) (par2 3 4)) (seqS (forS (seqM (varM 0)) (tupT 2 (consT (setM 5) (consT (setM 6) nilT))) (l__law_marks_0)) (retS (tupM (consM (op1M tupleD (toB (frz (compM (.lst []) (seqM (varM 0)) (tupT 2 (consT (setM 5) (consT (setM 6) nilT))) (rt true) (stepL (varM 6)) [5, 6])))) (consM (op2M mulD (toB (op2M mulD (toB (rt (.int 2))) (toB (op2M subD (bvarM 2) (toB (rt (.int 1))))))) (toB (op1M lenD (bvarM 0)))) (consM (op1M tupleD (bvarM 3)) (rt [])))))))
def p__law_marks : Fn := runF 8 3 b__law_marks
theorem p__law_marks_len : ∀ ds s, p__law_marks ds s ≠ .bad → ds.length = 3 := fun ds s h => runF_len ds s h
def l__law_token_0 : SM := seqS (ifS (boolM (op2M eqED (bvarM 4) (toB (frz (rt (.dct [])))))) (.bk) (.nx)) (seqS (ifS (andT (boolM (op2M (inD false) (bvarM 7) (bvarM 4))) (boolM (op2M leD (toB (op2M ixD (bvarM 4) (bvarM 7))) (bvarM 8)))) (seqS (exprS (appM (varM 5) (varM 7))) (seqS (exprS (appM (varM 6) (varM 8))) (seqS (asgS (frz (op1F dictD (toB (frz (compM (.lst []) (keysM (varM 4)) (setM 11) (boolM (op2M neD (bvarM 11) (bvarM 7))) (stepL (tupM (consM (varM 11) (consM (op2M ixD (bvarM 4) (bvarM 11)) (rt []))))) [11]))))) (setM 4)) (asgS (op2M addD (bvarM 8) (toB (rt (.int 2)))) (setM 8))))) (.nx)) (ifS (boolM (op2M neED (bvarM 4) (toB (frz (rt (.dct [])))))) (asgS (tupM (consM (op2M modD (toB (op1M toIntD (toB (op2M addD (bvarM 7) (toB (rt (.int 1))))))) (bvarM 2)) (consM (op2M addD (bvarM 8) (bvarM 1)) (consM (op2M addD (bvarM 9) (toB (rt (.int 1)))) (rt []))))) (tupT 3 (consT (setM 7) (consT (setM 8) (consT (setM 9) nilT))))) (.nx)))
def b__law_token : SM := seqS (asgS (tupM (consM (frz (op1F dictD (toB (frz (compM (.lst []) (seqM (varM 0)) (tupT 2 (consT (setM 8) (consT (setM 11) nilT))) (rt true) (stepL (tupM (consM (varM 11) (consM (varM 8) (rt []))))) [8, 11]))))) (consM (cellM (lstM (rt []))) (consM (cellM (lstM (rt []))) (rt []))))) (tupT 3 (consT (setM 4) (consT (setM 5) (consT (setM 6) nilT))))) (seqS (asgS (tupM (consM (rt (.int 0)) (consM (varM 3) (consM (rt (.int 0)) (rt []))))) (tupT 3 (consT (setM 7) (consT (setM 8) (consT (setM 9) nilT))))) (seqS (forS (rg1S (consM (rt (.int 200)) (rt []))) (setM 10) (l__law_token_0)) (retS (tupM (consM (op1M tupleD (bvarM 5)) (consM (varM 9) (consM (op1M tupleD (bvarM 6)) (rt []))))))))
def p__law_token : Fn := runF 12 4 b__law_token
theorem p__law_token_len : ∀ ds s, p__law_token ds s ≠ .bad → ds.length = 4 := fun ds s h => runF_len ds s h
def l__law_leader_0 : SM := seqS (parS (consM (op2M max2D (bvarM 7) (bvarM 6)) (consM (ifM (boolM (op2M gtD (bvarM 8) (toB (rt (.int 0))))) (varM 1) (rt (.int 0))) (rt []))) (par2 9 10)) (seqS (exprS (appM (varM 4) (varM 8))) (seqS (exprS (appM (varM 5) (op2M addD (bvarM 9) (bvarM 10)))) (asgS (op2M addD (toB (op2M addD (toB (op2M addD (bvarM 9) (bvarM 10))) (toB (rt (.int 2))))) (bvarM 10)) (setM 6))))
def b__law_leader : SM := seqS (asgS (frz (op1F sortedD (toB (frz (compM (.lst []) (seqM (varM 0)) (tupT 2 (consT (setM 11) (consT (setM 8) nilT))) (rt true) (stepL (tupM (consM (op2M addD (bvarM 11) (ifM (boolM (op2M gtD (bvarM 8) (toB (rt (.int 0))))) (bvarM 1) (toB (rt (.int 0))))) (consM (varM 8) (rt []))))) [11, 8]))))) (setM 3)) (seqS (parS (consM (cellM (lstM (rt []))) (consM (cellM (lstM (rt []))) (consM (rt (.int 0)) (rt [])))) (par3 4 5 6)) (seqS (forS (seqM (varM 3)) (tupT 2 (consT (setM 7) (consT (setM 8) nilT))) (l__law_leader_0)) (retS (tupM (consM (op1M tupleD (bvarM 4)) (consM (op2M mulD (toB (rt (.int 3))) (toB (op1M lenD (toB (frz (compM (.lst []) (seqM (varM 0)) (tupT 2 (consT (setM 11) (consT (setM 8) nilT))) (boolM (op2M gtD (bvarM 8) (toB (rt (.int 0))))) (stepL (varM 8)) [11, 8])))))) (consM (op1M tupleD (bvarM 5)) (rt []))))))))
def p__law_leader : Fn := runF 12 3 b__law_leader
theorem p__law_leader_len : ∀ ds s, p__law_leader ds s ≠ .bad → ds.length = 3 := fun ds s h => runF_len ds s h
def b__law_all : SM := seqS (ifS (boolM (op2M eqD (bvarM 0) (toB (rt (.int 0))))) (retS (frz (lstM (consM (callM p_by_marks (consM (varM 1) (consM (varM 2) (consM (varM 3) (rt []))))) (consM (callM p_by_token (consM (varM 1) (consM (varM 2) (consM (varM 3) (consM (varM 4) (rt [])))))) (consM (callM p_by_leader (consM (varM 1) (consM (varM 2) (consM (varM 3) (rt []))))) (rt []))))))) (.nx)) (retS (frz (lstM (consM (callK p_by_marks 0 3 [2, 1, 0] (rt []) (consM (varM 3) (consM (varM 2) (consM (varM 1) (rt []))))) (consM (callK p_by_token 0 4 [3, 2, 1, 0] (rt []) (consM (varM 4) (consM (varM 3) (consM (varM 2) (consM (varM 1) (rt [])))))) (consM (callK p_by_leader 0 3 [2, 1, 0] (rt []) (consM (varM 3) (consM (varM 2) (consM (varM 1) (rt []))))) (rt [])))))))
def p__law_all : Fn := runF 5 5 b__law_all
theorem p__law_all_len : ∀ ds s, p__law_all ds s ≠ .bad → ds.length = 5 := fun ds s h => runF_len ds s h
def b__law_is_fair : SM := seqS (ifS (orT (notM (boolM (isiM [.tuple] (bvarM 1)))) (orT (boolM (op2M neD (toB (op1M lenD (bvarM 1))) (toB (rt (.int 3))))) (orT (notM (boolM (isiM [.tuple] (toB (op2M ixD (bvarM 1) (toB (rt (.int 0)))))))) (notM (boolM (isiM [.tuple] (toB (op2M ixD (bvarM 1) (toB (rt (.int 2))))))))))) (retS (rt (.bl false))) (.nx)) (seqS (asgS (varM 1) (tupT 3 (consT (setM 2) (consT (setM 3) (consT (setM 4) nilT))))) (seqS (ifS (orT (boolM (op2M neD (toB (frz (op1F sortedD (toB (frz (op1F listD (bvarM 2))))))) (toB (frz (op1F sortedD (toB (frz (compM (.lst []) (seqM (varM 0)) (tupT 2 (consT (setM 6) (consT (setM 7) nilT))) (rt true) (stepL (varM 7)) [6, 7])))))))) (boolM (op2M neD (toB (op1M lenD (bvarM 4))) (toB (op1M lenD (bvarM 2)))))) (retS (rt (.bl false))) (.nx)) (seqS (asgS (frz (op1F dictD (toB (frz (compM (.lst []) (seqM (varM 0)) (tupT 2 (consT (setM 6) (consT (setM 7) nilT))) (rt true) (stepL (tupM (consM (varM 7) (consM (varM 6) (rt []))))) [6, 7]))))) (setM 5)) (seqS (ifS (boolM (op2M neD (toB (frz (compM (.lst []) (rg1S (consM (op1M lenD (bvarM 2)) (rt []))) (setM 8) (boolM (op2M ltD (toB (op2M ixD (bvarM 4) (bvarM 8))) (toB (op2M ixD (bvarM 5) (toB (op2M ixD (bvarM 2) (bvarM 8))))))) (stepL (varM 8)) [8]))) (toB (frz (lstM (rt [])))))) (retS (rt (.bl false))) (.nx)) (retS (op2M eqD (toB (frz (compM (.lst []) (rg1S (consM (op2M subD (toB (op1M lenD (bvarM 2))) (toB (rt (.int 1)))) (rt []))) (setM 8) (boolM (op2M gtD (toB (op2M addD (toB (op2M ixD (bvarM 4) (bvarM 8))) (toB (rt (.int 2))))) (toB (op2M ixD (bvarM 4) (toB (op2M addD (bvarM 8) (toB (rt (.int 1))))))))) (stepL (varM 8)) [8]))) (toB (frz (lstM (rt []))))))))))
def p__law_is_fair : Fn := runF 9 2 b__law_is_fair
theorem p__law_is_fair_len : ∀ ds s, p__law_is_fair ds s ≠ .bad → ds.length = 2 := fun ds s h => runF_len ds s h
def b__law_moved : SM := retS (tupM (consM (op2M ixD (bvarM 0) (toB (rt (.int 0)))) (consM (op2M ixD (bvarM 0) (toB (rt (.int 1)))) (consM (op1M tupleD (toB (frz (compM (.lst []) (seqM (op2M ixD (bvarM 0) (toB (rt (.int 2))))) (setM 2) (rt true) (stepL (op2M addD (bvarM 2) (bvarM 1))) [2])))) (rt [])))))
def p__law_moved : Fn := runF 3 2 b__law_moved
theorem p__law_moved_len : ∀ ds s, p__law_moved ds s ≠ .bad → ds.length = 2 := fun ds s h => runF_len ds s h
def b__law_asks_right : SM := seqS (asgS (tupM (consM (callM p__law_asks (consM (varM 0) (consM (varM 2) (rt [])))) (consM (op2M addD (toB (rt (.int 1))) (toB (callM p__law_take (consM (varM 0) (consM (rt (.int 5)) (rt [])))))) (consM (callM p__law_take (consM (varM 0) (consM (rt (.int 12)) (rt [])))) (rt []))))) (tupT 3 (consT (setM 3) (consT (setM 4) (consT (setM 5) nilT))))) (seqS (asgS (callM p__law_all (consM (varM 1) (consM (varM 3) (consM (varM 4) (consM (varM 2) (consM (varM 5) (rt []))))))) (setM 6)) (seqS (asgS (frz (lstM (consM (callM p__law_marks (consM (varM 3) (consM (varM 4) (consM (varM 2) (rt []))))) (consM (callM p__law_token (consM (varM 3) (consM (varM 4) (consM (varM 2) (consM (varM 5) (rt [])))))) (consM (callM p__law_leader (consM (varM 3) (consM (varM 4) (consM (varM 2) (rt []))))) (rt [])))))) (setM 7)) (seqS (ifS (orT (notM (boolM (callM (p__law_same 6) (consM (varM 6) (consM (varM 7) (rt [])))))) (boolM (op2M neD (toB (frz (compM (.lst []) (seqM (varM 6)) (setM 13) (notM (boolM (callM p__law_is_fair (consM (varM 3) (consM (varM 13) (rt [])))))) (stepL (varM 13)) [13]))) (toB (frz (lstM (rt []))))))) (retS (rt (.bl false))) (.nx)) (seqS (ifS (notM (boolM (callM (p__law_same 6) (consM (callM p__law_all (consM (op2M subD (toB (rt (.int 1))) (bvarM 1)) (consM (varM 3) (consM (varM 4) (consM (varM 2) (consM (varM 5) (rt []))))))) (consM (varM 6) (rt [])))))) (retS (rt (.bl false))) (.nx)) (seqS (ifS (boolM (op2M neD (toB (op2M modD (toB (op1M toIntD (toB (op2M subD (toB (op2M ixD (toB (op2M ixD (bvarM 6) (toB (rt (.int 1))))) (toB (rt (.int 1))))) (toB (op2M ixD (toB (op2M ixD (toB (op2M ixD (bvarM 6) (toB (rt (.int 1))))) (toB (rt (.int 0))))) (toB (op1M negD (toB (rt (.int 1))))))))))) (bvarM 2))) (toB (rt (.int 0))))) (retS (rt (.bl false))) (.nx)) (seqS (ifS (boolM (op2M eqD (toB (frz (compM (.lst []) (seqM (varM 3)) (tupT 2 (consT (setM 11) (consT (setM 12) nilT))) (boolM (op2M gtD (bvarM 11) (toB (rt (.int 15))))) (stepL (varM 11)) [11, 12]))) (toB (frz (lstM (rt [])))))) (seqS (asgS (op2M addD (toB (rt (.int 1))) (toB (callM p__law_take (consM (varM 0) (consM (rt (.int 5)) (rt [])))))) (setM 8)) (seqS (asgS (op1M tupleD (toB (frz (compM (.lst []) (seqM (varM 3)) (tupT 2 (consT (setM 11) (consT (setM 12) nilT))) (rt true) (stepL (tupM (consM (op2M addD (bvarM 11) (bvarM 8)) (consM (varM 12) (rt []))))) [11, 12])))) (setM 9)) (seqS (asgS (callM p__law_all (consM (varM 1) (consM (varM 9) (consM (varM 4) (consM (varM 2) (consM (op2M addD (bvarM 5) (bvarM 8)) (rt []))))))) (setM 10)) (ifS (notM (boolM (callM (p__law_same 6) (consM (varM 10) (consM (frz (compM (.lst []) (seqM (varM 6)) (setM 13) (rt true) (stepL (callM p__law_moved (consM (varM 13) (consM (varM 8) (rt []))))) [13])) (rt [])))))) (retS (rt (.bl false))) (.nx))))) (.nx)) (retS (rt (.bl true)))))))))
def p__law_asks_right : Fn := runF 14 3 b__law_asks_right
theorem p__law_asks_right_len : ∀ ds s, p__law_asks_right ds s ≠ .bad → ds.length = 3 := fun ds s h => runF_len ds s h
def b__law_far_right : SM := seqS (asgS (op2M addD (toB (rt (.int 1))) (toB (callM p__law_take (consM (varM 0) (consM (rt (.int 2)) (rt [])))))) (setM 3)) (seqS (asgS (sliceM (toB (callM p__law_mixed (consM (varM 0) (consM (varM 2) (rt []))))) (rt none) (partM (rt (.int 3)))) (setM 4)) (seqS (asgS (op1M tupleD (toB (frz (compM (.lst []) (rg1S (consM (op1M lenD (bvarM 4)) (rt []))) (setM 11) (rt true) (stepL (tupM (consM (op2M mulD (bvarM 11) (toB (op2M addD (toB (rt (.int 2))) (toB (op2M mulD (toB (rt (.int 3))) (bvarM 3)))))) (consM (op2M ixD (bvarM 4) (bvarM 11)) (rt []))))) [11])))) (setM 5)) (seqS (asgS (frz (lstM (consM (callM p_by_marks (consM (varM 5) (consM (varM 3) (consM (varM 2) (rt []))))) (consM (callM p_by_leader (consM (varM 5) (consM (varM 3) (consM (varM 2) (rt []))))) (rt []))))) (setM 6)) (seqS (ifS (boolM (op2M eqD (bvarM 1) (toB (rt (.int 1))))) (asgS (frz (lstM (consM (callK p_by_marks 0 3 [2, 1, 0] (rt []) (consM (varM 2) (consM (varM 3) (consM (varM 5) (rt []))))) (consM (callK p_by_leader 0 3 [2, 1, 0] (rt []) (consM (varM 2) (consM (varM 3) (consM (varM 5) (rt []))))) (rt []))))) (setM 6)) (.nx)) (seqS (asgS (frzL (compM (.lst []) (seqM (varM 5)) (tupT 2 (consT (setM 9) (consT (setM 10) nilT))) (rt true) (stepL (tupM (consM (op2M addD (bvarM 9) (toB (op2M mulD (toB (rt (.int 2))) (bvarM 3)))) (consM (op2M addD (bvarM 9) (ifM (boolM (op2M gtD (bvarM 10) (toB (rt (.int 0))))) (toB (op2M mulD (toB (rt (.int 2))) (bvarM 3))) (toB (rt (.int 0))))) (rt []))))) [9, 10])) (setM 7)) (seqS (asgS (tupM (consM (op1M tupleD (bvarM 4)) (consM (op2M mulD (toB (op2M mulD (toB (rt (.int 2))) (toB (op2M subD (bvarM 2) (toB (rt (.int 1))))))) (toB (op1M lenD (bvarM 4)))) (consM (op1M tupleD (toB (frz (compM (.lst []) (seqM (varM 7)) (tupT 2 (consT (setM 12) (consT (setM 13) nilT))) (rt true) (stepL (varM 12)) [12, 13])))) (rt []))))) (setM 8)) (retS (callM (p__law_same 6) (consM (varM 6) (consM (frz (lstM (consM (varM 8) (consM (tupM (consM (op1M tupleD (bvarM 4)) (consM (op2M mulD (toB (rt (.int 3))) (toB (op1M lenD (toB (frz (compM (.lst []) (seqM (varM 4)) (setM 10) (boolM (op2M gtD (bvarM 10) (toB (rt (.int 0))))) (stepL (varM 10)) [10])))))) (consM (op1M tupleD (toB (frz (compM (.lst []) (seqM (varM 7)) (tupT 2 (consT (setM 12) (consT (setM 13) nilT))) (rt true) (stepL (varM 13)) [12, 13])))) (rt []))))) (rt []))))) (rt [])))))))))))
def p__law_far_right : Fn := runF 14 3 b__law_far_right
theorem p__law_far_right_len : ∀ ds s, p__law_far_right ds s ≠ .bad → ds.length = 3 := fun ds s h => runF_len ds s h
def l_law_0 : SM := seqS (asgS (op2M addD (toB (rt (.int 2))) (toB (callM p__law_take (consM (varM 2) (consM (rt (.int 4)) (rt [])))))) (setM 5)) (ifS (orT (notM (boolM (callM p__law_asks_right (consM (varM 2) (consM (op2M modD (toB (op1M toIntD (toB (op2M addD (bvarM 3) (bvarM 4))))) (toB (rt (.int 2)))) (consM (varM 5) (rt []))))))) (notM (boolM (callM p__law_far_right (consM (varM 2) (consM (varM 3) (consM (varM 5) (rt [])))))))) (retS (rt (.bl false))) (.nx))
def l_law_1 : SM := seqS (asgS (callM p__law_box (consM (callM p__law_cell (consM (varM 0) (consM (varM 1) (rt [])))) (rt []))) (setM 2)) (seqS (asgS (callM p__law_take (consM (varM 2) (consM (rt (.int 2)) (rt [])))) (setM 3)) (forS (rg1S (consM (rt (.int 5)) (rt []))) (setM 4) (l_law_0)))
def b_law : SM := seqS (forS (rg1S (consM (op2M max2D (toB (rt (.int 1))) (toB (op2M min2D (toB (rt (.int 2))) (toB (op1M lenD (bvarM 0)))))) (rt []))) (setM 1) (l_law_1)) (retS (rt (.bl true)))
def p_law : Fn := runF 6 1 b_law
theorem p_law_len : ∀ ds s, p_law ds s ≠ .bad → ds.length = 1 := fun ds s h => runF_len ds s h
end K90

namespace K90
open PySem PySem.Spec PyProof.Rows L2 QB
def top (i : Nat) : Stmt := PySem.Challenge.pw_quorumbench_k90_whole_marks_and_tokens_a.main.body.getD i (.Pass ⟨0, 0, 0, 0⟩)
theorem sc_is_integer : FnScope ["value"] ["value"] (defScope (top 6)) := ⟨rfl, rfl, rfl, by decide +kernel, rfl, by decide +kernel, by decide +kernel⟩
theorem sc_is_between : FnScope ["value", "least", "most"] ["value", "least", "most"] (defScope (top 7)) := ⟨rfl, rfl, rfl, by decide +kernel, rfl, by decide +kernel, by decide +kernel⟩
theorem sc_is_tuple_of : FnScope ["value", "many"] ["value", "many"] (defScope (top 8)) := ⟨rfl, rfl, rfl, by decide +kernel, rfl, by decide +kernel, by decide +kernel⟩
theorem sc_is_rising : FnScope ["items", "one", "other"] ["items"] (defScope (top 9)) := ⟨rfl, rfl, rfl, by decide +kernel, rfl, by decide +kernel, by decide +kernel⟩
theorem sc_are_unlike : FnScope ["items"] ["items"] (defScope (top 10)) := ⟨rfl, rfl, rfl, by decide +kernel, rfl, by decide +kernel, by decide +kernel⟩
theorem sc_is_ask : FnScope ["value"] ["value"] (defScope (top 16)) := ⟨rfl, rfl, rfl, by decide +kernel, rfl, by decide +kernel, by decide +kernel⟩
theorem sc_are_asks : FnScope ["value", "time", "machine", "ask"] ["value"] (defScope (top 17)) := ⟨rfl, rfl, rfl, by decide +kernel, rfl, by decide +kernel, by decide +kernel⟩
theorem sc_check_asked : FnScope ["asks", "delay", "machines", "time", "machine"] ["asks", "delay", "machines"] (defScope (top 18)) := ⟨rfl, rfl, rfl, by decide +kernel, rfl, by decide +kernel, by decide +kernel⟩
theorem sc_answered : FnScope ["ask", "other", "delay", "leaving", "arrival"] ["ask", "other", "delay", "leaving"] (defScope (top 19)) := ⟨rfl, rfl, rfl, by decide +kernel, rfl, by decide +kernel, by decide +kernel⟩
theorem sc_by_marks : FnScope ["asks", "delay", "machines", "leaving", "times", "ask", "others", "machine", "time", "other"] ["asks", "delay", "machines"] (defScope (top 20)) := ⟨rfl, rfl, rfl, by decide +kernel, rfl, by decide +kernel, by decide +kernel⟩
theorem sc_by_token : FnScope ["asks", "delay", "machines", "start", "waiting", "time", "holder", "steps", "found", "when", "machine"] ["asks", "delay", "machines", "start"] (defScope (top 21)) := ⟨rfl, rfl, rfl, by decide +kernel, rfl, by decide +kernel, by decide +kernel⟩
theorem sc_by_leader : FnScope ["asks", "delay", "machines", "arrivals", "free", "times", "arrival", "machine", "others", "far", "time"] ["asks", "delay", "machines"] (defScope (top 22)) := ⟨rfl, rfl, rfl, by decide +kernel, rfl, by decide +kernel, by decide +kernel⟩
theorem sc__law_cell : FnScope ["script", "k"] ["script", "k"] (defScope (top 24)) := ⟨rfl, rfl, rfl, by decide +kernel, rfl, by decide +kernel, by decide +kernel⟩
theorem sc__law_box : FnScope ["great"] ["great"] (defScope (top 25)) := ⟨rfl, rfl, rfl, by decide +kernel, rfl, by decide +kernel, by decide +kernel⟩
theorem sc__law_take : FnScope ["box", "many", "mixed", "digit"] ["box", "many"] (defScope (top 26)) := ⟨rfl, rfl, rfl, by decide +kernel, rfl, by decide +kernel, by decide +kernel⟩
theorem sc__law_same : FnScope ["told", "due", "k"] ["told", "due"] (defScope (top 27)) := ⟨rfl, rfl, rfl, by decide +kernel, rfl, by decide +kernel, by decide +kernel⟩
theorem sc__law_mixed : FnScope ["box", "many", "left", "found"] ["box", "many"] (defScope (top 28)) := ⟨rfl, rfl, rfl, by decide +kernel, rfl, by decide +kernel, by decide +kernel⟩
theorem sc__law_asks : FnScope ["box", "machines", "way", "found", "time", "m"] ["box", "machines"] (defScope (top 29)) := ⟨rfl, rfl, rfl, by decide +kernel, rfl, by decide +kernel, by decide +kernel⟩
theorem sc__law_marks : FnScope ["asks", "delay", "machines", "times", "last", "time", "m", "here"] ["asks", "delay", "machines"] (defScope (top 30)) := ⟨rfl, rfl, rfl, by decide +kernel, rfl, by decide +kernel, by decide +kernel⟩
theorem sc__law_token : FnScope ["asks", "delay", "machines", "start", "left", "order", "times", "holder", "time", "steps", "turn", "m"] ["asks", "delay", "machines", "start"] (defScope (top 31)) := ⟨rfl, rfl, rfl, by decide +kernel, rfl, by decide +kernel, by decide +kernel⟩
theorem sc__law_leader : FnScope ["asks", "delay", "machines", "rows", "order", "times", "free", "arrival", "m", "given", "way", "time"] ["asks", "delay", "machines"] (defScope (top 32)) := ⟨rfl, rfl, rfl, by decide +kernel, rfl, by decide +kernel, by decide +kernel⟩
theorem sc__law_all : FnScope ["way", "asks", "delay", "machines", "start"] ["way", "asks", "delay", "machines", "start"] (defScope (top 33)) := ⟨rfl, rfl, rfl, by decide +kernel, rfl, by decide +kernel, by decide +kernel⟩
theorem sc__law_is_fair : FnScope ["asks", "told", "order", "count", "times", "by", "time", "m", "k"] ["asks", "told"] (defScope (top 34)) := ⟨rfl, rfl, rfl, by decide +kernel, rfl, by decide +kernel, by decide +kernel⟩
theorem sc__law_moved : FnScope ["told", "more", "time"] ["told", "more"] (defScope (top 35)) := ⟨rfl, rfl, rfl, by decide +kernel, rfl, by decide +kernel, by decide +kernel⟩
theorem sc__law_asks_right : FnScope ["box", "way", "machines", "asks", "delay", "start", "told", "due", "more", "later", "moved", "time", "m", "one"] ["box", "way", "machines"] (defScope (top 36)) := ⟨rfl, rfl, rfl, by decide +kernel, rfl, by decide +kernel, by decide +kernel⟩
theorem sc__law_far_right : FnScope ["box", "way", "machines", "delay", "order", "asks", "told", "alone", "marks", "time", "m", "k", "a", "b"] ["box", "way", "machines"] (defScope (top 37)) := ⟨rfl, rfl, rfl, by decide +kernel, rfl, by decide +kernel, by decide +kernel⟩
theorem sc_law : FnScope ["script", "k", "box", "way", "turn", "machines"] ["script"] (defScope (top 38)) := ⟨rfl, rfl, rfl, by decide +kernel, rfl, by decide +kernel, by decide +kernel⟩
structure G (K : PySem.W.Frag) (mg : Str → Option Value) where
  a_is_integer : Addr
  fd_is_integer : FuncData
  F_is_integer : FunD K "is_integer" "is_integer" (defArgs (top 6)) (defBody (top 6)) (defScope (top 6)) [] [] a_is_integer fd_is_integer
  g_is_integer : mg "is_integer" = some (.ref a_is_integer)
  a_is_between : Addr
  fd_is_between : FuncData
  F_is_between : FunD K "is_between" "is_between" (defArgs (top 7)) (defBody (top 7)) (defScope (top 7)) [] [] a_is_between fd_is_between
  g_is_between : mg "is_between" = some (.ref a_is_between)
  a_is_tuple_of : Addr
  fd_is_tuple_of : FuncData
  F_is_tuple_of : FunD K "is_tuple_of" "is_tuple_of" (defArgs (top 8)) (defBody (top 8)) (defScope (top 8)) [] [] a_is_tuple_of fd_is_tuple_of
  g_is_tuple_of : mg "is_tuple_of" = some (.ref a_is_tuple_of)
  a_is_rising : Addr
  fd_is_rising : FuncData
  F_is_rising : FunD K "is_rising" "is_rising" (defArgs (top 9)) (defBody (top 9)) (defScope (top 9)) [] [] a_is_rising fd_is_rising
  g_is_rising : mg "is_rising" = some (.ref a_is_rising)
  a_are_unlike : Addr
  fd_are_unlike : FuncData
  F_are_unlike : FunD K "are_unlike" "are_unlike" (defArgs (top 10)) (defBody (top 10)) (defScope (top 10)) [] [] a_are_unlike fd_are_unlike
  g_are_unlike : mg "are_unlike" = some (.ref a_are_unlike)
  a_is_ask : Addr
  fd_is_ask : FuncData
  F_is_ask : FunD K "is_ask" "is_ask" (defArgs (top 16)) (defBody (top 16)) (defScope (top 16)) [] [] a_is_ask fd_is_ask
  g_is_ask : mg "is_ask" = some (.ref a_is_ask)
  a_are_asks : Addr
  fd_are_asks : FuncData
  F_are_asks : FunD K "are_asks" "are_asks" (defArgs (top 17)) (defBody (top 17)) (defScope (top 17)) [] [] a_are_asks fd_are_asks
  g_are_asks : mg "are_asks" = some (.ref a_are_asks)
  a_check_asked : Addr
  fd_check_asked : FuncData
  F_check_asked : FunD K "check_asked" "check_asked" (defArgs (top 18)) (defBody (top 18)) (defScope (top 18)) [] [] a_check_asked fd_check_asked
  g_check_asked : mg "check_asked" = some (.ref a_check_asked)
  a_answered : Addr
  fd_answered : FuncData
  F_answered : FunD K "answered" "answered" (defArgs (top 19)) (defBody (top 19)) (defScope (top 19)) [] [] a_answered fd_answered
  g_answered : mg "answered" = some (.ref a_answered)
  a_by_marks : Addr
  fd_by_marks : FuncData
  F_by_marks : FunD K "by_marks" "by_marks" (defArgs (top 20)) (defBody (top 20)) (defScope (top 20)) [] [] a_by_marks fd_by_marks
  g_by_marks : mg "by_marks" = some (.ref a_by_marks)
  a_by_token : Addr
  fd_by_token : FuncData
  F_by_token : FunD K "by_token" "by_token" (defArgs (top 21)) (defBody (top 21)) (defScope (top 21)) [] [] a_by_token fd_by_token
  g_by_token : mg "by_token" = some (.ref a_by_token)
  a_by_leader : Addr
  fd_by_leader : FuncData
  F_by_leader : FunD K "by_leader" "by_leader" (defArgs (top 22)) (defBody (top 22)) (defScope (top 22)) [] [] a_by_leader fd_by_leader
  g_by_leader : mg "by_leader" = some (.ref a_by_leader)
  a__law_cell : Addr
  fd__law_cell : FuncData
  F__law_cell : FunD K "_law_cell" "_law_cell" (defArgs (top 24)) (defBody (top 24)) (defScope (top 24)) [] [] a__law_cell fd__law_cell
  g__law_cell : mg "_law_cell" = some (.ref a__law_cell)
  a__law_box : Addr
  fd__law_box : FuncData
  F__law_box : FunD K "_law_box" "_law_box" (defArgs (top 25)) (defBody (top 25)) (defScope (top 25)) [] [] a__law_box fd__law_box
  g__law_box : mg "_law_box" = some (.ref a__law_box)
  a__law_take : Addr
  fd__law_take : FuncData
  F__law_take : FunD K "_law_take" "_law_take" (defArgs (top 26)) (defBody (top 26)) (defScope (top 26)) [] [] a__law_take fd__law_take
  g__law_take : mg "_law_take" = some (.ref a__law_take)
  a__law_same : Addr
  fd__law_same : FuncData
  F__law_same : FunD K "_law_same" "_law_same" (defArgs (top 27)) (defBody (top 27)) (defScope (top 27)) [] [] a__law_same fd__law_same
  g__law_same : mg "_law_same" = some (.ref a__law_same)
  a__law_mixed : Addr
  fd__law_mixed : FuncData
  F__law_mixed : FunD K "_law_mixed" "_law_mixed" (defArgs (top 28)) (defBody (top 28)) (defScope (top 28)) [] [] a__law_mixed fd__law_mixed
  g__law_mixed : mg "_law_mixed" = some (.ref a__law_mixed)
  a__law_asks : Addr
  fd__law_asks : FuncData
  F__law_asks : FunD K "_law_asks" "_law_asks" (defArgs (top 29)) (defBody (top 29)) (defScope (top 29)) [] [] a__law_asks fd__law_asks
  g__law_asks : mg "_law_asks" = some (.ref a__law_asks)
  a__law_marks : Addr
  fd__law_marks : FuncData
  F__law_marks : FunD K "_law_marks" "_law_marks" (defArgs (top 30)) (defBody (top 30)) (defScope (top 30)) [] [] a__law_marks fd__law_marks
  g__law_marks : mg "_law_marks" = some (.ref a__law_marks)
  a__law_token : Addr
  fd__law_token : FuncData
  F__law_token : FunD K "_law_token" "_law_token" (defArgs (top 31)) (defBody (top 31)) (defScope (top 31)) [] [] a__law_token fd__law_token
  g__law_token : mg "_law_token" = some (.ref a__law_token)
  a__law_leader : Addr
  fd__law_leader : FuncData
  F__law_leader : FunD K "_law_leader" "_law_leader" (defArgs (top 32)) (defBody (top 32)) (defScope (top 32)) [] [] a__law_leader fd__law_leader
  g__law_leader : mg "_law_leader" = some (.ref a__law_leader)
  a__law_all : Addr
  fd__law_all : FuncData
  F__law_all : FunD K "_law_all" "_law_all" (defArgs (top 33)) (defBody (top 33)) (defScope (top 33)) [] [] a__law_all fd__law_all
  g__law_all : mg "_law_all" = some (.ref a__law_all)
  a__law_is_fair : Addr
  fd__law_is_fair : FuncData
  F__law_is_fair : FunD K "_law_is_fair" "_law_is_fair" (defArgs (top 34)) (defBody (top 34)) (defScope (top 34)) [] [] a__law_is_fair fd__law_is_fair
  g__law_is_fair : mg "_law_is_fair" = some (.ref a__law_is_fair)
  a__law_moved : Addr
  fd__law_moved : FuncData
  F__law_moved : FunD K "_law_moved" "_law_moved" (defArgs (top 35)) (defBody (top 35)) (defScope (top 35)) [] [] a__law_moved fd__law_moved
  g__law_moved : mg "_law_moved" = some (.ref a__law_moved)
  a__law_asks_right : Addr
  fd__law_asks_right : FuncData
  F__law_asks_right : FunD K "_law_asks_right" "_law_asks_right" (defArgs (top 36)) (defBody (top 36)) (defScope (top 36)) [] [] a__law_asks_right fd__law_asks_right
  g__law_asks_right : mg "_law_asks_right" = some (.ref a__law_asks_right)
  a__law_far_right : Addr
  fd__law_far_right : FuncData
  F__law_far_right : FunD K "_law_far_right" "_law_far_right" (defArgs (top 37)) (defBody (top 37)) (defScope (top 37)) [] [] a__law_far_right fd__law_far_right
  g__law_far_right : mg "_law_far_right" = some (.ref a__law_far_right)
  a_law : Addr
  fd_law : FuncData
  F_law : FunD K "law" "law" (defArgs (top 38)) (defBody (top 38)) (defScope (top 38)) [] [] a_law fd_law
  g_law : mg "law" = some (.ref a_law)
  b_abs : mg "abs" = none
  b_all : mg "all" = none
  b_bool : mg "bool" = none
  b_dict : mg "dict" = none
  b_int : mg "int" = none
  b_isinstance : mg "isinstance" = none
  b_len : mg "len" = none
  b_list : mg "list" = none
  b_max : mg "max" = none
  b_min : mg "min" = none
  b_range : mg "range" = none
  b_set : mg "set" = none
  b_sorted : mg "sorted" = none
  b_str : mg "str" = none
  b_sum : mg "sum" = none
  b_tuple : mg "tuple" = none
  b_zip : mg "zip" = none
  c_MOST_TIME : ∃ t, mg "MOST_TIME" = some (.int 20 t)
  c_MOST_DELAY : ∃ t, mg "MOST_DELAY" = some (.int 5 t)
  c_MOST_MACHINES : ∃ t, mg "MOST_MACHINES" = some (.int 5 t)
  c_STAY : ∃ t, mg "STAY" = some (.int 2 t)
section
variable {P : Program} {w : World} {K : PySem.W.Frag} {mg : Str → Option Value} {base : Heap}
theorem ok_is_integer (G : G K mg) : FnOk P w K mg base (L2.CX P w) 1 G.a_is_integer G.fd_is_integer ["value"] (spOf K mg 1 p_is_integer) := by
  refine fn_ok (k := 0) (n := 1) (np := 1) (m := b_is_integer) G.F_is_integer sc_is_integer rfl rfl ?_
  refine fun cdv A outer s H E hr => fun tk po => ?_
  have hu0 : (A.deeper (envOfC "is_integer" (defScope (top 6)) s.heap.objs.size G.a_is_integer cdv)).units < cLine := by have := hr.un; omega
  have hu1 : (A.deeper (envOfC "is_integer" (defScope (top 6)) s.heap.objs.size G.a_is_integer cdv)).units + 1 < cLine := by have := hr.un; omega
  have hu64 : (A.deeper (envOfC "is_integer" (defScope (top 6)) s.heap.objs.size G.a_is_integer cdv)).units + 64 < cLine := by have := hr.un; omega
  have hu65 : (A.deeper (envOfC "is_integer" (defScope (top 6)) s.heap.objs.size G.a_is_integer cdv)).units + 65 < cLine := by have := hr.un; omega
  unfold b_is_integer
  exact ss_one (st_ret (ev_and (ev_isi .int G.b_isinstance G.b_int rfl (bv_var 0)) (ev_one (ev_not (ev_isi .bool G.b_isinstance G.b_bool rfl (bv_var 0))))))
theorem ok_is_between (G : G K mg) : FnOk P w K mg base (L2.CX P w) 2 G.a_is_between G.fd_is_between ["value", "least", "most"] (spOf K mg 3 p_is_between) := by
  refine fn_ok (k := 1) (n := 3) (np := 3) (m := b_is_between) G.F_is_between sc_is_between rfl rfl ?_
  refine fun cdv A outer s H E hr => fun tk po => ?_
  have hu0 : (A.deeper (envOfC "is_between" (defScope (top 7)) s.heap.objs.size G.a_is_between cdv)).units < cLine := by have := hr.un; omega
  have hu1 : (A.deeper (envOfC "is_between" (defScope (top 7)) s.heap.objs.size G.a_is_between cdv)).units + 1 < cLine := by have := hr.un; omega
  have hu64 : (A.deeper (envOfC "is_between" (defScope (top 7)) s.heap.objs.size G.a_is_between cdv)).units + 64 < cLine := by have := hr.un; omega
  have hu65 : (A.deeper (envOfC "is_between" (defScope (top 7)) s.heap.objs.size G.a_is_between cdv)).units + 65 < cLine := by have := hr.un; omega
  unfold b_is_between
  exact ss_one (st_ret (ev_and (ev_call (ok_is_integer G) p_is_integer_len (hr.mono (by decide)) G.g_is_integer G.F_is_integer.kp (G.F_is_integer.bindsN fun _ _ _ _ _ _ us hl => match us, hl with | [_], _ => rfl) (by first | exact tk | exact L2.takes0) (av_cons (ev_var 0) av_nil)) (ev_one (ev_chain op_le op_le opB_le opB_le (bv_var 1) (bv_var 0) (bv_var 2)))))
theorem ok_is_tuple_of (G : G K mg) : FnOk P w K mg base (L2.CX P w) 1 G.a_is_tuple_of G.fd_is_tuple_of ["value", "many"] (spOf K mg 2 p_is_tuple_of) := by
  refine fn_ok (k := 0) (n := 2) (np := 2) (m := b_is_tuple_of) G.F_is_tuple_of sc_is_tuple_of rfl rfl ?_
  refine fun cdv A outer s H E hr => fun tk po => ?_
  have hu0 : (A.deeper (envOfC "is_tuple_of" (defScope (top 8)) s.heap.objs.size G.a_is_tuple_of cdv)).units < cLine := by have := hr.un; omega
  have hu1 : (A.deeper (envOfC "is_tuple_of" (defScope (top 8)) s.heap.objs.size G.a_is_tuple_of cdv)).units + 1 < cLine := by have := hr.un; omega
  have hu64 : (A.deeper (envOfC "is_tuple_of" (defScope (top 8)) s.heap.objs.size G.a_is_tuple_of cdv)).units + 64 < cLine := by have := hr.un; omega
  have hu65 : (A.deeper (envOfC "is_tuple_of" (defScope (top 8)) s.heap.objs.size G.a_is_tuple_of cdv)).units + 65 < cLine := by have := hr.un; omega
  unfold b_is_tuple_of
  exact ss_one (st_ret (ev_and (ev_isi .tuple G.b_isinstance G.b_tuple rfl (bv_var 0)) (ev_one (ev_cmp (op_eqD hu64) (OpB.s opB_eq) (PEv.b (ev_b1 call_lenA c1_len G.b_len rfl (bv_var 0))) (bv_var 1) (by first | rfl | exact nomark _)))))
theorem ok_is_rising (G : G K mg) : FnOk P w K mg base (L2.CX P w) 1 G.a_is_rising G.fd_is_rising ["items"] (spOf K mg 1 p_is_rising) := by
  refine fn_ok (k := 0) (n := 3) (np := 1) (m := b_is_rising) G.F_is_rising sc_is_rising rfl rfl ?_
  refine fun cdv A outer s H E hr => fun tk po => ?_
  have hu0 : (A.deeper (envOfC "is_rising" (defScope (top 9)) s.heap.objs.size G.a_is_rising cdv)).units < cLine := by have := hr.un; omega
  have hu1 : (A.deeper (envOfC "is_rising" (defScope (top 9)) s.heap.objs.size G.a_is_rising cdv)).units + 1 < cLine := by have := hr.un; omega
  have hu64 : (A.deeper (envOfC "is_rising" (defScope (top 9)) s.heap.objs.size G.a_is_rising cdv)).units + 64 < cLine := by have := hr.un; omega
  have hu65 : (A.deeper (envOfC "is_rising" (defScope (top 9)) s.heap.objs.size G.a_is_rising cdv)).units + 65 < cLine := by have := hr.un; omega
  unfold b_is_rising
  exact ss_one (st_ret (ev_b1 (cr_all rfl) c1_all G.b_all rfl (PEv.b (PFr.frz (fr_lc (own := [("one", 1), ("other", 2)]) rfl sc_is_rising.nd (it_zipr rfl G.b_zip (av_cons (ev_var 0) (av_cons (ev_slice (bv_var 0) (ov_some (ev_int)) (ov_none)) av_nil))) (blkOk_by (by kernel_rfl)) (fun _ _ _ _ _ => tg_tup rfl (tgs_cons (tg_name 1 sc_is_rising.nd rfl (by first | exact .inl rfl | exact .inr rfl)) (tgs_cons (tg_name 2 sc_is_rising.nd rfl (by first | exact .inl rfl | exact .inr rfl)) tgs_nil))) (fun _ _ _ _ _ => ts_nil) (fun _ _ _ _ _ => ev_cmp (op_ltA hu0) (OpB.s opB_lt) (bv_var 1) (bv_var 2) (by first | rfl | exact nomark _)) (by decide))))))
theorem ok_are_unlike (G : G K mg) : FnOk P w K mg base (L2.CX P w) 1 G.a_are_unlike G.fd_are_unlike ["items"] (spOf K mg 1 p_are_unlike) := by
  refine fn_ok (k := 0) (n := 1) (np := 1) (m := b_are_unlike) G.F_are_unlike sc_are_unlike rfl rfl ?_
  refine fun cdv A outer s H E hr => fun tk po => ?_
  have hu0 : (A.deeper (envOfC "are_unlike" (defScope (top 10)) s.heap.objs.size G.a_are_unlike cdv)).units < cLine := by have := hr.un; omega
  have hu1 : (A.deeper (envOfC "are_unlike" (defScope (top 10)) s.heap.objs.size G.a_are_unlike cdv)).units + 1 < cLine := by have := hr.un; omega
  have hu64 : (A.deeper (envOfC "are_unlike" (defScope (top 10)) s.heap.objs.size G.a_are_unlike cdv)).units + 64 < cLine := by have := hr.un; omega
  have hu65 : (A.deeper (envOfC "are_unlike" (defScope (top 10)) s.heap.objs.size G.a_are_unlike cdv)).units + 65 < cLine := by have := hr.un; omega
  unfold b_are_unlike
  exact ss_one (st_ret (ev_cmp (op_eqD hu64) (OpB.s opB_eq) (PEv.b (ev_lenSet G.b_len G.b_set (bv_var 0))) (PEv.b (ev_b1 call_lenA c1_len G.b_len rfl (bv_var 0))) (by first | rfl | exact nomark _)))
theorem ok_is_ask (G : G K mg) : FnOk P w K mg base (L2.CX P w) 3 G.a_is_ask G.fd_is_ask ["value"] (spOf K mg 1 p_is_ask) := by
  refine fn_ok (k := 2) (n := 1) (np := 1) (m := b_is_ask) G.F_is_ask sc_is_ask rfl rfl ?_
  refine fun cdv A outer s H E hr => fun tk po => ?_
  have hu0 : (A.deeper (envOfC "is_ask" (defScope (top 16)) s.heap.objs.size G.a_is_ask cdv)).units < cLine := by have := hr.un; omega
  have hu1 : (A.deeper (envOfC "is_ask" (defScope (top 16)) s.heap.objs.size G.a_is_ask cdv)).units + 1 < cLine := by have := hr.un; omega
  have hu64 : (A.deeper (envOfC "is_ask" (defScope (top 16)) s.heap.objs.size G.a_is_ask cdv)).units + 64 < cLine := by have := hr.un; omega
  have hu65 : (A.deeper (envOfC "is_ask" (defScope (top 16)) s.heap.objs.size G.a_is_ask cdv)).units + 65 < cLine := by have := hr.un; omega
  unfold b_is_ask
  exact ss_cons (st_if (PWv.t (wv_or (tv_not (tv_val (ev_call (ok_is_tuple_of G) p_is_tuple_of_len (hr.mono (by decide)) G.g_is_tuple_of G.F_is_tuple_of.kp (G.F_is_tuple_of.bindsN fun _ _ _ _ _ _ us hl => match us, hl with | [_, _], _ => rfl) (by first | exact tk | exact L2.takes0) (av_cons (ev_var 0) (av_cons (ev_int) av_nil))))) (wv_or1 (tv_not (tv_val (ev_call (ok_is_between G) p_is_between_len (hr.mono (by decide)) G.g_is_between G.F_is_between.kp (G.F_is_between.bindsN fun _ _ _ _ _ _ us hl => match us, hl with | [_, _, _], _ => rfl) (by first | exact tk | exact L2.takes0) (av_cons (ev_ix hu65 (bv_var 0) (PEv.b (ev_int))) (av_cons (ev_int) (av_cons (ev_gint G.c_MOST_TIME) av_nil))))))))) (ss_one (st_ret (ev_bl))) (ss_nil)) (ss_one (st_ret (ev_call (ok_is_between G) p_is_between_len (hr.mono (by decide)) G.g_is_between G.F_is_between.kp (G.F_is_between.bindsN fun _ _ _ _ _ _ us hl => match us, hl with | [_, _, _], _ => rfl) (by first | exact tk | exact L2.takes0) (av_cons (ev_ix hu65 (bv_var 0) (PEv.b (ev_int))) (av_cons (ev_int) (av_cons (ev_bin op_subA opS_sub (PEv.b (ev_gint G.c_MOST_MACHINES)) (PEv.b (ev_int))) av_nil))))))
theorem ok_are_asks (G : G K mg) : FnOk P w K mg base (L2.CX P w) 4 G.a_are_asks G.fd_are_asks ["value"] (spOf K mg 1 p_are_asks) := by
  refine fn_ok (k := 3) (n := 4) (np := 1) (m := b_are_asks) G.F_are_asks sc_are_asks rfl rfl ?_
  refine fun cdv A outer s H E hr => fun tk po => ?_
  have hu0 : (A.deeper (envOfC "are_asks" (defScope (top 17)) s.heap.objs.size G.a_are_asks cdv)).units < cLine := by have := hr.un; omega
  have hu1 : (A.deeper (envOfC "are_asks" (defScope (top 17)) s.heap.objs.size G.a_are_asks cdv)).units + 1 < cLine := by have := hr.un; omega
  have hu64 : (A.deeper (envOfC "are_asks" (defScope (top 17)) s.heap.objs.size G.a_are_asks cdv)).units + 64 < cLine := by have := hr.un; omega
  have hu65 : (A.deeper (envOfC "are_asks" (defScope (top 17)) s.heap.objs.size G.a_are_asks cdv)).units + 65 < cLine := by have := hr.un; omega
  unfold b_are_asks
  exact ss_cons (st_if (PWv.t (wv_or (tv_not (tv_val (ev_isi .tuple G.b_isinstance G.b_tuple rfl (bv_var 0)))) (wv_or (tv_not (tv_chain op_le op_le opB_le opB_le (PEv.b (ev_int)) (PEv.b (ev_b1 call_lenA c1_len G.b_len rfl (bv_var 0))) (PEv.b (ev_gint G.c_MOST_MACHINES)))) (wv_or1 (tv_not (tv_val (ev_b1 (cr_all rfl) c1_all G.b_all rfl (PEv.b (PFr.frz (fr_lc (own := [("ask", 3)]) rfl sc_are_asks.nd (it_seq (ev_var 0)) (blkOk_by (by kernel_rfl)) (fun _ _ _ _ _ => tg_name 3 sc_are_asks.nd rfl (by first | exact .inl rfl | exact .inr rfl)) (fun _ _ _ _ _ => ts_nil) (fun _ _ _ _ _ => ev_call (ok_is_ask G) p_is_ask_len (hr.mono (by decide)) G.g_is_ask G.F_is_ask.kp (G.F_is_ask.bindsN fun _ _ _ _ _ _ us hl => match us, hl with | [_], _ => rfl) (by first | exact tk | exact L2.takes0) (av_cons (ev_var 3) av_nil)) (by decide))))))))))) (ss_one (st_ret (ev_bl))) (ss_nil)) (ss_one (st_ret (ev_and (ev_call (ok_is_rising G) p_is_rising_len (hr.mono (by decide)) G.g_is_rising G.F_is_rising.kp (G.F_is_rising.bindsN fun _ _ _ _ _ _ us hl => match us, hl with | [_], _ => rfl) (by first | exact tk | exact L2.takes0) (av_cons (ev_var 0) av_nil)) (ev_one (ev_call (ok_are_unlike G) p_are_unlike_len (hr.mono (by decide)) G.g_are_unlike G.F_are_unlike.kp (G.F_are_unlike.bindsN fun _ _ _ _ _ _ us hl => match us, hl with | [_], _ => rfl) (by first | exact tk | exact L2.takes0) (av_cons (PFr.frz (fr_lc (own := [("time", 1), ("machine", 2)]) rfl sc_are_asks.nd (it_seq (ev_var 0)) (blkOk_by (by kernel_rfl)) (fun _ _ _ _ _ => tg_tup rfl (tgs_cons (tg_name 1 sc_are_asks.nd rfl (by first | exact .inl rfl | exact .inr rfl)) (tgs_cons (tg_name 2 sc_are_asks.nd rfl (by first | exact .inl rfl | exact .inr rfl)) tgs_nil))) (fun _ _ _ _ _ => ts_nil) (fun _ _ _ _ _ => ev_var 2) (by decide))) av_nil))))))
theorem ok_check_asked (G : G K mg) : FnOk P w K mg base (L2.CX P w) 5 G.a_check_asked G.fd_check_asked ["asks", "delay", "machines"] (spOf K mg 3 p_check_asked) := by
  refine fn_ok (k := 4) (n := 5) (np := 3) (m := b_check_asked) G.F_check_asked sc_check_asked rfl rfl ?_
  refine fun cdv A outer s H E hr => fun tk po => ?_
  have hu0 : (A.deeper (envOfC "check_asked" (defScope (top 18)) s.heap.objs.size G.a_check_asked cdv)).units < cLine := by have := hr.un; omega
  have hu1 : (A.deeper (envOfC "check_asked" (defScope (top 18)) s.heap.objs.size G.a_check_asked cdv)).units + 1 < cLine := by have := hr.un; omega
  have hu64 : (A.deeper (envOfC "check_asked" (defScope (top 18)) s.heap.objs.size G.a_check_asked cdv)).units + 64 < cLine := by have := hr.un; omega
  have hu65 : (A.deeper (envOfC "check_asked" (defScope (top 18)) s.heap.objs.size G.a_check_asked cdv)).units + 65 < cLine := by have := hr.un; omega
  unfold b_check_asked
  exact ss_cons (st_if (tv_not (tv_val (ev_call (ok_are_asks G) p_are_asks_len (hr.mono (by decide)) G.g_are_asks G.F_are_asks.kp (G.F_are_asks.bindsN fun _ _ _ _ _ _ us hl => match us, hl with | [_], _ => rfl) (by first | exact tk | exact L2.takes0) (av_cons (ev_var 0) av_nil)))) (ss_one (st_never)) (ss_nil)) (ss_cons (st_if (tv_not (tv_val (ev_call (ok_is_between G) p_is_between_len (hr.mono (by decide)) G.g_is_between G.F_is_between.kp (G.F_is_between.bindsN fun _ _ _ _ _ _ us hl => match us, hl with | [_, _, _], _ => rfl) (by first | exact tk | exact L2.takes0) (av_cons (ev_var 1) (av_cons (ev_int) (av_cons (ev_gint G.c_MOST_DELAY) av_nil)))))) (ss_one (st_never)) (ss_nil)) (ss_one (st_if (tv_not (tv_val (ev_call (ok_is_between G) p_is_between_len (hr.mono (by decide)) G.g_is_between G.F_is_between.kp (G.F_is_between.bindsN fun _ _ _ _ _ _ us hl => match us, hl with | [_, _, _], _ => rfl) (by first | exact tk | exact L2.takes0) (av_cons (ev_var 2) (av_cons (ev_b1 (cr_max rfl) c1_max G.b_max rfl (PEv.b (ev_bin op_addA opS_add (PEv.b (PFr.frz (fr_lst (av_cons (ev_int) av_nil)))) (PEv.b (PFr.frz (fr_lc (own := [("time", 3), ("machine", 4)]) rfl sc_check_asked.nd (it_seq (ev_var 0)) (blkOk_by (by kernel_rfl)) (fun _ _ _ _ _ => tg_tup rfl (tgs_cons (tg_name 3 sc_check_asked.nd rfl (by first | exact .inl rfl | exact .inr rfl)) (tgs_cons (tg_name 4 sc_check_asked.nd rfl (by first | exact .inl rfl | exact .inr rfl)) tgs_nil))) (fun _ _ _ _ _ => ts_nil) (fun _ _ _ _ _ => ev_bin op_addA opS_add (bv_var 4) (PEv.b (ev_int))) (by decide))))))) (av_cons (ev_gint G.c_MOST_MACHINES) av_nil)))))) (ss_one (st_never)) (ss_nil))))
theorem ok_answered (G : G K mg) : FnOk P w K mg base (L2.CX P w) 1 G.a_answered G.fd_answered ["ask", "other", "delay", "leaving"] (spOf K mg 4 p_answered) := by
  refine fn_ok (k := 0) (n := 5) (np := 4) (m := b_answered) G.F_answered sc_answered rfl rfl ?_
  refine fun cdv A outer s H E hr => fun tk po => ?_
  have hu0 : (A.deeper (envOfC "answered" (defScope (top 19)) s.heap.objs.size G.a_answered cdv)).units < cLine := by have := hr.un; omega
  have hu1 : (A.deeper (envOfC "answered" (defScope (top 19)) s.heap.objs.size G.a_answered cdv)).units + 1 < cLine := by have := hr.un; omega
  have hu64 : (A.deeper (envOfC "answered" (defScope (top 19)) s.heap.objs.size G.a_answered cdv)).units + 64 < cLine := by have := hr.un; omega
  have hu65 : (A.deeper (envOfC "answered" (defScope (top 19)) s.heap.objs.size G.a_answered cdv)).units + 65 < cLine := by have := hr.un; omega
  unfold b_answered
  exact ss_cons (st_asg (ev_bin op_addA opS_add (PEv.b (ev_ix hu65 (bv_var 0) (PEv.b (ev_int)))) (bv_var 2)) (tg_name 4 sc_answered.nd rfl (by first | exact .inl rfl | exact .inr rfl))) (ss_one (st_ret (ev_bin op_addA opS_add (PEv.b (ev_b1 (cr_max rfl) c1_max G.b_max rfl (PEv.b (PFr.frz (fr_lst (av_cons (ev_var 4) (av_cons (ev_get2 hu1 (ev_var 3) (ev_var 1) (ev_int) ⟨rfl, rfl, rfl, rfl⟩) av_nil))))))) (bv_var 2))))
theorem ok_by_marks (G : G K mg) : FnOk P w K mg base (L2.CX P w) 6 G.a_by_marks G.fd_by_marks ["asks", "delay", "machines"] (spOf K mg 3 p_by_marks) := by
  refine fn_ok (k := 5) (n := 10) (np := 3) (m := b_by_marks) G.F_by_marks sc_by_marks rfl rfl ?_
  refine fun cdv A outer s H E hr => fun tk po => ?_
  have hu0 : (A.deeper (envOfC "by_marks" (defScope (top 20)) s.heap.objs.size G.a_by_marks cdv)).units < cLine := by have := hr.un; omega
  have hu1 : (A.deeper (envOfC "by_marks" (defScope (top 20)) s.heap.objs.size G.a_by_marks cdv)).units + 1 < cLine := by have := hr.un; omega
  have hu64 : (A.deeper (envOfC "by_marks" (defScope (top 20)) s.heap.objs.size G.a_by_marks cdv)).units + 64 < cLine := by have := hr.un; omega
  have hu65 : (A.deeper (envOfC "by_marks" (defScope (top 20)) s.heap.objs.size G.a_by_marks cdv)).units + 65 < cLine := by have := hr.un; omega
  unfold b_by_marks l_by_marks_0
  exact ss_cons (st_expr (ev_call (ok_check_asked G) p_check_asked_len (hr.mono (by decide)) G.g_check_asked G.F_check_asked.kp (G.F_check_asked.bindsN fun _ _ _ _ _ _ us hl => match us, hl with | [_, _, _], _ => rfl) (by first | exact tk | exact L2.takes0) (av_cons (ev_var 0) (av_cons (ev_var 1) (av_cons (ev_var 2) av_nil))))) (ss_cons (st_asg (ev_tup (av_cons (PFr.cell (fr_dnew)) (av_cons (PFr.cell (fr_lst av_nil)) av_nil))) (tg_tup rfl (tgs_cons (tg_name 3 sc_by_marks.nd rfl (by first | exact .inl rfl | exact .inr rfl)) (tgs_cons (tg_name 4 sc_by_marks.nd rfl (by first | exact .inl rfl | exact .inr rfl)) tgs_nil)))) (ss_cons (st_for po rfl (it_seq (ev_var 0)) (tg_name 5 sc_by_marks.nd rfl (by first | exact .inl rfl | exact .inr rfl)) (ss_cons ((by first | exact st_setLc (own := [("machine", 7)]) rfl sc_by_marks.nd rfl rfl rfl (it_rg1 rfl G.b_range (av_cons (ev_var 2) av_nil)) (blkOk_by (by kernel_rfl)) (fun _ _ _ _ _ => tg_name 7 sc_by_marks.nd rfl (by first | exact .inl rfl | exact .inr rfl)) (fun _ _ _ _ _ => ts_one (tv_cmp (op_neD hu64) opB_ne (bv_var 7) (PEv.b (ev_ix hu65 (bv_var 5) (PEv.b (ev_int)))) (by first | rfl | exact nomark _))) (fun _ _ _ _ _ => ev_var 7) (by decide) | exact st_asg (PFr.frzL (fr_lc (own := [("machine", 7)]) rfl sc_by_marks.nd (it_rg1 rfl G.b_range (av_cons (ev_var 2) av_nil)) (blkOk_by (by kernel_rfl)) (fun _ _ _ _ _ => tg_name 7 sc_by_marks.nd rfl (by first | exact .inl rfl | exact .inr rfl)) (fun _ _ _ _ _ => ts_one (tv_cmp (op_neD hu64) opB_ne (bv_var 7) (PEv.b (ev_ix hu65 (bv_var 5) (PEv.b (ev_int)))) (by first | rfl | exact nomark _))) (fun _ _ _ _ _ => ev_var 7) (by decide))) (tg_name 6 sc_by_marks.nd rfl (by first | exact .inl rfl | exact .inr rfl)))) (ss_cons (st_expr (ev_append (ev_var 4) (ev_b1 (cr_max rfl) c1_max G.b_max rfl (PEv.b (PFr.frz (fr_lc (own := [("other", 9)]) rfl sc_by_marks.nd (it_seq (ev_var 6)) (blkOk_by (by kernel_rfl)) (fun _ _ _ _ _ => tg_name 9 sc_by_marks.nd rfl (by first | exact .inl rfl | exact .inr rfl)) (fun _ _ _ _ _ => ts_nil) (fun _ _ _ _ _ => ev_call (ok_answered G) p_answered_len (hr.mono (by decide)) G.g_answered G.F_answered.kp (G.F_answered.bindsN fun _ _ _ _ _ _ us hl => match us, hl with | [_, _, _, _], _ => rfl) (by first | exact tk | exact L2.takes0) (av_cons (ev_var 5) (av_cons (ev_var 9) (av_cons (ev_var 1) (av_cons (ev_var 3) av_nil))))) (by decide))))))) (ss_one (st_asg (ev_bin op_addA opS_add (PEv.b (ev_ix hu65 (bv_var 4) (PEv.b (ev_neg (PEv.b (ev_int)))))) (PEv.b (ev_gint G.c_STAY))) (tg_sub hu1 (ev_var 3) (ev_ix hu65 (bv_var 5) (PEv.b (ev_int))))))))) (ss_one (st_ret (ev_tup (av_cons (ev_t1 call_tuple_of c1_tuple G.b_tuple rfl (PEv.b (PFr.frz (fr_lc (own := [("time", 8), ("machine", 7)]) rfl sc_by_marks.nd (it_seq (ev_var 0)) (blkOk_by (by kernel_rfl)) (fun _ _ _ _ _ => tg_tup rfl (tgs_cons (tg_name 8 sc_by_marks.nd rfl (by first | exact .inl rfl | exact .inr rfl)) (tgs_cons (tg_name 7 sc_by_marks.nd rfl (by first | exact .inl rfl | exact .inr rfl)) tgs_nil))) (fun _ _ _ _ _ => ts_nil) (fun _ _ _ _ _ => ev_var 7) (by decide))))) (av_cons (ev_bin op_mulA opS_mul (PEv.b (ev_bin op_mulA opS_mul (PEv.b (ev_int)) (PEv.b (ev_bin op_subA opS_sub (bv_var 2) (PEv.b (ev_int)))))) (PEv.b (ev_b1 call_lenA c1_len G.b_len rfl (bv_var 0)))) (av_cons (ev_t1 call_tuple_of c1_tuple G.b_tuple rfl (bv_var 4)) av_nil))))))))
theorem ok_by_token (G : G K mg) : FnOk P w K mg base (L2.CX P w) 6 G.a_by_token G.fd_by_token ["asks", "delay", "machines", "start"] (spOf K mg 4 p_by_token) := by
  refine fn_ok (k := 5) (n := 11) (np := 4) (m := b_by_token) G.F_by_token sc_by_token rfl rfl ?_
  refine fun cdv A outer s H E hr => fun tk po => ?_
  have hu0 : (A.deeper (envOfC "by_token" (defScope (top 21)) s.heap.objs.size G.a_by_token cdv)).units < cLine := by have := hr.un; omega
  have hu1 : (A.deeper (envOfC "by_token" (defScope (top 21)) s.heap.objs.size G.a_by_token cdv)).units + 1 < cLine := by have := hr.un; omega
  have hu64 : (A.deeper (envOfC "by_token" (defScope (top 21)) s.heap.objs.size G.a_by_token cdv)).units + 64 < cLine := by have := hr.un; omega
  have hu65 : (A.deeper (envOfC "by_token" (defScope (top 21)) s.heap.objs.size G.a_by_token cdv)).units + 65 < cLine := by have := hr.un; omega
  unfold b_by_token l_by_token_0
  exact ss_cons (st_expr (ev_call (ok_check_asked G) p_check_asked_len (hr.mono (by decide)) G.g_check_asked G.F_check_asked.kp (G.F_check_asked.bindsN fun _ _ _ _ _ _ us hl => match us, hl with | [_, _, _], _ => rfl) (by first | exact tk | exact L2.takes0) (av_cons (ev_var 0) (av_cons (ev_var 1) (av_cons (ev_var 2) av_nil))))) (ss_cons (st_if (tv_not (tv_val (ev_call (ok_is_between G) p_is_between_len (hr.mono (by decide)) G.g_is_between G.F_is_between.kp (G.F_is_between.bindsN fun _ _ _ _ _ _ us hl => match us, hl with | [_, _, _], _ => rfl) (by first | exact tk | exact L2.takes0) (av_cons (ev_var 3) (av_cons (ev_int) (av_cons (ev_gint G.c_MOST_TIME) av_nil)))))) (ss_one (st_never)) (ss_nil)) (ss_cons (st_asg (ev_tup (av_cons (PFr.frz (fr_dc (own := [("when", 9), ("machine", 10)]) rfl sc_by_token.nd (it_seq (ev_var 0)) (blkOk_by (by kernel_rfl)) (fun _ _ _ _ _ => tg_tup rfl (tgs_cons (tg_name 9 sc_by_token.nd rfl (by first | exact .inl rfl | exact .inr rfl)) (tgs_cons (tg_name 10 sc_by_token.nd rfl (by first | exact .inl rfl | exact .inr rfl)) tgs_nil))) (fun _ _ _ _ _ => ts_nil) (fun _ _ _ _ _ => ev_var 10) (fun _ _ _ _ _ => ev_var 9) (by decide))) (av_cons (ev_var 3) (av_cons (ev_int) (av_cons (ev_int) (av_cons (PFr.cell (fr_lst av_nil)) av_nil)))))) (tg_tup rfl (tgs_cons (tg_name 4 sc_by_token.nd rfl (by first | exact .inl rfl | exact .inr rfl)) (tgs_cons (tg_name 5 sc_by_token.nd rfl (by first | exact .inl rfl | exact .inr rfl)) (tgs_cons (tg_name 6 sc_by_token.nd rfl (by first | exact .inl rfl | exact .inr rfl)) (tgs_cons (tg_name 7 sc_by_token.nd rfl (by first | exact .inl rfl | exact .inr rfl)) (tgs_cons (tg_name 8 sc_by_token.nd rfl (by first | exact .inl rfl | exact .inr rfl)) tgs_nil))))))) (ss_cons (st_while 1000000 po (tv_cmp (op_ltA hu0) opB_lt (PEv.b (ev_b1 call_lenA c1_len G.b_len rfl (bv_var 8))) (PEv.b (ev_b1 call_lenA c1_len G.b_len rfl (bv_var 0))) (by first | rfl | exact nomark _)) (ss_cons (st_if (PWv.t (wv_and (tv_cmp (op_inA hu65) (opB_in (neg := false)) (bv_var 6) (bv_var 4) (by first | rfl | exact nomark _)) (wv_and (tv_cmp op_le opB_le (PEv.b (ev_ix hu65 (bv_var 4) (bv_var 6))) (bv_var 5) (by first | rfl | exact nomark _)) (wv_and1 (tv_cmp (op_notInA hu65) (opB_in (neg := true)) (bv_var 6) (PEv.b (PFr.frz (fr_lc (own := [("machine", 10), ("when", 9)]) rfl sc_by_token.nd (it_seq (ev_var 8)) (blkOk_by (by kernel_rfl)) (fun _ _ _ _ _ => tg_tup rfl (tgs_cons (tg_name 10 sc_by_token.nd rfl (by first | exact .inl rfl | exact .inr rfl)) (tgs_cons (tg_name 9 sc_by_token.nd rfl (by first | exact .inl rfl | exact .inr rfl)) tgs_nil))) (fun _ _ _ _ _ => ts_nil) (fun _ _ _ _ _ => ev_var 10) (by decide)))) (by first | rfl | exact nomark _)))))) (ss_cons (st_expr (ev_append (ev_var 8) (ev_tup (av_cons (ev_var 6) (av_cons (ev_var 5) av_nil))))) (ss_one (st_aug (i := 5) sc_by_token.nd rfl (by first | exact .inl rfl | exact .inr rfl) (ev_gint G.c_STAY) ip_add))) (ss_nil)) (ss_one (st_if (tv_cmp (op_ltA hu0) opB_lt (PEv.b (ev_b1 call_lenA c1_len G.b_len rfl (bv_var 8))) (PEv.b (ev_b1 call_lenA c1_len G.b_len rfl (bv_var 0))) (by first | rfl | exact nomark _)) (ss_one (st_par3 (i := 5) (j := 6) (l := 7) rfl sc_by_token.nd rfl rfl rfl (by decide) (by decide) (by decide) rfl rfl rfl (av_cons (ev_bin op_addA opS_add (bv_var 5) (bv_var 1)) (av_cons (ev_bin op_mod opS_mod (PEv.b (ev_bin op_addA opS_add (bv_var 6) (PEv.b (ev_int)))) (bv_var 2)) (av_cons (ev_bin op_addA opS_add (bv_var 7) (PEv.b (ev_int))) av_nil))) rfl)) (ss_nil))))) (ss_one (st_ret (ev_tup (av_cons (ev_t1 call_tuple_of c1_tuple G.b_tuple rfl (PEv.b (PFr.frz (fr_lc (own := [("machine", 10), ("when", 9)]) rfl sc_by_token.nd (it_seq (ev_var 8)) (blkOk_by (by kernel_rfl)) (fun _ _ _ _ _ => tg_tup rfl (tgs_cons (tg_name 10 sc_by_token.nd rfl (by first | exact .inl rfl | exact .inr rfl)) (tgs_cons (tg_name 9 sc_by_token.nd rfl (by first | exact .inl rfl | exact .inr rfl)) tgs_nil))) (fun _ _ _ _ _ => ts_nil) (fun _ _ _ _ _ => ev_var 10) (by decide))))) (av_cons (ev_var 7) (av_cons (ev_t1 call_tuple_of c1_tuple G.b_tuple rfl (PEv.b (PFr.frz (fr_lc (own := [("machine", 10), ("when", 9)]) rfl sc_by_token.nd (it_seq (ev_var 8)) (blkOk_by (by kernel_rfl)) (fun _ _ _ _ _ => tg_tup rfl (tgs_cons (tg_name 10 sc_by_token.nd rfl (by first | exact .inl rfl | exact .inr rfl)) (tgs_cons (tg_name 9 sc_by_token.nd rfl (by first | exact .inl rfl | exact .inr rfl)) tgs_nil))) (fun _ _ _ _ _ => ts_nil) (fun _ _ _ _ _ => ev_var 9) (by decide))))) av_nil)))))))))
theorem ok_by_leader (G : G K mg) : FnOk P w K mg base (L2.CX P w) 6 G.a_by_leader G.fd_by_leader ["asks", "delay", "machines"] (spOf K mg 3 p_by_leader) := by
  refine fn_ok (k := 5) (n := 11) (np := 3) (m := b_by_leader) G.F_by_leader sc_by_leader rfl rfl ?_
  refine fun cdv A outer s H E hr => fun tk po => ?_
  have hu0 : (A.deeper (envOfC "by_leader" (defScope (top 22)) s.heap.objs.size G.a_by_leader cdv)).units < cLine := by have := hr.un; omega
  have hu1 : (A.deeper (envOfC "by_leader" (defScope (top 22)) s.heap.objs.size G.a_by_leader cdv)).units + 1 < cLine := by have := hr.un; omega
  have hu64 : (A.deeper (envOfC "by_leader" (defScope (top 22)) s.heap.objs.size G.a_by_leader cdv)).units + 64 < cLine := by have := hr.un; omega
  have hu65 : (A.deeper (envOfC "by_leader" (defScope (top 22)) s.heap.objs.size G.a_by_leader cdv)).units + 65 < cLine := by have := hr.un; omega
  unfold b_by_leader l_by_leader_0
  exact ss_cons (st_expr (ev_call (ok_check_asked G) p_check_asked_len (hr.mono (by decide)) G.g_check_asked G.F_check_asked.kp (G.F_check_asked.bindsN fun _ _ _ _ _ _ us hl => match us, hl with | [_, _, _], _ => rfl) (by first | exact tk | exact L2.takes0) (av_cons (ev_var 0) (av_cons (ev_var 1) (av_cons (ev_var 2) av_nil))))) (ss_cons (st_asg (PFr.frz (fr_b1 (cr_sortedD hu65) c1_sorted G.b_sorted rfl (PEv.b (PFr.frz (fr_lc (own := [("time", 10), ("machine", 7)]) rfl sc_by_leader.nd (it_seq (ev_var 0)) (blkOk_by (by kernel_rfl)) (fun _ _ _ _ _ => tg_tup rfl (tgs_cons (tg_name 10 sc_by_leader.nd rfl (by first | exact .inl rfl | exact .inr rfl)) (tgs_cons (tg_name 7 sc_by_leader.nd rfl (by first | exact .inl rfl | exact .inr rfl)) tgs_nil))) (fun _ _ _ _ _ => ts_nil) (fun _ _ _ _ _ => ev_tup (av_cons (ev_bin op_addA opS_add (bv_var 10) (bv_if (tv_cmp (op_neD hu64) opB_ne (bv_var 7) (PEv.b (ev_int)) (by first | rfl | exact nomark _)) (bv_var 1) (PEv.b (ev_int)))) (av_cons (ev_var 7) av_nil))) (by decide)))))) (tg_name 3 sc_by_leader.nd rfl (by first | exact .inl rfl | exact .inr rfl))) (ss_cons (st_par2 (i := 4) (j := 5) rfl sc_by_leader.nd rfl rfl (by decide) rfl rfl (av_cons (ev_int) (av_cons (PFr.cell (fr_lst av_nil)) av_nil)) rfl) (ss_cons (st_for po rfl (it_seq (ev_var 3)) (tg_tup rfl (tgs_cons (tg_name 6 sc_by_leader.nd rfl (by first | exact .inl rfl | exact .inr rfl)) (tgs_cons (tg_name 7 sc_by_leader.nd rfl (by first | exact .inl rfl | exact .inr rfl)) tgs_nil))) (ss_cons (st_asg (ev_if (tv_cmp (op_neD hu64) opB_ne (bv_var 7) (PEv.b (ev_int)) (by first | rfl | exact nomark _)) (ev_var 1) (ev_int)) (tg_name 9 sc_by_leader.nd rfl (by first | exact .inl rfl | exact .inr rfl))) (ss_cons (st_expr (ev_append (ev_var 5) (ev_bin op_addA opS_add (PEv.b (ev_b1 (cr_max rfl) c1_max G.b_max rfl (PEv.b (PFr.frz (fr_lst (av_cons (ev_var 6) (av_cons (ev_var 4) av_nil))))))) (bv_var 9)))) (ss_one (st_asg (ev_bin op_addA opS_add (PEv.b (ev_bin op_addA opS_add (PEv.b (ev_ix hu65 (bv_var 5) (PEv.b (ev_neg (PEv.b (ev_int)))))) (PEv.b (ev_gint G.c_STAY)))) (bv_var 9)) (tg_name 4 sc_by_leader.nd rfl (by first | exact .inl rfl | exact .inr rfl))))))) (ss_cons ((by first | exact st_setLc (own := [("time", 10), ("machine", 7)]) rfl sc_by_leader.nd rfl rfl rfl (it_seq (ev_var 0)) (blkOk_by (by kernel_rfl)) (fun _ _ _ _ _ => tg_tup rfl (tgs_cons (tg_name 10 sc_by_leader.nd rfl (by first | exact .inl rfl | exact .inr rfl)) (tgs_cons (tg_name 7 sc_by_leader.nd rfl (by first | exact .inl rfl | exact .inr rfl)) tgs_nil))) (fun _ _ _ _ _ => ts_one (tv_cmp (op_neD hu64) opB_ne (bv_var 7) (PEv.b (ev_int)) (by first | rfl | exact nomark _))) (fun _ _ _ _ _ => ev_var 7) (by decide) | exact st_asg (PFr.frzL (fr_lc (own := [("time", 10), ("machine", 7)]) rfl sc_by_leader.nd (it_seq (ev_var 0)) (blkOk_by (by kernel_rfl)) (fun _ _ _ _ _ => tg_tup rfl (tgs_cons (tg_name 10 sc_by_leader.nd rfl (by first | exact .inl rfl | exact .inr rfl)) (tgs_cons (tg_name 7 sc_by_leader.nd rfl (by first | exact .inl rfl | exact .inr rfl)) tgs_nil))) (fun _ _ _ _ _ => ts_one (tv_cmp (op_neD hu64) opB_ne (bv_var 7) (PEv.b (ev_int)) (by first | rfl | exact nomark _))) (fun _ _ _ _ _ => ev_var 7) (by decide))) (tg_name 8 sc_by_leader.nd rfl (by first | exact .inl rfl | exact .inr rfl)))) (ss_one (st_ret (ev_tup (av_cons (ev_t1 call_tuple_of c1_tuple G.b_tuple rfl (PEv.b (PFr.frz (fr_lc (own := [("arrival", 6), ("machine", 7)]) rfl sc_by_leader.nd (it_seq (ev_var 3)) (blkOk_by (by kernel_rfl)) (fun _ _ _ _ _ => tg_tup rfl (tgs_cons (tg_name 6 sc_by_leader.nd rfl (by first | exact .inl rfl | exact .inr rfl)) (tgs_cons (tg_name 7 sc_by_leader.nd rfl (by first | exact .inl rfl | exact .inr rfl)) tgs_nil))) (fun _ _ _ _ _ => ts_nil) (fun _ _ _ _ _ => ev_var 7) (by decide))))) (av_cons (ev_bin op_mulA opS_mul (PEv.b (ev_int)) (PEv.b (ev_b1 call_lenA c1_len G.b_len rfl (bv_var 8)))) (av_cons (ev_t1 call_tuple_of c1_tuple G.b_tuple rfl (bv_var 5)) av_nil))))))))))
theorem ok__law_cell (G : G K mg) : FnOk P w K mg base (L2.CX P w) 1 G.a__law_cell G.fd__law_cell ["script", "k"] (spOf K mg 2 p__law_cell) := by
  refine fn_ok (k := 0) (n := 2) (np := 2) (m := b__law_cell) G.F__law_cell sc__law_cell rfl rfl ?_
  refine fun cdv A outer s H E hr => fun tk po => ?_
  have hu0 : (A.deeper (envOfC "_law_cell" (defScope (top 24)) s.heap.objs.size G.a__law_cell cdv)).units < cLine := by have := hr.un; omega
  have hu1 : (A.deeper (envOfC "_law_cell" (defScope (top 24)) s.heap.objs.size G.a__law_cell cdv)).units + 1 < cLine := by have := hr.un; omega
  have hu64 : (A.deeper (envOfC "_law_cell" (defScope (top 24)) s.heap.objs.size G.a__law_cell cdv)).units + 64 < cLine := by have := hr.un; omega
  have hu65 : (A.deeper (envOfC "_law_cell" (defScope (top 24)) s.heap.objs.size G.a__law_cell cdv)).units + 65 < cLine := by have := hr.un; omega
  unfold b__law_cell
  exact ss_one (st_ret (ev_if (tv_cmp (op_ltA hu0) opB_lt (bv_var 1) (PEv.b (ev_b1 call_lenA c1_len G.b_len rfl (bv_var 0))) (by first | rfl | exact nomark _)) (ev_ix hu65 (bv_var 0) (bv_var 1)) (ev_bin op_addA opS_add (PEv.b (ev_bin op_mulA opS_mul (PEv.b (ev_int)) (bv_var 1))) (PEv.b (ev_bin op_mod opS_mod (PEv.b (ev_t1 call_int1 c1_int G.b_int rfl (PEv.b (ev_b1 (cr_sumA rfl) c1_sum G.b_sum rfl (PEv.b (ev_slice (bv_var 0) (ov_none) (ov_some (ev_int)))))))) (PEv.b (ev_int)))))))
theorem ok__law_box (G : G K mg) : FnOk P w K mg base (L2.CX P w) 1 G.a__law_box G.fd__law_box ["great"] (spOf K mg 1 p__law_box) := by
  refine fn_ok (k := 0) (n := 1) (np := 1) (m := b__law_box) G.F__law_box sc__law_box rfl rfl ?_
  refine fun cdv A outer s H E hr => fun tk po => ?_
  have hu0 : (A.deeper (envOfC "_law_box" (defScope (top 25)) s.heap.objs.size G.a__law_box cdv)).units < cLine := by have := hr.un; omega
  have hu1 : (A.deeper (envOfC "_law_box" (defScope (top 25)) s.heap.objs.size G.a__law_box cdv)).units + 1 < cLine := by have := hr.un; omega
  have hu64 : (A.deeper (envOfC "_law_box" (defScope (top 25)) s.heap.objs.size G.a__law_box cdv)).units + 64 < cLine := by have := hr.un; omega
  have hu65 : (A.deeper (envOfC "_law_box" (defScope (top 25)) s.heap.objs.size G.a__law_box cdv)).units + 65 < cLine := by have := hr.un; omega
  unfold b__law_box
  exact ss_one (st_ret (PFr.cell (fr_lst (av_cons (ev_b1 call_abs c1_abs G.b_abs rfl (bv_var 0)) (av_cons (ev_cmp op_ge (OpB.s opB_ge) (PEv.b (ev_b1 call_abs c1_abs G.b_abs rfl (bv_var 0))) (PEv.b (ev_bin op_pow opS_pow (PEv.b (ev_int)) (PEv.b (ev_int)))) (by first | rfl | exact nomark _)) (av_cons (ev_bin op_mod opS_mod (PEv.b (ev_t1 call_int1 c1_int G.b_int rfl (PEv.b (ev_b1 call_abs c1_abs G.b_abs rfl (bv_var 0))))) (PEv.b (ev_int))) (av_cons (ev_int) av_nil)))))))
theorem ok__law_take (G : G K mg) : FnOk P w K mg base (L2.CX P w) 1 G.a__law_take G.fd__law_take ["box", "many"] (spOf K mg 2 p__law_take) := by
  refine fn_ok (k := 0) (n := 4) (np := 2) (m := b__law_take) G.F__law_take sc__law_take rfl rfl ?_
  refine fun cdv A outer s H E hr => fun tk po => ?_
  have hu0 : (A.deeper (envOfC "_law_take" (defScope (top 26)) s.heap.objs.size G.a__law_take cdv)).units < cLine := by have := hr.un; omega
  have hu1 : (A.deeper (envOfC "_law_take" (defScope (top 26)) s.heap.objs.size G.a__law_take cdv)).units + 1 < cLine := by have := hr.un; omega
  have hu64 : (A.deeper (envOfC "_law_take" (defScope (top 26)) s.heap.objs.size G.a__law_take cdv)).units + 64 < cLine := by have := hr.un; omega
  have hu65 : (A.deeper (envOfC "_law_take" (defScope (top 26)) s.heap.objs.size G.a__law_take cdv)).units + 65 < cLine := by have := hr.un; omega
  unfold b__law_take
  exact ss_cons (st_if (PWv.t (wv_and (tv_val (ev_ix hu65 (bv_var 0) (PEv.b (ev_int)))) (wv_and1 (tv_cmp op_gt opB_gt (PEv.b (ev_ix hu65 (bv_var 0) (PEv.b (ev_int)))) (PEv.b (ev_int)) (by first | rfl | exact nomark _))))) (ss_cons (st_asg (ev_bin op_mod opS_mod (PEv.b (ev_t1 call_int1 c1_int G.b_int rfl (PEv.b (ev_ix hu65 (bv_var 0) (PEv.b (ev_int)))))) (bv_var 1)) (tg_name 3 sc__law_take.nd rfl (by first | exact .inl rfl | exact .inr rfl))) (ss_cons (st_asg (ev_bin op_fdivW opS_fdiv (PEv.b (ev_ix hu65 (bv_var 0) (PEv.b (ev_int)))) (bv_var 1)) (tg_sub hu1 (ev_var 0) (ev_int))) (ss_one (st_ret (ev_var 3))))) (ss_nil)) (ss_cons (st_asg (ev_bin op_addA opS_add (PEv.b (ev_ix hu65 (bv_var 0) (PEv.b (ev_int)))) (PEv.b (ev_int))) (tg_sub hu1 (ev_var 0) (ev_int))) (ss_cons (st_asg (ev_bin op_mod opS_mod (PEv.b (ev_t1 call_int1 c1_int G.b_int rfl (PEv.b (ev_bin op_pow opS_pow (PEv.b (ev_bin op_addA opS_add (PEv.b (ev_bin op_addA opS_add (PEv.b (ev_ix hu65 (bv_var 0) (PEv.b (ev_int)))) (PEv.b (ev_bin op_mulA opS_mul (PEv.b (ev_int)) (PEv.b (ev_ix hu65 (bv_var 0) (PEv.b (ev_int)))))))) (PEv.b (ev_int)))) (PEv.b (ev_int)))))) (PEv.b (ev_int))) (tg_name 2 sc__law_take.nd rfl (by first | exact .inl rfl | exact .inr rfl))) (ss_one (st_ret (ev_bin op_mod opS_mod (PEv.b (ev_t1 call_int1 c1_int G.b_int rfl (PEv.b (ev_bin op_fdivW opS_fdiv (PEv.b (ev_bin op_mod opS_mod (PEv.b (ev_t1 call_int1 c1_int G.b_int rfl (PEv.b (ev_bin op_pow opS_pow (PEv.b (ev_bin op_addA opS_add (PEv.b (ev_bin op_mulA opS_mul (bv_var 2) (PEv.b (ev_int)))) (PEv.b (ev_bin op_mulA opS_mul (PEv.b (ev_int)) (PEv.b (ev_ix hu65 (bv_var 0) (PEv.b (ev_int)))))))) (PEv.b (ev_int)))))) (PEv.b (ev_int)))) (PEv.b (ev_int)))))) (bv_var 1))))))
theorem ok__law_same (G : G K mg) : ∀ n, FnOk P w K mg base (L2.CX P w) (0 + n) G.a__law_same G.fd__law_same ["told", "due"] (spOf K mg 2 (p__law_same n))
  | 0 => ⟨fun vs H Q E h => spOf_len h, fun A outer s H args us vs Q E hr he hb hv hs => by
    obtain ⟨Z, S, ds, _, _, _, _, _, hw⟩ := hs
    exact hw.elim⟩
  | n + 1 => by
    have ih := ok__law_same G n
    refine fn_ok G.F__law_same sc__law_same rfl rfl (fun cdv A outer s H E hr => fun tk po => ?_)
    have hu0 : (A.deeper (envOfC "_law_same" (defScope (top 27)) s.heap.objs.size G.a__law_same cdv)).units < cLine := by have := hr.un; omega
    have hu1 : (A.deeper (envOfC "_law_same" (defScope (top 27)) s.heap.objs.size G.a__law_same cdv)).units + 1 < cLine := by have := hr.un; omega
    have hu64 : (A.deeper (envOfC "_law_same" (defScope (top 27)) s.heap.objs.size G.a__law_same cdv)).units + 64 < cLine := by have := hr.un; omega
    have hu65 : (A.deeper (envOfC "_law_same" (defScope (top 27)) s.heap.objs.size G.a__law_same cdv)).units + 65 < cLine := by have := hr.un; omega
    exact ss_cons (st_if (PWv.t (wv_or (tv_cmp op_isA (opB_is (neg := false)) (bv_var 1) (PEv.b (ev_non)) (by first | rfl | exact nomark _)) (wv_or1 (tv_val (ev_isi .bool G.b_isinstance G.b_bool rfl (bv_var 1)))))) (ss_one (st_ret (ev_if (tv_cmp op_isA (opB_is (neg := false)) (bv_var 1) (PEv.b (ev_non)) (by first | rfl | exact nomark _)) (ev_cmp op_isA (OpB.s (opB_is (neg := false))) (bv_var 0) (PEv.b (ev_non)) (by first | rfl | exact nomark _)) (ev_and (ev_isi .bool G.b_isinstance G.b_bool rfl (bv_var 0)) (ev_one (ev_cmp (op_eqD hu64) (OpB.s opB_eq) (PEv.b (ev_cmp op_isA (OpB.s (opB_is (neg := false))) (bv_var 0) (PEv.b (ev_bl)) (by first | rfl | exact nomark _))) (PEv.b (ev_cmp op_isA (OpB.s (opB_is (neg := false))) (bv_var 1) (PEv.b (ev_bl)) (by first | rfl | exact nomark _))) (by first | rfl | exact nomark _))))))) (ss_nil)) (ss_cons (st_if (tv_val (ev_isi .int G.b_isinstance G.b_int rfl (bv_var 1))) (ss_one (st_ret (ev_and (ev_isi .int G.b_isinstance G.b_int rfl (bv_var 0)) (ev_and (ev_not (ev_isi .bool G.b_isinstance G.b_bool rfl (bv_var 0))) (ev_one (ev_cmp (op_eqD hu64) (OpB.s opB_eq) (PEv.b (ev_bin op_subA opS_sub (PEv.b (ev_t1 call_int1 c1_int G.b_int rfl (bv_var 0))) (bv_var 1))) (PEv.b (ev_int)) (by first | rfl | exact nomark _))))))) (ss_nil)) (ss_cons (st_if (tv_val (ev_isi .str G.b_isinstance G.b_str rfl (bv_var 1))) (ss_one (st_ret (ev_and (ev_isi .str G.b_isinstance G.b_str rfl (bv_var 0)) (ev_and (ev_cmp (op_eqD hu64) (OpB.s opB_eq) (PEv.b (ev_b1 call_lenA c1_len G.b_len rfl (bv_var 0))) (PEv.b (ev_b1 call_lenA c1_len G.b_len rfl (bv_var 1))) (by first | rfl | exact nomark _)) (ev_one (ev_cmp (op_eqD hu64) (OpB.s opB_eq) (PEv.b (PFr.frz (fr_lc (own := [("k", 2)]) rfl sc__law_same.nd (it_rg1 rfl G.b_range (av_cons (ev_b1 call_lenA c1_len G.b_len rfl (bv_var 1)) av_nil)) (blkOk_by (by kernel_rfl)) (fun _ _ _ _ _ => tg_name 2 sc__law_same.nd rfl (by first | exact .inl rfl | exact .inr rfl)) (fun _ _ _ _ _ => ts_one (tv_cmp (op_neD hu64) opB_ne (PEv.b (ev_slice (bv_var 0) (ov_some (ev_var 2)) (ov_some (ev_bin op_addA opS_add (bv_var 2) (PEv.b (ev_int)))))) (PEv.b (ev_ix hu65 (bv_var 1) (bv_var 2))) (by first | rfl | exact nomark _))) (fun _ _ _ _ _ => ev_var 2) (by decide)))) (PEv.b (PFr.frz (fr_lst av_nil))) (by first | rfl | exact nomark _))))))) (ss_nil)) (ss_cons (st_if (PWv.t (wv_or (tv_cmp (op_neD hu64) opB_ne (PEv.b (ev_isi .list G.b_isinstance G.b_list rfl (bv_var 0))) (PEv.b (ev_isi .list G.b_isinstance G.b_list rfl (bv_var 1))) (by first | rfl | exact nomark _)) (wv_or1 (tv_cmp (op_neD hu64) opB_ne (PEv.b (ev_isi .tuple G.b_isinstance G.b_tuple rfl (bv_var 0))) (PEv.b (ev_isi .tuple G.b_isinstance G.b_tuple rfl (bv_var 1))) (by first | rfl | exact nomark _))))) (ss_one (st_ret (ev_bl))) (ss_nil)) (ss_one (st_ret (ev_and (ev_cmp (op_eqD hu64) (OpB.s opB_eq) (PEv.b (ev_b1 call_lenA c1_len G.b_len rfl (bv_var 0))) (PEv.b (ev_b1 call_lenA c1_len G.b_len rfl (bv_var 1))) (by first | rfl | exact nomark _)) (ev_one (ev_cmp (op_eqD hu64) (OpB.s opB_eq) (PEv.b (PFr.frz (fr_lc (own := [("k", 2)]) rfl sc__law_same.nd (it_rg1 rfl G.b_range (av_cons (ev_b1 call_lenA c1_len G.b_len rfl (bv_var 1)) av_nil)) (blkOk_by (by kernel_rfl)) (fun _ _ _ _ _ => tg_name 2 sc__law_same.nd rfl (by first | exact .inl rfl | exact .inr rfl)) (fun _ _ _ _ _ => ts_one (tv_not (tv_val (ev_call ih (p__law_same_len _) (hr.mono (Nat.le_refl _)) G.g__law_same G.F__law_same.kp (G.F__law_same.bindsN fun _ _ _ _ _ _ us hl => match us, hl with | [_, _], _ => rfl) (by first | exact tk | exact L2.takes0) (av_cons (ev_ix hu65 (bv_var 0) (bv_var 2)) (av_cons (ev_ix hu65 (bv_var 1) (bv_var 2)) av_nil)))))) (fun _ _ _ _ _ => ev_var 2) (by decide)))) (PEv.b (PFr.frz (fr_lst av_nil))) (by first | rfl | exact nomark _)))))))))
theorem ok__law_mixed (G : G K mg) : FnOk P w K mg base (L2.CX P w) 2 G.a__law_mixed G.fd__law_mixed ["box", "many"] (spOf K mg 2 p__law_mixed) := by
  refine fn_ok (k := 1) (n := 4) (np := 2) (m := b__law_mixed) G.F__law_mixed sc__law_mixed rfl rfl ?_
  refine fun cdv A outer s H E hr => fun tk po => ?_
  have hu0 : (A.deeper (envOfC "_law_mixed" (defScope (top 28)) s.heap.objs.size G.a__law_mixed cdv)).units < cLine := by have := hr.un; omega
  have hu1 : (A.deeper (envOfC "_law_mixed" (defScope (top 28)) s.heap.objs.size G.a__law_mixed cdv)).units + 1 < cLine := by have := hr.un; omega
  have hu64 : (A.deeper (envOfC "_law_mixed" (defScope (top 28)) s.heap.objs.size G.a__law_mixed cdv)).units + 64 < cLine := by have := hr.un; omega
  have hu65 : (A.deeper (envOfC "_law_mixed" (defScope (top 28)) s.heap.objs.size G.a__law_mixed cdv)).units + 65 < cLine := by have := hr.un; omega
  unfold b__law_mixed l__law_mixed_0
  exact ss_cons (st_par2 (i := 2) (j := 3) rfl sc__law_mixed.nd rfl rfl (by decide) rfl rfl (av_cons (PFr.cell (fr_listRg1 rfl G.b_list G.b_range (bv_var 1))) (av_cons (PFr.cell (fr_lst av_nil)) av_nil)) rfl) (ss_cons (st_while 1000000 po (tv_cmp (op_neD hu64) opB_ne (bv_var 2) (PEv.b (PFr.frz (fr_lst av_nil))) (by first | rfl | exact nomark _)) (ss_one (st_expr (ev_append (ev_var 3) (ev_popAt (ev_var 2) (ev_call (ok__law_take G) p__law_take_len (hr.mono (by decide)) G.g__law_take G.F__law_take.kp (G.F__law_take.bindsN fun _ _ _ _ _ _ us hl => match us, hl with | [_, _], _ => rfl) (by first | exact tk | exact L2.takes0) (av_cons (ev_var 0) (av_cons (ev_b1 call_lenA c1_len G.b_len rfl (bv_var 2)) av_nil)))))))) (ss_one (st_ret (ev_var 3))))
theorem ok__law_asks (G : G K mg) : FnOk P w K mg base (L2.CX P w) 3 G.a__law_asks G.fd__law_asks ["box", "machines"] (spOf K mg 2 p__law_asks) := by
  refine fn_ok (k := 2) (n := 6) (np := 2) (m := b__law_asks) G.F__law_asks sc__law_asks rfl rfl ?_
  refine fun cdv A outer s H E hr => fun tk po => ?_
  have hu0 : (A.deeper (envOfC "_law_asks" (defScope (top 29)) s.heap.objs.size G.a__law_asks cdv)).units < cLine := by have := hr.un; omega
  have hu1 : (A.deeper (envOfC "_law_asks" (defScope (top 29)) s.heap.objs.size G.a__law_asks cdv)).units + 1 < cLine := by have := hr.un; omega
  have hu64 : (A.deeper (envOfC "_law_asks" (defScope (top 29)) s.heap.objs.size G.a__law_asks cdv)).units + 64 < cLine := by have := hr.un; omega
  have hu65 : (A.deeper (envOfC "_law_asks" (defScope (top 29)) s.heap.objs.size G.a__law_asks cdv)).units + 65 < cLine := by have := hr.un; omega
  unfold b__law_asks l__law_asks_0
  exact ss_cons (st_par3 (i := 2) (j := 3) (l := 4) rfl sc__law_asks.nd rfl rfl rfl (by decide) (by decide) (by decide) rfl rfl rfl (av_cons (ev_call (ok__law_take G) p__law_take_len (hr.mono (by decide)) G.g__law_take G.F__law_take.kp (G.F__law_take.bindsN fun _ _ _ _ _ _ us hl => match us, hl with | [_, _], _ => rfl) (by first | exact tk | exact L2.takes0) (av_cons (ev_var 0) (av_cons (ev_int) av_nil))) (av_cons (PFr.cell (fr_lst av_nil)) (av_cons (ev_call (ok__law_take G) p__law_take_len (hr.mono (by decide)) G.g__law_take G.F__law_take.kp (G.F__law_take.bindsN fun _ _ _ _ _ _ us hl => match us, hl with | [_, _], _ => rfl) (by first | exact tk | exact L2.takes0) (av_cons (ev_var 0) (av_cons (ev_int) av_nil))) av_nil))) rfl) (ss_cons (st_for po rfl (it_seq (ev_slice (PEv.b (ev_call (ok__law_mixed G) p__law_mixed_len (hr.mono (by decide)) G.g__law_mixed G.F__law_mixed.kp (G.F__law_mixed.bindsN fun _ _ _ _ _ _ us hl => match us, hl with | [_, _], _ => rfl) (by first | exact tk | exact L2.takes0) (av_cons (ev_var 0) (av_cons (ev_var 1) av_nil)))) (ov_none) (ov_some (ev_bin op_addA opS_add (PEv.b (ev_int)) (PEv.b (ev_call (ok__law_take G) p__law_take_len (hr.mono (by decide)) G.g__law_take G.F__law_take.kp (G.F__law_take.bindsN fun _ _ _ _ _ _ us hl => match us, hl with | [_, _], _ => rfl) (by first | exact tk | exact L2.takes0) (av_cons (ev_var 0) (av_cons (ev_var 1) av_nil)))))))) (tg_name 5 sc__law_asks.nd rfl (by first | exact .inl rfl | exact .inr rfl)) (ss_cons (st_expr (ev_append (ev_var 3) (ev_tup (av_cons (ev_var 4) (av_cons (ev_var 5) av_nil))))) (ss_one (st_asg (ev_b2 (call_min2 rfl) c2_min G.b_min rfl (PEv.b (ev_int)) (PEv.b (ev_bin op_addA opS_add (bv_var 4) (PEv.b (ev_ix hu65 (PEv.b (PFr.frz (fr_lst (av_cons (ev_call (ok__law_take G) p__law_take_len (hr.mono (by decide)) G.g__law_take G.F__law_take.kp (G.F__law_take.bindsN fun _ _ _ _ _ _ us hl => match us, hl with | [_, _], _ => rfl) (by first | exact tk | exact L2.takes0) (av_cons (ev_var 0) (av_cons (ev_int) av_nil))) (av_cons (ev_int) (av_cons (ev_call (ok__law_take G) p__law_take_len (hr.mono (by decide)) G.g__law_take G.F__law_take.kp (G.F__law_take.bindsN fun _ _ _ _ _ _ us hl => match us, hl with | [_, _], _ => rfl) (by first | exact tk | exact L2.takes0) (av_cons (ev_var 0) (av_cons (ev_int) av_nil))) (av_cons (ev_bin op_addA opS_add (PEv.b (ev_int)) (PEv.b (ev_call (ok__law_take G) p__law_take_len (hr.mono (by decide)) G.g__law_take G.F__law_take.kp (G.F__law_take.bindsN fun _ _ _ _ _ _ us hl => match us, hl with | [_, _], _ => rfl) (by first | exact tk | exact L2.takes0) (av_cons (ev_var 0) (av_cons (ev_int) av_nil))))) av_nil))))))) (bv_var 2)))))) (tg_name 4 sc__law_asks.nd rfl (by first | exact .inl rfl | exact .inr rfl)))))) (ss_one (st_ret (ev_t1 call_tuple_of c1_tuple G.b_tuple rfl (PEv.b (PFr.frz (fr_b1 (cr_sortedD hu65) c1_sorted G.b_sorted rfl (bv_var 3))))))))
theorem ok__law_marks (G : G K mg) : FnOk P w K mg base (L2.CX P w) 1 G.a__law_marks G.fd__law_marks ["asks", "delay", "machines"] (spOf K mg 3 p__law_marks) := by
  refine fn_ok (k := 0) (n := 8) (np := 3) (m := b__law_marks) G.F__law_marks sc__law_marks rfl rfl ?_
  refine fun cdv A outer s H E hr => fun tk po => ?_
  have hu0 : (A.deeper (envOfC "_law_marks" (defScope (top 30)) s.heap.objs.size G.a__law_marks cdv)).units < cLine := by have := hr.un; omega
  have hu1 : (A.deeper (envOfC "_law_marks" (defScope (top 30)) s.heap.objs.size G.a__law_marks cdv)).units + 1 < cLine := by have := hr.un; omega
  have hu64 : (A.deeper (envOfC "_law_marks" (defScope (top 30)) s.heap.objs.size G.a__law_marks cdv)).units + 64 < cLine := by have := hr.un; omega
  have hu65 : (A.deeper (envOfC "_law_marks" (defScope (top 30)) s.heap.objs.size G.a__law_marks cdv)).units + 65 < cLine := by have := hr.un; omega
  unfold b__law_marks l__law_marks_0
  exact ss_cons (st_par2 (i := 3) (j := 4) rfl sc__law_marks.nd rfl rfl (by decide) rfl rfl (av_cons (PFr.cell (fr_lst av_nil)) (av_cons (ev_non) av_nil)) rfl) (ss_cons (st_for po rfl (it_seq (ev_var 0)) (tg_tup rfl (tgs_cons (tg_name 5 sc__law_marks.nd rfl (by first | exact .inl rfl | exact .inr rfl)) (tgs_cons (tg_name 6 sc__law_marks.nd rfl (by first | exact .inl rfl | exact .inr rfl)) tgs_nil))) (ss_cons (st_asg (ev_bin op_addA opS_add (bv_var 5) (PEv.b (ev_bin op_mulA opS_mul (PEv.b (ev_int)) (bv_var 1)))) (tg_name 7 sc__law_marks.nd rfl (by first | exact .inl rfl | exact .inr rfl))) (ss_cons (st_if (tv_cmp op_isNotA (opB_is (neg := true)) (bv_var 4) (PEv.b (ev_non)) (by first | rfl | exact nomark _)) (ss_one (st_asg (ev_b2 (call_max2 rfl) c2_max G.b_max rfl (bv_var 7) (PEv.b (ev_bin op_addA opS_add (PEv.b (ev_bin op_addA opS_add (bv_var 4) (PEv.b (ev_int)))) (bv_var 1)))) (tg_name 7 sc__law_marks.nd rfl (by first | exact .inl rfl | exact .inr rfl)))) (ss_nil)) (ss_cons (st_expr (ev_append (ev_var 3) (ev_var 7))) (ss_one (st_asg (ev_var 7) (tg_name 4 sc__law_marks.nd rfl (by first | exact .inl rfl | exact .inr rfl)))))))) (ss_one (st_ret (ev_tup (av_cons (ev_t1 call_tuple_of c1_tuple G.b_tuple rfl (PEv.b (PFr.frz (fr_lc (own := [("time", 5), ("m", 6)]) rfl sc__law_marks.nd (it_seq (ev_var 0)) (blkOk_by (by kernel_rfl)) (fun _ _ _ _ _ => tg_tup rfl (tgs_cons (tg_name 5 sc__law_marks.nd rfl (by first | exact .inl rfl | exact .inr rfl)) (tgs_cons (tg_name 6 sc__law_marks.nd rfl (by first | exact .inl rfl | exact .inr rfl)) tgs_nil))) (fun _ _ _ _ _ => ts_nil) (fun _ _ _ _ _ => ev_var 6) (by decide))))) (av_cons (ev_bin op_mulA opS_mul (PEv.b (ev_bin op_mulA opS_mul (PEv.b (ev_int)) (PEv.b (ev_bin op_subA opS_sub (bv_var 2) (PEv.b (ev_int)))))) (PEv.b (ev_b1 call_lenA c1_len G.b_len rfl (bv_var 0)))) (av_cons (ev_t1 call_tuple_of c1_tuple G.b_tuple rfl (bv_var 3)) av_nil)))))))
theorem ok__law_token (G : G K mg) : FnOk P w K mg base (L2.CX P w) 1 G.a__law_token G.fd__law_token ["asks", "delay", "machines", "start"] (spOf K mg 4 p__law_token) := by
  refine fn_ok (k := 0) (n := 12) (np := 4) (m := b__law_token) G.F__law_token sc__law_token rfl rfl ?_
  refine fun cdv A outer s H E hr => fun tk po => ?_
  have hu0 : (A.deeper (envOfC "_law_token" (defScope (top 31)) s.heap.objs.size G.a__law_token cdv)).units < cLine := by have := hr.un; omega
  have hu1 : (A.deeper (envOfC "_law_token" (defScope (top 31)) s.heap.objs.size G.a__law_token cdv)).units + 1 < cLine := by have := hr.un; omega
  have hu64 : (A.deeper (envOfC "_law_token" (defScope (top 31)) s.heap.objs.size G.a__law_token cdv)).units + 64 < cLine := by have := hr.un; omega
  have hu65 : (A.deeper (envOfC "_law_token" (defScope (top 31)) s.heap.objs.size G.a__law_token cdv)).units + 65 < cLine := by have := hr.un; omega
  unfold b__law_token l__law_token_0
  exact ss_cons (st_asg (ev_tup (av_cons (PFr.frz (fr_t1 (call_dictP rfl) c1_dict G.b_dict rfl (PEv.b (PFr.frz (fr_lc (own := [("time", 8), ("m", 11)]) rfl sc__law_token.nd (it_seq (ev_var 0)) (blkOk_by (by kernel_rfl)) (fun _ _ _ _ _ => tg_tup rfl (tgs_cons (tg_name 8 sc__law_token.nd rfl (by first | exact .inl rfl | exact .inr rfl)) (tgs_cons (tg_name 11 sc__law_token.nd rfl (by first | exact .inl rfl | exact .inr rfl)) tgs_nil))) (fun _ _ _ _ _ => ts_nil) (fun _ _ _ _ _ => ev_tup (av_cons (ev_var 11) (av_cons (ev_var 8) av_nil))) (by decide)))))) (av_cons (PFr.cell (fr_lst av_nil)) (av_cons (PFr.cell (fr_lst av_nil)) av_nil)))) (tg_tup rfl (tgs_cons (tg_name 4 sc__law_token.nd rfl (by first | exact .inl rfl | exact .inr rfl)) (tgs_cons (tg_name 5 sc__law_token.nd rfl (by first | exact .inl rfl | exact .inr rfl)) (tgs_cons (tg_name 6 sc__law_token.nd rfl (by first | exact .inl rfl | exact .inr rfl)) tgs_nil))))) (ss_cons (st_asg (ev_tup (av_cons (ev_int) (av_cons (ev_var 3) (av_cons (ev_int) av_nil)))) (tg_tup rfl (tgs_cons (tg_name 7 sc__law_token.nd rfl (by first | exact .inl rfl | exact .inr rfl)) (tgs_cons (tg_name 8 sc__law_token.nd rfl (by first | exact .inl rfl | exact .inr rfl)) (tgs_cons (tg_name 9 sc__law_token.nd rfl (by first | exact .inl rfl | exact .inr rfl)) tgs_nil))))) (ss_cons (st_for po rfl (it_rg1 rfl G.b_range (av_cons (ev_int) av_nil)) (tg_name 10 sc__law_token.nd rfl (by first | exact .inl rfl | exact .inr rfl)) (ss_cons (st_if (tv_cmp (op_eq_empty hu0) opB_eqE (bv_var 4) (PEv.b (PFr.frz (fr_dnew))) (by first | rfl | exact nomark _)) (ss_one (st_break)) (ss_nil)) (ss_cons (st_if (PWv.t (wv_and (tv_cmp (op_inA hu65) (opB_in (neg := false)) (bv_var 7) (bv_var 4) (by first | rfl | exact nomark _)) (wv_and1 (tv_cmp op_le opB_le (PEv.b (ev_ix hu65 (bv_var 4) (bv_var 7))) (bv_var 8) (by first | rfl | exact nomark _))))) (ss_cons (st_expr (ev_append (ev_var 5) (ev_var 7))) (ss_cons (st_expr (ev_append (ev_var 6) (ev_var 8))) (ss_cons (st_asg (PFr.frz (fr_t1 (call_dictP rfl) c1_dict G.b_dict rfl (PEv.b (PFr.frz (fr_lc (own := [("m", 11)]) rfl sc__law_token.nd (it_keysr (ev_var 4)) (blkOk_by (by kernel_rfl)) (fun _ _ _ _ _ => tg_name 11 sc__law_token.nd rfl (by first | exact .inl rfl | exact .inr rfl)) (fun _ _ _ _ _ => ts_one (tv_cmp (op_neD hu64) opB_ne (bv_var 11) (bv_var 7) (by first | rfl | exact nomark _))) (fun _ _ _ _ _ => ev_tup (av_cons (ev_var 11) (av_cons (ev_ix hu65 (bv_var 4) (bv_var 11)) av_nil))) (by decide)))))) (tg_name 4 sc__law_token.nd rfl (by first | exact .inl rfl | exact .inr rfl))) (ss_one (st_asg (ev_bin op_addA opS_add (bv_var 8) (PEv.b (ev_int))) (tg_name 8 sc__law_token.nd rfl (by first | exact .inl rfl | exact .inr rfl))))))) (ss_nil)) (ss_one (st_if (tv_cmp (op_ne_empty hu0) opB_neE (bv_var 4) (PEv.b (PFr.frz (fr_dnew))) (by first | rfl | exact nomark _)) (ss_one (st_asg (ev_tup (av_cons (ev_bin op_mod opS_mod (PEv.b (ev_t1 call_int1 c1_int G.b_int rfl (PEv.b (ev_bin op_addA opS_add (bv_var 7) (PEv.b (ev_int)))))) (bv_var 2)) (av_cons (ev_bin op_addA opS_add (bv_var 8) (bv_var 1)) (av_cons (ev_bin op_addA opS_add (bv_var 9) (PEv.b (ev_int))) av_nil)))) (tg_tup rfl (tgs_cons (tg_name 7 sc__law_token.nd rfl (by first | exact .inl rfl | exact .inr rfl)) (tgs_cons (tg_name 8 sc__law_token.nd rfl (by first | exact .inl rfl | exact .inr rfl)) (tgs_cons (tg_name 9 sc__law_token.nd rfl (by first | exact .inl rfl | exact .inr rfl)) tgs_nil)))))) (ss_nil)))))) (ss_one (st_ret (ev_tup (av_cons (ev_t1 call_tuple_of c1_tuple G.b_tuple rfl (bv_var 5)) (av_cons (ev_var 9) (av_cons (ev_t1 call_tuple_of c1_tuple G.b_tuple rfl (bv_var 6)) av_nil))))))))
theorem ok__law_leader (G : G K mg) : FnOk P w K mg base (L2.CX P w) 1 G.a__law_leader G.fd__law_leader ["asks", "delay", "machines"] (spOf K mg 3 p__law_leader) := by
  refine fn_ok (k := 0) (n := 12) (np := 3) (m := b__law_leader) G.F__law_leader sc__law_leader rfl rfl ?_
  refine fun cdv A outer s H E hr => fun tk po => ?_
  have hu0 : (A.deeper (envOfC "_law_leader" (defScope (top 32)) s.heap.objs.size G.a__law_leader cdv)).units < cLine := by have := hr.un; omega
  have hu1 : (A.deeper (envOfC "_law_leader" (defScope (top 32)) s.heap.objs.size G.a__law_leader cdv)).units + 1 < cLine := by have := hr.un; omega
  have hu64 : (A.deeper (envOfC "_law_leader" (defScope (top 32)) s.heap.objs.size G.a__law_leader cdv)).units + 64 < cLine := by have := hr.un; omega
  have hu65 : (A.deeper (envOfC "_law_leader" (defScope (top 32)) s.heap.objs.size G.a__law_leader cdv)).units + 65 < cLine := by have := hr.un; omega
  unfold b__law_leader l__law_leader_0
  exact ss_cons (st_asg (PFr.frz (fr_b1 (cr_sortedD hu65) c1_sorted G.b_sorted rfl (PEv.b (PFr.frz (fr_lc (own := [("time", 11), ("m", 8)]) rfl sc__law_leader.nd (it_seq (ev_var 0)) (blkOk_by (by kernel_rfl)) (fun _ _ _ _ _ => tg_tup rfl (tgs_cons (tg_name 11 sc__law_leader.nd rfl (by first | exact .inl rfl | exact .inr rfl)) (tgs_cons (tg_name 8 sc__law_leader.nd rfl (by first | exact .inl rfl | exact .inr rfl)) tgs_nil))) (fun _ _ _ _ _ => ts_nil) (fun _ _ _ _ _ => ev_tup (av_cons (ev_bin op_addA opS_add (bv_var 11) (bv_if (tv_cmp op_gt opB_gt (bv_var 8) (PEv.b (ev_int)) (by first | rfl | exact nomark _)) (bv_var 1) (PEv.b (ev_int)))) (av_cons (ev_var 8) av_nil))) (by decide)))))) (tg_name 3 sc__law_leader.nd rfl (by first | exact .inl rfl | exact .inr rfl))) (ss_cons (st_par3 (i := 4) (j := 5) (l := 6) rfl sc__law_leader.nd rfl rfl rfl (by decide) (by decide) (by decide) rfl rfl rfl (av_cons (PFr.cell (fr_lst av_nil)) (av_cons (PFr.cell (fr_lst av_nil)) (av_cons (ev_int) av_nil))) rfl) (ss_cons (st_for po rfl (it_seq (ev_var 3)) (tg_tup rfl (tgs_cons (tg_name 7 sc__law_leader.nd rfl (by first | exact .inl rfl | exact .inr rfl)) (tgs_cons (tg_name 8 sc__law_leader.nd rfl (by first | exact .inl rfl | exact .inr rfl)) tgs_nil))) (ss_cons (st_par2 (i := 9) (j := 10) rfl sc__law_leader.nd rfl rfl (by decide) rfl rfl (av_cons (ev_b2 (call_max2 rfl) c2_max G.b_max rfl (bv_var 7) (bv_var 6)) (av_cons (ev_if (tv_cmp op_gt opB_gt (bv_var 8) (PEv.b (ev_int)) (by first | rfl | exact nomark _)) (ev_var 1) (ev_int)) av_nil)) rfl) (ss_cons (st_expr (ev_append (ev_var 4) (ev_var 8))) (ss_cons (st_expr (ev_append (ev_var 5) (ev_bin op_addA opS_add (bv_var 9) (bv_var 10)))) (ss_one (st_asg (ev_bin op_addA opS_add (PEv.b (ev_bin op_addA opS_add (PEv.b (ev_bin op_addA opS_add (bv_var 9) (bv_var 10))) (PEv.b (ev_int)))) (bv_var 10)) (tg_name 6 sc__law_leader.nd rfl (by first | exact .inl rfl | exact .inr rfl)))))))) (ss_one (st_ret (ev_tup (av_cons (ev_t1 call_tuple_of c1_tuple G.b_tuple rfl (bv_var 4)) (av_cons (ev_bin op_mulA opS_mul (PEv.b (ev_int)) (PEv.b (ev_b1 call_lenA c1_len G.b_len rfl (PEv.b (PFr.frz (fr_lc (own := [("time", 11), ("m", 8)]) rfl sc__law_leader.nd (it_seq (ev_var 0)) (blkOk_by (by kernel_rfl)) (fun _ _ _ _ _ => tg_tup rfl (tgs_cons (tg_name 11 sc__law_leader.nd rfl (by first | exact .inl rfl | exact .inr rfl)) (tgs_cons (tg_name 8 sc__law_leader.nd rfl (by first | exact .inl rfl | exact .inr rfl)) tgs_nil))) (fun _ _ _ _ _ => ts_one (tv_cmp op_gt opB_gt (bv_var 8) (PEv.b (ev_int)) (by first | rfl | exact nomark _))) (fun _ _ _ _ _ => ev_var 8) (by decide))))))) (av_cons (ev_t1 call_tuple_of c1_tuple G.b_tuple rfl (bv_var 5)) av_nil))))))))
theorem ok__law_all (G : G K mg) : FnOk P w K mg base (L2.CX P w) 7 G.a__law_all G.fd__law_all ["way", "asks", "delay", "machines", "start"] (spOf K mg 5 p__law_all) := by
  refine fn_ok (k := 6) (n := 5) (np := 5) (m := b__law_all) G.F__law_all sc__law_all rfl rfl ?_
  refine fun cdv A outer s H E hr => fun tk po => ?_
  have hu0 : (A.deeper (envOfC "_law_all" (defScope (top 33)) s.heap.objs.size G.a__law_all cdv)).units < cLine := by have := hr.un; omega
  have hu1 : (A.deeper (envOfC "_law_all" (defScope (top 33)) s.heap.objs.size G.a__law_all cdv)).units + 1 < cLine := by have := hr.un; omega
  have hu64 : (A.deeper (envOfC "_law_all" (defScope (top 33)) s.heap.objs.size G.a__law_all cdv)).units + 64 < cLine := by have := hr.un; omega
  have hu65 : (A.deeper (envOfC "_law_all" (defScope (top 33)) s.heap.objs.size G.a__law_all cdv)).units + 65 < cLine := by have := hr.un; omega
  unfold b__law_all
  exact ss_cons (st_if (tv_cmp (op_eqD hu64) opB_eq (bv_var 0) (PEv.b (ev_int)) (by first | rfl | exact nomark _)) (ss_one (st_ret (PFr.frz (fr_lst (av_cons (ev_call (ok_by_marks G) p_by_marks_len (hr.mono (by decide)) G.g_by_marks G.F_by_marks.kp (G.F_by_marks.bindsN fun _ _ _ _ _ _ us hl => match us, hl with | [_, _, _], _ => rfl) (by first | exact tk | exact L2.takes0) (av_cons (ev_var 1) (av_cons (ev_var 2) (av_cons (ev_var 3) av_nil)))) (av_cons (ev_call (ok_by_token G) p_by_token_len (hr.mono (by decide)) G.g_by_token G.F_by_token.kp (G.F_by_token.bindsN fun _ _ _ _ _ _ us hl => match us, hl with | [_, _, _, _], _ => rfl) (by first | exact tk | exact L2.takes0) (av_cons (ev_var 1) (av_cons (ev_var 2) (av_cons (ev_var 3) (av_cons (ev_var 4) av_nil))))) (av_cons (ev_call (ok_by_leader G) p_by_leader_len (hr.mono (by decide)) G.g_by_leader G.F_by_leader.kp (G.F_by_leader.bindsN fun _ _ _ _ _ _ us hl => match us, hl with | [_, _, _], _ => rfl) (by first | exact tk | exact L2.takes0) (av_cons (ev_var 1) (av_cons (ev_var 2) (av_cons (ev_var 3) av_nil)))) av_nil))))))) (ss_nil)) (ss_one (st_ret (PFr.frz (fr_lst (av_cons (ev_callK0 (ok_by_marks G) p_by_marks_len (hr.mono (by decide)) G.g_by_marks G.F_by_marks.kp (kwB_of (n := 0) (ks := ["machines", "delay", "asks"]) (ix := [2, 1, 0]) G.F_by_marks fun _ _ _ _ _ _ us ws h1 h2 => match us, ws, h1, h2 with | [], [_, _, _], _, _ => rfl) (by first | exact tk | exact L2.takes0) (kv_cons (ev_var 3) (kv_cons (ev_var 2) (kv_cons (ev_var 1) kv_nil)))) (av_cons (ev_callK0 (ok_by_token G) p_by_token_len (hr.mono (by decide)) G.g_by_token G.F_by_token.kp (kwB_of (n := 0) (ks := ["start", "machines", "delay", "asks"]) (ix := [3, 2, 1, 0]) G.F_by_token fun _ _ _ _ _ _ us ws h1 h2 => match us, ws, h1, h2 with | [], [_, _, _, _], _, _ => rfl) (by first | exact tk | exact L2.takes0) (kv_cons (ev_var 4) (kv_cons (ev_var 3) (kv_cons (ev_var 2) (kv_cons (ev_var 1) kv_nil))))) (av_cons (ev_callK0 (ok_by_leader G) p_by_leader_len (hr.mono (by decide)) G.g_by_leader G.F_by_leader.kp (kwB_of (n := 0) (ks := ["machines", "delay", "asks"]) (ix := [2, 1, 0]) G.F_by_leader fun _ _ _ _ _ _ us ws h1 h2 => match us, ws, h1, h2 with | [], [_, _, _], _, _ => rfl) (by first | exact tk | exact L2.takes0) (kv_cons (ev_var 3) (kv_cons (ev_var 2) (kv_cons (ev_var 1) kv_nil)))) av_nil)))))))
theorem ok__law_is_fair (G : G K mg) : FnOk P w K mg base (L2.CX P w) 1 G.a__law_is_fair G.fd__law_is_fair ["asks", "told"] (spOf K mg 2 p__law_is_fair) := by
  refine fn_ok (k := 0) (n := 9) (np := 2) (m := b__law_is_fair) G.F__law_is_fair sc__law_is_fair rfl rfl ?_
  refine fun cdv A outer s H E hr => fun tk po => ?_
  have hu0 : (A.deeper (envOfC "_law_is_fair" (defScope (top 34)) s.heap.objs.size G.a__law_is_fair cdv)).units < cLine := by have := hr.un; omega
  have hu1 : (A.deeper (envOfC "_law_is_fair" (defScope (top 34)) s.heap.objs.size G.a__law_is_fair cdv)).units + 1 < cLine := by have := hr.un; omega
  have hu64 : (A.deeper (envOfC "_law_is_fair" (defScope (top 34)) s.heap.objs.size G.a__law_is_fair cdv)).units + 64 < cLine := by have := hr.un; omega
  have hu65 : (A.deeper (envOfC "_law_is_fair" (defScope (top 34)) s.heap.objs.size G.a__law_is_fair cdv)).units + 65 < cLine := by have := hr.un; omega
  unfold b__law_is_fair
  exact ss_cons (st_if (PWv.t (wv_or (tv_not (tv_val (ev_isi .tuple G.b_isinstance G.b_tuple rfl (bv_var 1)))) (wv_or (tv_cmp (op_neD hu64) opB_ne (PEv.b (ev_b1 call_lenA c1_len G.b_len rfl (bv_var 1))) (PEv.b (ev_int)) (by first | rfl | exact nomark _)) (wv_or (tv_not (tv_val (ev_isi .tuple G.b_isinstance G.b_tuple rfl (PEv.b (ev_ix hu65 (bv_var 1) (PEv.b (ev_int))))))) (wv_or1 (tv_not (tv_val (ev_isi .tuple G.b_isinstance G.b_tuple rfl (PEv.b (ev_ix hu65 (bv_var 1) (PEv.b (ev_int)))))))))))) (ss_one (st_ret (ev_bl))) (ss_nil)) (ss_cons (st_asg (ev_var 1) (tg_tup rfl (tgs_cons (tg_name 2 sc__law_is_fair.nd rfl (by first | exact .inl rfl | exact .inr rfl)) (tgs_cons (tg_name 3 sc__law_is_fair.nd rfl (by first | exact .inl rfl | exact .inr rfl)) (tgs_cons (tg_name 4 sc__law_is_fair.nd rfl (by first | exact .inl rfl | exact .inr rfl)) tgs_nil))))) (ss_cons (st_if (PWv.t (wv_or (tv_cmp (op_neD hu64) opB_ne (PEv.b (PFr.frz (fr_b1 (cr_sortedD hu65) c1_sorted G.b_sorted rfl (PEv.b (PFr.frz (fr_t1 (call_listA rfl) c1_list G.b_list rfl (bv_var 2))))))) (PEv.b (PFr.frz (fr_b1 (cr_sortedD hu65) c1_sorted G.b_sorted rfl (PEv.b (PFr.frz (fr_lc (own := [("time", 6), ("m", 7)]) rfl sc__law_is_fair.nd (it_seq (ev_var 0)) (blkOk_by (by kernel_rfl)) (fun _ _ _ _ _ => tg_tup rfl (tgs_cons (tg_name 6 sc__law_is_fair.nd rfl (by first | exact .inl rfl | exact .inr rfl)) (tgs_cons (tg_name 7 sc__law_is_fair.nd rfl (by first | exact .inl rfl | exact .inr rfl)) tgs_nil))) (fun _ _ _ _ _ => ts_nil) (fun _ _ _ _ _ => ev_var 7) (by decide))))))) (by first | rfl | exact nomark _)) (wv_or1 (tv_cmp (op_neD hu64) opB_ne (PEv.b (ev_b1 call_lenA c1_len G.b_len rfl (bv_var 4))) (PEv.b (ev_b1 call_lenA c1_len G.b_len rfl (bv_var 2))) (by first | rfl | exact nomark _))))) (ss_one (st_ret (ev_bl))) (ss_nil)) (ss_cons (st_asg (PFr.frz (fr_t1 (call_dictP rfl) c1_dict G.b_dict rfl (PEv.b (PFr.frz (fr_lc (own := [("time", 6), ("m", 7)]) rfl sc__law_is_fair.nd (it_seq (ev_var 0)) (blkOk_by (by kernel_rfl)) (fun _ _ _ _ _ => tg_tup rfl (tgs_cons (tg_name 6 sc__law_is_fair.nd rfl (by first | exact .inl rfl | exact .inr rfl)) (tgs_cons (tg_name 7 sc__law_is_fair.nd rfl (by first | exact .inl rfl | exact .inr rfl)) tgs_nil))) (fun _ _ _ _ _ => ts_nil) (fun _ _ _ _ _ => ev_tup (av_cons (ev_var 7) (av_cons (ev_var 6) av_nil))) (by decide)))))) (tg_name 5 sc__law_is_fair.nd rfl (by first | exact .inl rfl | exact .inr rfl))) (ss_cons (st_if (tv_cmp (op_neD hu64) opB_ne (PEv.b (PFr.frz (fr_lc (own := [("k", 8)]) rfl sc__law_is_fair.nd (it_rg1 rfl G.b_range (av_cons (ev_b1 call_lenA c1_len G.b_len rfl (bv_var 2)) av_nil)) (blkOk_by (by kernel_rfl)) (fun _ _ _ _ _ => tg_name 8 sc__law_is_fair.nd rfl (by first | exact .inl rfl | exact .inr rfl)) (fun _ _ _ _ _ => ts_one (tv_cmp (op_ltA hu0) opB_lt (PEv.b (ev_ix hu65 (bv_var 4) (bv_var 8))) (PEv.b (ev_ix hu65 (bv_var 5) (PEv.b (ev_ix hu65 (bv_var 2) (bv_var 8))))) (by first | rfl | exact nomark _))) (fun _ _ _ _ _ => ev_var 8) (by decide)))) (PEv.b (PFr.frz (fr_lst av_nil))) (by first | rfl | exact nomark _)) (ss_one (st_ret (ev_bl))) (ss_nil)) (ss_one (st_ret (ev_cmp (op_eqD hu64) (OpB.s opB_eq) (PEv.b (PFr.frz (fr_lc (own := [("k", 8)]) rfl sc__law_is_fair.nd (it_rg1 rfl G.b_range (av_cons (ev_bin op_subA opS_sub (PEv.b (ev_b1 call_lenA c1_len G.b_len rfl (bv_var 2))) (PEv.b (ev_int))) av_nil)) (blkOk_by (by kernel_rfl)) (fun _ _ _ _ _ => tg_name 8 sc__law_is_fair.nd rfl (by first | exact .inl rfl | exact .inr rfl)) (fun _ _ _ _ _ => ts_one (tv_cmp op_gt opB_gt (PEv.b (ev_bin op_addA opS_add (PEv.b (ev_ix hu65 (bv_var 4) (bv_var 8))) (PEv.b (ev_int)))) (PEv.b (ev_ix hu65 (bv_var 4) (PEv.b (ev_bin op_addA opS_add (bv_var 8) (PEv.b (ev_int)))))) (by first | rfl | exact nomark _))) (fun _ _ _ _ _ => ev_var 8) (by decide)))) (PEv.b (PFr.frz (fr_lst av_nil))) (by first | rfl | exact nomark _))))))))
theorem ok__law_moved (G : G K mg) : FnOk P w K mg base (L2.CX P w) 1 G.a__law_moved G.fd__law_moved ["told", "more"] (spOf K mg 2 p__law_moved) := by
  refine fn_ok (k := 0) (n := 3) (np := 2) (m := b__law_moved) G.F__law_moved sc__law_moved rfl rfl ?_
  refine fun cdv A outer s H E hr => fun tk po => ?_
  have hu0 : (A.deeper (envOfC "_law_moved" (defScope (top 35)) s.heap.objs.size G.a__law_moved cdv)).units < cLine := by have := hr.un; omega
  have hu1 : (A.deeper (envOfC "_law_moved" (defScope (top 35)) s.heap.objs.size G.a__law_moved cdv)).units + 1 < cLine := by have := hr.un; omega
  have hu64 : (A.deeper (envOfC "_law_moved" (defScope (top 35)) s.heap.objs.size G.a__law_moved cdv)).units + 64 < cLine := by have := hr.un; omega
  have hu65 : (A.deeper (envOfC "_law_moved" (defScope (top 35)) s.heap.objs.size G.a__law_moved cdv)).units + 65 < cLine := by have := hr.un; omega
  unfold b__law_moved
  exact ss_one (st_ret (ev_tup (av_cons (ev_ix hu65 (bv_var 0) (PEv.b (ev_int))) (av_cons (ev_ix hu65 (bv_var 0) (PEv.b (ev_int))) (av_cons (ev_t1 call_tuple_of c1_tuple G.b_tuple rfl (PEv.b (PFr.frz (fr_lc (own := [("time", 2)]) rfl sc__law_moved.nd (it_seq (ev_ix hu65 (bv_var 0) (PEv.b (ev_int)))) (blkOk_by (by kernel_rfl)) (fun _ _ _ _ _ => tg_name 2 sc__law_moved.nd rfl (by first | exact .inl rfl | exact .inr rfl)) (fun _ _ _ _ _ => ts_nil) (fun _ _ _ _ _ => ev_bin op_addA opS_add (bv_var 2) (bv_var 1)) (by decide))))) av_nil)))))
theorem ok__law_asks_right (G : G K mg) : FnOk P w K mg base (L2.CX P w) 8 G.a__law_asks_right G.fd__law_asks_right ["box", "way", "machines"] (spOf K mg 3 p__law_asks_right) := by
  refine fn_ok (k := 7) (n := 14) (np := 3) (m := b__law_asks_right) G.F__law_asks_right sc__law_asks_right rfl rfl ?_
  refine fun cdv A outer s H E hr => fun tk po => ?_
  have hu0 : (A.deeper (envOfC "_law_asks_right" (defScope (top 36)) s.heap.objs.size G.a__law_asks_right cdv)).units < cLine := by have := hr.un; omega
  have hu1 : (A.deeper (envOfC "_law_asks_right" (defScope (top 36)) s.heap.objs.size G.a__law_asks_right cdv)).units + 1 < cLine := by have := hr.un; omega
  have hu64 : (A.deeper (envOfC "_law_asks_right" (defScope (top 36)) s.heap.objs.size G.a__law_asks_right cdv)).units + 64 < cLine := by have := hr.un; omega
  have hu65 : (A.deeper (envOfC "_law_asks_right" (defScope (top 36)) s.heap.objs.size G.a__law_asks_right cdv)).units + 65 < cLine := by have := hr.un; omega
  unfold b__law_asks_right
  exact ss_cons (st_asg (ev_tup (av_cons (ev_call (ok__law_asks G) p__law_asks_len (hr.mono (by decide)) G.g__law_asks G.F__law_asks.kp (G.F__law_asks.bindsN fun _ _ _ _ _ _ us hl => match us, hl with | [_, _], _ => rfl) (by first | exact tk | exact L2.takes0) (av_cons (ev_var 0) (av_cons (ev_var 2) av_nil))) (av_cons (ev_bin op_addA opS_add (PEv.b (ev_int)) (PEv.b (ev_call (ok__law_take G) p__law_take_len (hr.mono (by decide)) G.g__law_take G.F__law_take.kp (G.F__law_take.bindsN fun _ _ _ _ _ _ us hl => match us, hl with | [_, _], _ => rfl) (by first | exact tk | exact L2.takes0) (av_cons (ev_var 0) (av_cons (ev_int) av_nil))))) (av_cons (ev_call (ok__law_take G) p__law_take_len (hr.mono (by decide)) G.g__law_take G.F__law_take.kp (G.F__law_take.bindsN fun _ _ _ _ _ _ us hl => match us, hl with | [_, _], _ => rfl) (by first | exact tk | exact L2.takes0) (av_cons (ev_var 0) (av_cons (ev_int) av_nil))) av_nil)))) (tg_tup rfl (tgs_cons (tg_name 3 sc__law_asks_right.nd rfl (by first | exact .inl rfl | exact .inr rfl)) (tgs_cons (tg_name 4 sc__law_asks_right.nd rfl (by first | exact .inl rfl | exact .inr rfl)) (tgs_cons (tg_name 5 sc__law_asks_right.nd rfl (by first | exact .inl rfl | exact .inr rfl)) tgs_nil))))) (ss_cons (st_asg (ev_call (ok__law_all G) p__law_all_len (hr.mono (by decide)) G.g__law_all G.F__law_all.kp (G.F__law_all.bindsN fun _ _ _ _ _ _ us hl => match us, hl with | [_, _, _, _, _], _ => rfl) (by first | exact tk | exact L2.takes0) (av_cons (ev_var 1) (av_cons (ev_var 3) (av_cons (ev_var 4) (av_cons (ev_var 2) (av_cons (ev_var 5) av_nil)))))) (tg_name 6 sc__law_asks_right.nd rfl (by first | exact .inl rfl | exact .inr rfl))) (ss_cons (st_asg (PFr.frz (fr_lst (av_cons (ev_call (ok__law_marks G) p__law_marks_len (hr.mono (by decide)) G.g__law_marks G.F__law_marks.kp (G.F__law_marks.bindsN fun _ _ _ _ _ _ us hl => match us, hl with | [_, _, _], _ => rfl) (by first | exact tk | exact L2.takes0) (av_cons (ev_var 3) (av_cons (ev_var 4) (av_cons (ev_var 2) av_nil)))) (av_cons (ev_call (ok__law_token G) p__law_token_len (hr.mono (by decide)) G.g__law_token G.F__law_token.kp (G.F__law_token.bindsN fun _ _ _ _ _ _ us hl => match us, hl with | [_, _, _, _], _ => rfl) (by first | exact tk | exact L2.takes0) (av_cons (ev_var 3) (av_cons (ev_var 4) (av_cons (ev_var 2) (av_cons (ev_var 5) av_nil))))) (av_cons (ev_call (ok__law_leader G) p__law_leader_len (hr.mono (by decide)) G.g__law_leader G.F__law_leader.kp (G.F__law_leader.bindsN fun _ _ _ _ _ _ us hl => match us, hl with | [_, _, _], _ => rfl) (by first | exact tk | exact L2.takes0) (av_cons (ev_var 3) (av_cons (ev_var 4) (av_cons (ev_var 2) av_nil)))) av_nil))))) (tg_name 7 sc__law_asks_right.nd rfl (by first | exact .inl rfl | exact .inr rfl))) (ss_cons (st_if (PWv.t (wv_or (tv_not (tv_val (ev_call (ok__law_same G 6) (p__law_same_len _) (hr.mono (by decide)) G.g__law_same G.F__law_same.kp (G.F__law_same.bindsN fun _ _ _ _ _ _ us hl => match us, hl with | [_, _], _ => rfl) (by first | exact tk | exact L2.takes0) (av_cons (ev_var 6) (av_cons (ev_var 7) av_nil))))) (wv_or1 (tv_cmp (op_neD hu64) opB_ne (PEv.b (PFr.frz (fr_lc (own := [("one", 13)]) rfl sc__law_asks_right.nd (it_seq (ev_var 6)) (blkOk_by (by kernel_rfl)) (fun _ _ _ _ _ => tg_name 13 sc__law_asks_right.nd rfl (by first | exact .inl rfl | exact .inr rfl)) (fun _ _ _ _ _ => ts_one (tv_not (tv_val (ev_call (ok__law_is_fair G) p__law_is_fair_len (hr.mono (by decide)) G.g__law_is_fair G.F__law_is_fair.kp (G.F__law_is_fair.bindsN fun _ _ _ _ _ _ us hl => match us, hl with | [_, _], _ => rfl) (by first | exact tk | exact L2.takes0) (av_cons (ev_var 3) (av_cons (ev_var 13) av_nil)))))) (fun _ _ _ _ _ => ev_var 13) (by decide)))) (PEv.b (PFr.frz (fr_lst av_nil))) (by first | rfl | exact nomark _))))) (ss_one (st_ret (ev_bl))) (ss_nil)) (ss_cons (st_if (tv_not (tv_val (ev_call (ok__law_same G 6) (p__law_same_len _) (hr.mono (by decide)) G.g__law_same G.F__law_same.kp (G.F__law_same.bindsN fun _ _ _ _ _ _ us hl => match us, hl with | [_, _], _ => rfl) (by first | exact tk | exact L2.takes0) (av_cons (ev_call (ok__law_all G) p__law_all_len (hr.mono (by decide)) G.g__law_all G.F__law_all.kp (G.F__law_all.bindsN fun _ _ _ _ _ _ us hl => match us, hl with | [_, _, _, _, _], _ => rfl) (by first | exact tk | exact L2.takes0) (av_cons (ev_bin op_subA opS_sub (PEv.b (ev_int)) (bv_var 1)) (av_cons (ev_var 3) (av_cons (ev_var 4) (av_cons (ev_var 2) (av_cons (ev_var 5) av_nil)))))) (av_cons (ev_var 6) av_nil))))) (ss_one (st_ret (ev_bl))) (ss_nil)) (ss_cons (st_if (tv_cmp (op_neD hu64) opB_ne (PEv.b (ev_bin op_mod opS_mod (PEv.b (ev_t1 call_int1 c1_int G.b_int rfl (PEv.b (ev_bin op_subA opS_sub (PEv.b (ev_ix hu65 (PEv.b (ev_ix hu65 (bv_var 6) (PEv.b (ev_int)))) (PEv.b (ev_int)))) (PEv.b (ev_ix hu65 (PEv.b (ev_ix hu65 (PEv.b (ev_ix hu65 (bv_var 6) (PEv.b (ev_int)))) (PEv.b (ev_int)))) (PEv.b (ev_neg (PEv.b (ev_int)))))))))) (bv_var 2))) (PEv.b (ev_int)) (by first | rfl | exact nomark _)) (ss_one (st_ret (ev_bl))) (ss_nil)) (ss_cons (st_if (tv_cmp (op_eqD hu64) opB_eq (PEv.b (PFr.frz (fr_lc (own := [("time", 11), ("m", 12)]) rfl sc__law_asks_right.nd (it_seq (ev_var 3)) (blkOk_by (by kernel_rfl)) (fun _ _ _ _ _ => tg_tup rfl (tgs_cons (tg_name 11 sc__law_asks_right.nd rfl (by first | exact .inl rfl | exact .inr rfl)) (tgs_cons (tg_name 12 sc__law_asks_right.nd rfl (by first | exact .inl rfl | exact .inr rfl)) tgs_nil))) (fun _ _ _ _ _ => ts_one (tv_cmp op_gt opB_gt (bv_var 11) (PEv.b (ev_int)) (by first | rfl | exact nomark _))) (fun _ _ _ _ _ => ev_var 11) (by decide)))) (PEv.b (PFr.frz (fr_lst av_nil))) (by first | rfl | exact nomark _)) (ss_cons (st_asg (ev_bin op_addA opS_add (PEv.b (ev_int)) (PEv.b (ev_call (ok__law_take G) p__law_take_len (hr.mono (by decide)) G.g__law_take G.F__law_take.kp (G.F__law_take.bindsN fun _ _ _ _ _ _ us hl => match us, hl with | [_, _], _ => rfl) (by first | exact tk | exact L2.takes0) (av_cons (ev_var 0) (av_cons (ev_int) av_nil))))) (tg_name 8 sc__law_asks_right.nd rfl (by first | exact .inl rfl | exact .inr rfl))) (ss_cons (st_asg (ev_t1 call_tuple_of c1_tuple G.b_tuple rfl (PEv.b (PFr.frz (fr_lc (own := [("time", 11), ("m", 12)]) rfl sc__law_asks_right.nd (it_seq (ev_var 3)) (blkOk_by (by kernel_rfl)) (fun _ _ _ _ _ => tg_tup rfl (tgs_cons (tg_name 11 sc__law_asks_right.nd rfl (by first | exact .inl rfl | exact .inr rfl)) (tgs_cons (tg_name 12 sc__law_asks_right.nd rfl (by first | exact .inl rfl | exact .inr rfl)) tgs_nil))) (fun _ _ _ _ _ => ts_nil) (fun _ _ _ _ _ => ev_tup (av_cons (ev_bin op_addA opS_add (bv_var 11) (bv_var 8)) (av_cons (ev_var 12) av_nil))) (by decide))))) (tg_name 9 sc__law_asks_right.nd rfl (by first | exact .inl rfl | exact .inr rfl))) (ss_cons (st_asg (ev_call (ok__law_all G) p__law_all_len (hr.mono (by decide)) G.g__law_all G.F__law_all.kp (G.F__law_all.bindsN fun _ _ _ _ _ _ us hl => match us, hl with | [_, _, _, _, _], _ => rfl) (by first | exact tk | exact L2.takes0) (av_cons (ev_var 1) (av_cons (ev_var 9) (av_cons (ev_var 4) (av_cons (ev_var 2) (av_cons (ev_bin op_addA opS_add (bv_var 5) (bv_var 8)) av_nil)))))) (tg_name 10 sc__law_asks_right.nd rfl (by first | exact .inl rfl | exact .inr rfl))) (ss_one (st_if (tv_not (tv_val (ev_call (ok__law_same G 6) (p__law_same_len _) (hr.mono (by decide)) G.g__law_same G.F__law_same.kp (G.F__law_same.bindsN fun _ _ _ _ _ _ us hl => match us, hl with | [_, _], _ => rfl) (by first | exact tk | exact L2.takes0) (av_cons (ev_var 10) (av_cons (PFr.frz (fr_lc (own := [("one", 13)]) rfl sc__law_asks_right.nd (it_seq (ev_var 6)) (blkOk_by (by kernel_rfl)) (fun _ _ _ _ _ => tg_name 13 sc__law_asks_right.nd rfl (by first | exact .inl rfl | exact .inr rfl)) (fun _ _ _ _ _ => ts_nil) (fun _ _ _ _ _ => ev_call (ok__law_moved G) p__law_moved_len (hr.mono (by decide)) G.g__law_moved G.F__law_moved.kp (G.F__law_moved.bindsN fun _ _ _ _ _ _ us hl => match us, hl with | [_, _], _ => rfl) (by first | exact tk | exact L2.takes0) (av_cons (ev_var 13) (av_cons (ev_var 8) av_nil))) (by decide))) av_nil))))) (ss_one (st_ret (ev_bl))) (ss_nil)))))) (ss_nil)) (ss_one (st_ret (ev_bl)))))))))
theorem ok__law_far_right (G : G K mg) : FnOk P w K mg base (L2.CX P w) 8 G.a__law_far_right G.fd__law_far_right ["box", "way", "machines"] (spOf K mg 3 p__law_far_right) := by
  refine fn_ok (k := 7) (n := 14) (np := 3) (m := b__law_far_right) G.F__law_far_right sc__law_far_right rfl rfl ?_
  refine fun cdv A outer s H E hr => fun tk po => ?_
  have hu0 : (A.deeper (envOfC "_law_far_right" (defScope (top 37)) s.heap.objs.size G.a__law_far_right cdv)).units < cLine := by have := hr.un; omega
  have hu1 : (A.deeper (envOfC "_law_far_right" (defScope (top 37)) s.heap.objs.size G.a__law_far_right cdv)).units + 1 < cLine := by have := hr.un; omega
  have hu64 : (A.deeper (envOfC "_law_far_right" (defScope (top 37)) s.heap.objs.size G.a__law_far_right cdv)).units + 64 < cLine := by have := hr.un; omega
  have hu65 : (A.deeper (envOfC "_law_far_right" (defScope (top 37)) s.heap.objs.size G.a__law_far_right cdv)).units + 65 < cLine := by have := hr.un; omega
  unfold b__law_far_right
  exact ss_cons (st_asg (ev_bin op_addA opS_add (PEv.b (ev_int)) (PEv.b (ev_call (ok__law_take G) p__law_take_len (hr.mono (by decide)) G.g__law_take G.F__law_take.kp (G.F__law_take.bindsN fun _ _ _ _ _ _ us hl => match us, hl with | [_, _], _ => rfl) (by first | exact tk | exact L2.takes0) (av_cons (ev_var 0) (av_cons (ev_int) av_nil))))) (tg_name 3 sc__law_far_right.nd rfl (by first | exact .inl rfl | exact .inr rfl))) (ss_cons (st_asg (ev_slice (PEv.b (ev_call (ok__law_mixed G) p__law_mixed_len (hr.mono (by decide)) G.g__law_mixed G.F__law_mixed.kp (G.F__law_mixed.bindsN fun _ _ _ _ _ _ us hl => match us, hl with | [_, _], _ => rfl) (by first | exact tk | exact L2.takes0) (av_cons (ev_var 0) (av_cons (ev_var 2) av_nil)))) (ov_none) (ov_some (ev_int))) (tg_name 4 sc__law_far_right.nd rfl (by first | exact .inl rfl | exact .inr rfl))) (ss_cons (st_asg (ev_t1 call_tuple_of c1_tuple G.b_tuple rfl (PEv.b (PFr.frz (fr_lc (own := [("k", 11)]) rfl sc__law_far_right.nd (it_rg1 rfl G.b_range (av_cons (ev_b1 call_lenA c1_len G.b_len rfl (bv_var 4)) av_nil)) (blkOk_by (by kernel_rfl)) (fun _ _ _ _ _ => tg_name 11 sc__law_far_right.nd rfl (by first | exact .inl rfl | exact .inr rfl)) (fun _ _ _ _ _ => ts_nil) (fun _ _ _ _ _ => ev_tup (av_cons (ev_bin op_mulA opS_mul (bv_var 11) (PEv.b (ev_bin op_addA opS_add (PEv.b (ev_int)) (PEv.b (ev_bin op_mulA opS_mul (PEv.b (ev_int)) (bv_var 3)))))) (av_cons (ev_ix hu65 (bv_var 4) (bv_var 11)) av_nil))) (by decide))))) (tg_name 5 sc__law_far_right.nd rfl (by first | exact .inl rfl | exact .inr rfl))) (ss_cons (st_asg (PFr.frz (fr_lst (av_cons (ev_call (ok_by_marks G) p_by_marks_len (hr.mono (by decide)) G.g_by_marks G.F_by_marks.kp (G.F_by_marks.bindsN fun _ _ _ _ _ _ us hl => match us, hl with | [_, _, _], _ => rfl) (by first | exact tk | exact L2.takes0) (av_cons (ev_var 5) (av_cons (ev_var 3) (av_cons (ev_var 2) av_nil)))) (av_cons (ev_call (ok_by_leader G) p_by_leader_len (hr.mono (by decide)) G.g_by_leader G.F_by_leader.kp (G.F_by_leader.bindsN fun _ _ _ _ _ _ us hl => match us, hl with | [_, _, _], _ => rfl) (by first | exact tk | exact L2.takes0) (av_cons (ev_var 5) (av_cons (ev_var 3) (av_cons (ev_var 2) av_nil)))) av_nil)))) (tg_name 6 sc__law_far_right.nd rfl (by first | exact .inl rfl | exact .inr rfl))) (ss_cons (st_if (tv_cmp (op_eqD hu64) opB_eq (bv_var 1) (PEv.b (ev_int)) (by first | rfl | exact nomark _)) (ss_one (st_asg (PFr.frz (fr_lst (av_cons (ev_callK0 (ok_by_marks G) p_by_marks_len (hr.mono (by decide)) G.g_by_marks G.F_by_marks.kp (kwB_of (n := 0) (ks := ["machines", "delay", "asks"]) (ix := [2, 1, 0]) G.F_by_marks fun _ _ _ _ _ _ us ws h1 h2 => match us, ws, h1, h2 with | [], [_, _, _], _, _ => rfl) (by first | exact tk | exact L2.takes0) (kv_cons (ev_var 2) (kv_cons (ev_var 3) (kv_cons (ev_var 5) kv_nil)))) (av_cons (ev_callK0 (ok_by_leader G) p_by_leader_len (hr.mono (by decide)) G.g_by_leader G.F_by_leader.kp (kwB_of (n := 0) (ks := ["machines", "delay", "asks"]) (ix := [2, 1, 0]) G.F_by_leader fun _ _ _ _ _ _ us ws h1 h2 => match us, ws, h1, h2 with | [], [_, _, _], _, _ => rfl) (by first | exact tk | exact L2.takes0) (kv_cons (ev_var 2) (kv_cons (ev_var 3) (kv_cons (ev_var 5) kv_nil)))) av_nil)))) (tg_name 6 sc__law_far_right.nd rfl (by first | exact .inl rfl | exact .inr rfl)))) (ss_nil)) (ss_cons ((by first | exact st_setLc (own := [("time", 9), ("m", 10)]) rfl sc__law_far_right.nd rfl rfl rfl (it_seq (ev_var 5)) (blkOk_by (by kernel_rfl)) (fun _ _ _ _ _ => tg_tup rfl (tgs_cons (tg_name 9 sc__law_far_right.nd rfl (by first | exact .inl rfl | exact .inr rfl)) (tgs_cons (tg_name 10 sc__law_far_right.nd rfl (by first | exact .inl rfl | exact .inr rfl)) tgs_nil))) (fun _ _ _ _ _ => ts_nil) (fun _ _ _ _ _ => ev_tup (av_cons (ev_bin op_addA opS_add (bv_var 9) (PEv.b (ev_bin op_mulA opS_mul (PEv.b (ev_int)) (bv_var 3)))) (av_cons (ev_bin op_addA opS_add (bv_var 9) (bv_if (tv_cmp op_gt opB_gt (bv_var 10) (PEv.b (ev_int)) (by first | rfl | exact nomark _)) (PEv.b (ev_bin op_mulA opS_mul (PEv.b (ev_int)) (bv_var 3))) (PEv.b (ev_int)))) av_nil))) (by decide) | exact st_asg (PFr.frzL (fr_lc (own := [("time", 9), ("m", 10)]) rfl sc__law_far_right.nd (it_seq (ev_var 5)) (blkOk_by (by kernel_rfl)) (fun _ _ _ _ _ => tg_tup rfl (tgs_cons (tg_name 9 sc__law_far_right.nd rfl (by first | exact .inl rfl | exact .inr rfl)) (tgs_cons (tg_name 10 sc__law_far_right.nd rfl (by first | exact .inl rfl | exact .inr rfl)) tgs_nil))) (fun _ _ _ _ _ => ts_nil) (fun _ _ _ _ _ => ev_tup (av_cons (ev_bin op_addA opS_add (bv_var 9) (PEv.b (ev_bin op_mulA opS_mul (PEv.b (ev_int)) (bv_var 3)))) (av_cons (ev_bin op_addA opS_add (bv_var 9) (bv_if (tv_cmp op_gt opB_gt (bv_var 10) (PEv.b (ev_int)) (by first | rfl | exact nomark _)) (PEv.b (ev_bin op_mulA opS_mul (PEv.b (ev_int)) (bv_var 3))) (PEv.b (ev_int)))) av_nil))) (by decide))) (tg_name 7 sc__law_far_right.nd rfl (by first | exact .inl rfl | exact .inr rfl)))) (ss_cons (st_asg (ev_tup (av_cons (ev_t1 call_tuple_of c1_tuple G.b_tuple rfl (bv_var 4)) (av_cons (ev_bin op_mulA opS_mul (PEv.b (ev_bin op_mulA opS_mul (PEv.b (ev_int)) (PEv.b (ev_bin op_subA opS_sub (bv_var 2) (PEv.b (ev_int)))))) (PEv.b (ev_b1 call_lenA c1_len G.b_len rfl (bv_var 4)))) (av_cons (ev_t1 call_tuple_of c1_tuple G.b_tuple rfl (PEv.b (PFr.frz (fr_lc (own := [("a", 12), ("b", 13)]) rfl sc__law_far_right.nd (it_seq (ev_var 7)) (blkOk_by (by kernel_rfl)) (fun _ _ _ _ _ => tg_tup rfl (tgs_cons (tg_name 12 sc__law_far_right.nd rfl (by first | exact .inl rfl | exact .inr rfl)) (tgs_cons (tg_name 13 sc__law_far_right.nd rfl (by first | exact .inl rfl | exact .inr rfl)) tgs_nil))) (fun _ _ _ _ _ => ts_nil) (fun _ _ _ _ _ => ev_var 12) (by decide))))) av_nil)))) (tg_name 8 sc__law_far_right.nd rfl (by first | exact .inl rfl | exact .inr rfl))) (ss_one (st_ret (ev_call (ok__law_same G 6) (p__law_same_len _) (hr.mono (by decide)) G.g__law_same G.F__law_same.kp (G.F__law_same.bindsN fun _ _ _ _ _ _ us hl => match us, hl with | [_, _], _ => rfl) (by first | exact tk | exact L2.takes0) (av_cons (ev_var 6) (av_cons (PFr.frz (fr_lst (av_cons (ev_var 8) (av_cons (ev_tup (av_cons (ev_t1 call_tuple_of c1_tuple G.b_tuple rfl (bv_var 4)) (av_cons (ev_bin op_mulA opS_mul (PEv.b (ev_int)) (PEv.b (ev_b1 call_lenA c1_len G.b_len rfl (PEv.b (PFr.frz (fr_lc (own := [("m", 10)]) rfl sc__law_far_right.nd (it_seq (ev_var 4)) (blkOk_by (by kernel_rfl)) (fun _ _ _ _ _ => tg_name 10 sc__law_far_right.nd rfl (by first | exact .inl rfl | exact .inr rfl)) (fun _ _ _ _ _ => ts_one (tv_cmp op_gt opB_gt (bv_var 10) (PEv.b (ev_int)) (by first | rfl | exact nomark _))) (fun _ _ _ _ _ => ev_var 10) (by decide))))))) (av_cons (ev_t1 call_tuple_of c1_tuple G.b_tuple rfl (PEv.b (PFr.frz (fr_lc (own := [("a", 12), ("b", 13)]) rfl sc__law_far_right.nd (it_seq (ev_var 7)) (blkOk_by (by kernel_rfl)) (fun _ _ _ _ _ => tg_tup rfl (tgs_cons (tg_name 12 sc__law_far_right.nd rfl (by first | exact .inl rfl | exact .inr rfl)) (tgs_cons (tg_name 13 sc__law_far_right.nd rfl (by first | exact .inl rfl | exact .inr rfl)) tgs_nil))) (fun _ _ _ _ _ => ts_nil) (fun _ _ _ _ _ => ev_var 13) (by decide))))) av_nil)))) av_nil)))) av_nil)))))))))))
theorem ok_law (G : G K mg) : FnOk P w K mg base (L2.CX P w) 9 G.a_law G.fd_law ["script"] (spOf K mg 1 p_law) := by
  refine fn_ok (k := 8) (n := 6) (np := 1) (m := b_law) G.F_law sc_law rfl rfl ?_
  refine fun cdv A outer s H E hr => fun tk po => ?_
  have hu0 : (A.deeper (envOfC "law" (defScope (top 38)) s.heap.objs.size G.a_law cdv)).units < cLine := by have := hr.un; omega
  have hu1 : (A.deeper (envOfC "law" (defScope (top 38)) s.heap.objs.size G.a_law cdv)).units + 1 < cLine := by have := hr.un; omega
  have hu64 : (A.deeper (envOfC "law" (defScope (top 38)) s.heap.objs.size G.a_law cdv)).units + 64 < cLine := by have := hr.un; omega
  have hu65 : (A.deeper (envOfC "law" (defScope (top 38)) s.heap.objs.size G.a_law cdv)).units + 65 < cLine := by have := hr.un; omega
  unfold b_law l_law_1 l_law_0
  exact ss_cons (st_for po rfl (it_rg1 rfl G.b_range (av_cons (ev_b2 (call_max2 rfl) c2_max G.b_max rfl (PEv.b (ev_int)) (PEv.b (ev_b2 (call_min2 rfl) c2_min G.b_min rfl (PEv.b (ev_int)) (PEv.b (ev_b1 call_lenA c1_len G.b_len rfl (bv_var 0)))))) av_nil)) (tg_name 1 sc_law.nd rfl (by first | exact .inl rfl | exact .inr rfl)) (ss_cons (st_asg (ev_call (ok__law_box G) p__law_box_len (hr.mono (by decide)) G.g__law_box G.F__law_box.kp (G.F__law_box.bindsN fun _ _ _ _ _ _ us hl => match us, hl with | [_], _ => rfl) (by first | exact tk | exact L2.takes0) (av_cons (ev_call (ok__law_cell G) p__law_cell_len (hr.mono (by decide)) G.g__law_cell G.F__law_cell.kp (G.F__law_cell.bindsN fun _ _ _ _ _ _ us hl => match us, hl with | [_, _], _ => rfl) (by first | exact tk | exact L2.takes0) (av_cons (ev_var 0) (av_cons (ev_var 1) av_nil))) av_nil)) (tg_name 2 sc_law.nd rfl (by first | exact .inl rfl | exact .inr rfl))) (ss_cons (st_asg (ev_call (ok__law_take G) p__law_take_len (hr.mono (by decide)) G.g__law_take G.F__law_take.kp (G.F__law_take.bindsN fun _ _ _ _ _ _ us hl => match us, hl with | [_, _], _ => rfl) (by first | exact tk | exact L2.takes0) (av_cons (ev_var 2) (av_cons (ev_int) av_nil))) (tg_name 3 sc_law.nd rfl (by first | exact .inl rfl | exact .inr rfl))) (ss_one (st_for po rfl (it_rg1 rfl G.b_range (av_cons (ev_int) av_nil)) (tg_name 4 sc_law.nd rfl (by first | exact .inl rfl | exact .inr rfl)) (ss_cons (st_asg (ev_bin op_addA opS_add (PEv.b (ev_int)) (PEv.b (ev_call (ok__law_take G) p__law_take_len (hr.mono (by decide)) G.g__law_take G.F__law_take.kp (G.F__law_take.bindsN fun _ _ _ _ _ _ us hl => match us, hl with | [_, _], _ => rfl) (by first | exact tk | exact L2.takes0) (av_cons (ev_var 2) (av_cons (ev_int) av_nil))))) (tg_name 5 sc_law.nd rfl (by first | exact .inl rfl | exact .inr rfl))) (ss_one (st_if (PWv.t (wv_or (tv_not (tv_val (ev_call (ok__law_asks_right G) p__law_asks_right_len (hr.mono (by decide)) G.g__law_asks_right G.F__law_asks_right.kp (G.F__law_asks_right.bindsN fun _ _ _ _ _ _ us hl => match us, hl with | [_, _, _], _ => rfl) (by first | exact tk | exact L2.takes0) (av_cons (ev_var 2) (av_cons (ev_bin op_mod opS_mod (PEv.b (ev_t1 call_int1 c1_int G.b_int rfl (PEv.b (ev_bin op_addA opS_add (bv_var 3) (bv_var 4))))) (PEv.b (ev_int))) (av_cons (ev_var 5) av_nil)))))) (wv_or1 (tv_not (tv_val (ev_call (ok__law_far_right G) p__law_far_right_len (hr.mono (by decide)) G.g__law_far_right G.F__law_far_right.kp (G.F__law_far_right.bindsN fun _ _ _ _ _ _ us hl => match us, hl with | [_, _, _], _ => rfl) (by first | exact tk | exact L2.takes0) (av_cons (ev_var 2) (av_cons (ev_var 3) (av_cons (ev_var 5) av_nil))))))))) (ss_one (st_ret (ev_bl))) (ss_nil))))))))) (ss_one (st_ret (ev_bl)))
end
end K90

namespace K90
open PySem QB L2
abbrev Ask := Int × Int
def askD (a : Ask) : D := .tup [.int a.1, .int a.2]
def asksD (as : List Ask) : D := .tup (as.map askD)
def ltA (a b : Ask) : Bool := decide (a.1 < b.1 ∨ a.1 = b.1 ∧ a.2 < b.2)
structure VA (as : List Ask) (n : Int) : Prop where
  ne : as ≠ []
  len : as.length ≤ 5
  srt : as.Pairwise fun a b => ltA a b = true
  nd : (as.map (·.2)).Nodup
  tm : ∀ a ∈ as, 0 ≤ a.1 ∧ a.1 ≤ 20
  mc : ∀ a ∈ as, 0 ≤ a.2 ∧ a.2 < n
  n2 : 2 ≤ n
  n5 : n ≤ 5
theorem is_integer_ok {v : Int} {s : Store} : p_is_integer [.int v] s = .ok (.bl true) s := by
  simp [p_is_integer, b_is_integer, startE, isTy]
theorem is_between_ok {v a b : Int} {s : Store} : p_is_between [.int v, .int a, .int b] s = .ok (.bl (decide (a ≤ v ∧ v ≤ b))) s := by
  simp [p_is_between, b_is_between, startE, is_integer_ok]
  by_cases h : a ≤ v <;> simp [h]
theorem is_tuple_of_ok {l : List D} {n : Int} {s : Store} : p_is_tuple_of [.tup l, .int n] s = .ok (.bl (decide ((l.length : Int) = n))) s := by
  simp [p_is_tuple_of, b_is_tuple_of, startE, isTy]
@[simp] theorem rd_ask {a : Ask} {e : PEnv} {s : Store} : rd (.v (askD a)) e s = .ok (askD a) e s := rfl
@[simp] theorem lt_ask {a b : Ask} : ltD (askD a) (askD b) = some (.bl (ltA a b)) := by
  show some (D.bl (HT.lexLt [a.1, a.2] [b.1, b.2])) = _
  congr 2
  unfold ltA
  rw [HT.lexLt_cons, HT.lexLt_cons, HT.lexLt_nil_nil]
  by_cases h : a.1 = b.1
  · rw [if_pos h]
    by_cases h2 : a.2 = b.2
    · rw [if_pos h2]; simp [h, h2]
    · rw [if_neg h2]; simp [h]
  · rw [if_neg h]; simp [h]
theorem is_ask_ok {a : Ask} {s : Store} (h : 0 ≤ a.1 ∧ a.1 ≤ 20) (h2 : 0 ≤ a.2 ∧ a.2 ≤ 4) : p_is_ask [askD a] s = .ok (.bl true) s := by
  simp [p_is_ask, b_is_ask, startE, askD, is_tuple_of_ok, is_between_ok, h, h2]
theorem cut_from1 {ds : List D} : cutL ds (some 1) none = ds.drop 1 := by
  unfold cutL
  cases ds with
  | nil => simp [HT.sIx]
  | cons d ds => simp [HT.sIx]
theorem zip_asks (as : List Ask) : zipL (as.map askD) (as.map askD).tail = (as.zip as.tail).map fun p => .tup [askD p.1, askD p.2] := by
  unfold zipL
  rw [← List.map_tail, List.zipWith_map, List.zip, List.map_zipWith]
theorem zip_adj {R : Ask → Ask → Bool} : ∀ {as : List Ask}, as.Pairwise (fun a b => R a b = true) → (as.zip as.tail).all (fun p => R p.1 p.2) = true
  | [], _ => rfl
  | [a], _ => rfl
  | a :: b :: as, h => by
    have h1 := List.pairwise_cons.mp h
    have ih := zip_adj h1.2
    simp only [List.tail_cons, List.zip_cons_cons, List.all_cons] at ih ⊢
    rw [h1.1 b (by simp), Bool.true_and]
    exact ih
theorem is_rising_ok {as : List Ask} {s : Store} (h : as.Pairwise fun a b => ltA a b = true) (hl : as.length ≤ 5) : p_is_rising [asksD as] s = .ok (.bl true) s := by
  simp [p_is_rising, b_is_rising, startE, asksD, slD, cut_from1]
  rw [runComp_all (fe := fun p => [.val (.tup (as.map askD)), .val (askD p.1), .val (askD p.2)]) (y := fun p => .bl (ltA p.1 p.2)) (g := fun p => .tup [askD p.1, askD p.2]) (as.zip as.tail) (by simp [zip_asks]) rfl]
  · simp [all_map, zip_adj h]
  · intro p hp
    simp
  · simp; omega
theorem map_snd {as : List Ask} : (as.map fun a => D.int a.2) = (as.map (·.2)).map D.int := by rw [List.map_map]; rfl
theorem are_unlike_ok {ns : List Int} {s : Store} (h : ns.Nodup) (hl : ns.length ≤ 5) : p_are_unlike [.lst (ns.map D.int)] s = .ok (.bl true) s := by
  have e : lenSetD (.lst (ns.map D.int)) = some (.int ns.length) := by
    show ((intsOf (ns.map D.int)).bind _) = _
    rw [intsOf_ints]
    show (if (decide ns.Nodup && decide (ns.length ≤ 4000)) = true then _ else _) = _
    rw [if_pos]
    simp [h]; omega
  simp [p_are_unlike, b_are_unlike, startE, e]
theorem are_asks_ok {as : List Ask} {n : Int} {s : Store} (h : VA as n) : p_are_asks [asksD as] s = .ok (.bl true) s := by
  have hr := is_rising_ok (s := s) h.srt h.len
  have hu := are_unlike_ok (s := s) h.nd (by rw [List.length_map]; exact h.len)
  have hl : 1 ≤ as.length := by
    cases as with
    | nil => exact absurd rfl h.ne
    | cons a t => simp
  have hl5 := h.len
  have hl1 : (1 : Int) ≤ as.length := by omega
  have hl2 : (as.length : Int) ≤ 5 := by omega
  simp only [asksD] at hr
  simp [p_are_asks, b_are_asks, startE, isTy, asksD, hl1, hl2]
  rw [runComp_all (fe := fun a => [.val (.tup (as.map askD)), .no, .no, .val (askD a)]) (y := fun a => .bl true) as rfl rfl]
  · simp [all_map, hr]
    rw [runComp_all (fe := fun a => [.val (.tup (as.map askD)), .val (.int a.1), .val (.int a.2), .no]) (y := fun a => .int a.2) as rfl rfl]
    · rw [← map_snd] at hu; simp [hu]
    · intro a ha
      simp [askD]
    · omega
  · intro a ha
    have := h.tm a ha; have := h.mc a ha; have := h.n5
    simp [is_ask_ok (a := a) (s := s) (by omega) (by omega)]
  · omega
theorem check_asked_ok {as : List Ask} {d n : Int} {s : Store} (h : VA as n) (h1 : 1 ≤ d) (h2 : d ≤ 5) : p_check_asked [asksD as, .int d, .int n] s = .ok .non s := by
  have ha := are_asks_ok (s := s) h
  have hl := h.len
  have hm := h.n2
  have hn5 := h.n5
  have mx : maxL (2 :: as.map fun a => a.2 + 1) ≤ n := by
    obtain ⟨h3, h4⟩ := maxL_mem (ns := 2 :: as.map fun a => a.2 + 1) (by simp)
    rcases List.mem_cons.mp h3 with e | e
    · rw [e]; exact hm
    · obtain ⟨a, ha, e⟩ := List.mem_map.mp e
      have := h.mc a ha
      omega
  have em : maxD (.lst (.int 2 :: as.map fun a => .int (a.2 + 1))) = some (.int (maxL (2 :: as.map fun a => a.2 + 1))) := by
    have e : (D.int 2 :: as.map fun a => D.int (a.2 + 1)) = (2 :: as.map fun a => a.2 + 1).map D.int := by simp
    rw [e, r_max_ints (by simp)]
  simp only [asksD] at ha
  simp [p_check_asked, b_check_asked, startE, asksD, ha, is_between_ok, h1, h2]
  rw [runComp_all (fe := fun a => [.val (.tup (as.map askD)), .val (.int d), .val (.int n), .val (.int a.1), .val (.int a.2)]) (y := fun a => .int (a.2 + 1)) as rfl rfl]
  · have ez : szOk (1 + as.length) = true := by unfold szOk; exact Nat.ble_eq_true_of_le (by omega)
    have ea : addD (.lst [.int 2]) (.lst (as.map fun a => .int (a.2 + 1))) = some (.lst (.int 2 :: as.map fun a => .int (a.2 + 1))) := by
      show (if szOk (1 + (as.map _).length) = true then _ else _) = _
      rw [List.length_map, if_pos ez]; rfl
    simp [ea, em, is_between_ok, mx, hn5]
  · intro a ha
    simp [askD]
  · omega
/-! ### by_marks -/
theorem answered_ok {a : Ask} {o d : Int} {k : Nat} {s : Store} {lv : List (Int × Int)} (h : s[k]? = some (.dct (lvD lv))) : p_answered [askD a, .int o, .int d, .ref k] s = .ok (.int (maxL [a.1 + d, (getL lv o).getD 0] + d)) s := by
  have e2 : ((getL lv o).map D.int).getD (.int 0) = .int ((getL lv o).getD 0) := by cases getL lv o <;> rfl
  have em : maxD (.lst [.int (a.1 + d), .int ((getL lv o).getD 0)]) = some (.int (maxL [a.1 + d, (getL lv o).getD 0])) := r_max_ints (ns := [_, _]) (by simp)
  simp [p_answered, b_answered, startE, askD, h, valD_lv, e2, em]
end K90

namespace K90
open PySem QB L2
/-! ### the times by marks -/
def nextM (d : Int) (last : Option Int) (a : Ask) : Int := match last with
  | none => a.1 + 2 * d
  | some l => if l + 2 + d > a.1 + 2 * d then l + 2 + d else a.1 + 2 * d
def marksT (d : Int) : Option Int → List Ask → List Int
  | _, [] => []
  | last, a :: r => nextM d last a :: marksT d (some (nextM d last a)) r
def oth (n m : Int) : List Int := ((List.range n.toNat).filter fun i => !decide ((0 : Int) + (i : Nat) = m)).map fun i => (0 : Int) + (i : Nat)
theorem oth_mem {n m o : Int} : o ∈ oth n m ↔ 0 ≤ o ∧ o < n ∧ o ≠ m := by
  unfold oth
  constructor
  · intro h
    obtain ⟨i, hi, rfl⟩ := List.mem_map.mp h
    obtain ⟨h1, h2⟩ := List.mem_filter.mp hi
    have := List.mem_range.mp h1
    simp at h2
    omega
  · rintro ⟨h1, h2, h3⟩
    refine List.mem_map.mpr ⟨o.toNat, List.mem_filter.mpr ⟨List.mem_range.mpr (by omega), ?_⟩, by omega⟩
    simp; omega
theorem maxL_eq {ns : List Int} {m : Int} (h : m ∈ ns) (h2 : ∀ y ∈ ns, y ≤ m) : maxL ns = m := by
  have hn : ns ≠ [] := fun e => by rw [e] at h; cases h
  obtain ⟨a, b⟩ := maxL_mem hn
  have := h2 _ a
  have := b _ h
  omega
/-- what the dict of the leaving times knows -/
structure LV (lv : List (Int × Int)) (last : Option Int) (n : Int) : Prop where
  non : last = none → lv = []
  le : ∀ l, last = some l → ∀ o v, getL lv o = some v → v ≤ l + 2
  at_ : ∀ l, last = some l → 0 ≤ l ∧ ∃ o, getL lv o = some (l + 2) ∧ 0 ≤ o ∧ o < n
def answ (lv : List (Int × Int)) (a : Ask) (d : Int) (o : Int) : Int := maxL [a.1 + d, (getL lv o).getD 0] + d
theorem maxL2 {x y : Int} : maxL [x, y] = if x < y then y else x := rfl
theorem answ_max {lv : List (Int × Int)} {last : Option Int} {n d : Int} {a : Ask} (h : LV lv last n) (h0 : 0 ≤ a.1) (hd : 1 ≤ d) (hn : 2 ≤ n) (hm : a.2 ∉ lv.map (·.1)) : maxL ((oth n a.2).map (answ lv a d)) = nextM d last a := by
  cases last with
  | none =>
    have := h.non rfl
    subst this
    have e : ∀ o, answ [] a d o = a.1 + 2 * d := fun o => by
      show maxL [a.1 + d, 0] + d = _
      rw [maxL2, if_neg (by omega)]; omega
    refine maxL_eq (List.mem_map.mpr ⟨if a.2 = 0 then 1 else 0, oth_mem.mpr ?_, e _⟩) fun y hy => ?_
    · split <;> omega
    · obtain ⟨o, _, rfl⟩ := List.mem_map.mp hy
      rw [e]; show a.1 + 2 * d ≤ a.1 + 2 * d; omega
  | some l =>
    obtain ⟨hl, o, ho, h1, h2⟩ := h.at_ l rfl
    have hle := h.le l rfl
    have hne : o ≠ a.2 := fun e => hm (by rw [← e]; exact getL_some_mem ho)
    have ev : ∀ o, answ lv a d o ≤ nextM d (some l) a := fun o => by
      unfold answ nextM
      rw [maxL2]
      cases e : getL lv o with
      | none => simp only [Option.getD_none]; split <;> split <;> omega
      | some v => have := hle o v e; simp only [Option.getD_some]; split <;> split <;> omega
    refine maxL_eq (List.mem_map.mpr ⟨o, oth_mem.mpr ⟨h1, h2, hne⟩, ?_⟩) fun y hy => ?_
    · unfold answ nextM
      rw [maxL2, ho]
      simp only [Option.getD_some]
      split <;> split <;> omega
    · obtain ⟨o, _, rfl⟩ := List.mem_map.mp hy
      exact ev o
theorem LV.next {lv : List (Int × Int)} {last : Option Int} {n d : Int} {a : Ask} (h : LV lv last n) (h0 : 0 ≤ a.1) (hd : 1 ≤ d) (hm : a.2 ∉ lv.map (·.1)) (h1 : 0 ≤ a.2) (h2 : a.2 < n) : LV (lv ++ [(a.2, nextM d last a + 2)]) (some (nextM d last a)) n := by
  have hge : ∀ l, last = some l → l + 2 ≤ nextM d last a := fun l e => by
    rw [e]; unfold nextM; dsimp only; split <;> omega
  have h00 : 0 ≤ nextM d last a := by
    cases last with
    | none => show 0 ≤ a.1 + 2 * d; omega
    | some l => have := hge l rfl; have := (h.at_ l rfl).1; omega
  refine ⟨(fun z => by cases z), fun l e o v hv => ?_, fun l e => ?_⟩
  · cases e
    rw [getL_app hm] at hv
    split at hv
    · cases hv; omega
    · cases hl : last with
      | none => rw [h.non hl] at hv; cases hv
      | some l => have := h.le l hl o v hv; have := hge l hl; rw [hl] at this; omega
  · cases e
    exact ⟨h00, a.2, by rw [getL_app hm, if_pos rfl], h1, h2⟩
section
variable {as : List Ask} {d n : Int} {s : Store}
theorem rngL_map {a : Int} {k : Nat} : rngL a k = (List.range k).map fun i => D.int (a + (i : Nat)) := rfl
theorem marks_turn {a : Ask} {x6 : Option D} {lv : List (Int × Int)} {ts : List Int} {last : Option Int} (hd : 1 ≤ d) (hn : 2 ≤ n) (hn5 : n ≤ 5) (h : LV lv last n) (h0 : 0 ≤ a.1) (hm : a.2 ∉ lv.map (·.1)) (hts : ts.length ≤ 10) (hlv : lv.length ≤ 10)
    {x5 : Option D} : (setM 5 (askD a) [.val (asksD as), .val (.int d), .val (.int n), .val (.ref s.length), .val (.ref (s.length + 1)), sl x5, sl x6, .no, .no, .no] (s ++ [.dct (lvD lv), .lst (ts.map D.int)])).toS (fun _ => l_by_marks_0) =
    .nx [.val (asksD as), .val (.int d), .val (.int n), .val (.ref s.length), .val (.ref (s.length + 1)), sl (some (askD a)), sl (some (.lst ((oth n a.2).map D.int))), .no, .no, .no] (s ++ [.dct (lvD (lv ++ [(a.2, nextM d last a + 2)])), .lst ((ts ++ [nextM d last a]).map D.int)]) := by
  have c1 : -4611686018427387904 < n := by omega
  have c2 : n < 4611686018427387904 := by omega
  have ol : (oth n a.2).length ≤ 10 := by
    unfold oth
    rw [List.length_map]
    have := List.length_filter_le (fun i : Nat => !decide ((0 : Int) + (i : Nat) = a.2)) (List.range n.toNat)
    rw [List.length_range] at this
    omega
  simp [l_by_marks_0, asksD, c1, c2]
  rw [runComp_map (fe := fun i : Nat => [.val (.tup (as.map askD)), .val (.int d), .val (.int n), .val (.ref s.length), .val (.ref (s.length + 1)), .val (askD a), sl x6, .val (.int (0 + (i : Nat))), .no, .no]) (b := fun i => !decide ((0 : Int) + (i : Nat) = a.2)) (y := fun i => .int (0 + (i : Nat))) (g := fun i : Nat => D.int (0 + (i : Nat))) (List.range n.toNat) rfl rfl]
  · have eo : ((List.range n.toNat).filter fun i : Nat => !decide ((0 : Int) + (i : Nat) = a.2)).map (fun i => D.int (0 + (i : Nat))) = (oth n a.2).map D.int := by unfold oth; rw [List.map_map]; rfl
    rw [eo]
    simp
    rw [runComp_all (g := D.int) (fe := fun o => [.val (.tup (as.map askD)), .val (.int d), .val (.int n), .val (.ref s.length), .val (.ref (s.length + 1)), .val (askD a), .val (.lst ((oth n a.2).map D.int)), .no, .no, .val (.int o)]) (y := fun o => .int (answ lv a d o)) (oth n a.2) rfl rfl]
    · have hne : (oth n a.2).map (answ lv a d) ≠ [] := by
        have : (if a.2 = 0 then (1 : Int) else 0) ∈ oth n a.2 := oth_mem.mpr (by split <;> omega)
        intro e
        rw [List.map_eq_nil_iff] at e
        rw [e] at this; cases this
      have em : maxD (.lst ((oth n a.2).map fun o => .int (answ lv a d o))) = some (.int (nextM d last a)) := by
        rw [ints_map, r_max_ints hne, answ_max h h0 hd hn hm]
      have z1 : szOk (ts.length + 1) = true := by unfold szOk; exact Nat.ble_eq_true_of_le (by omega)
      have z2 : szOk ((lvD lv).length + 1) = true := by unfold szOk lvD; rw [List.length_map]; exact Nat.ble_eq_true_of_le (by omega)
      have eat : atI (ts.map D.int ++ [D.int (nextM d last a)]) (-1) = some (D.int (nextM d last a)) := atI_last
      simp [em, z1, eat, askD, putC, z2, putD_new hm, sl]
    · intro o ho
      have := answered_ok (a := a) (o := o) (d := d) (k := s.length) (s := s ++ [.dct (lvD lv), .lst (ts.map D.int)]) (lv := lv) (by simp)
      simp [this, answ]
    · omega
  · intro i hi
    simp [askD]
  · rw [List.length_range]; omega
theorem marks_loop (hd : 1 ≤ d) (hn : 2 ≤ n) (hn5 : n ≤ 5) : ∀ (r : List Ask) (lv : List (Int × Int)) (ts : List Int) (last : Option Int) (x5 x6 : Option D), LV lv last n → (∀ a ∈ r, 0 ≤ a.1 ∧ 0 ≤ a.2 ∧ a.2 < n) → (r.map (·.2)).Nodup → (∀ a ∈ r, a.2 ∉ lv.map (·.1)) →
    ts.length + r.length ≤ 10 → lv.length + r.length ≤ 10 → ∃ x5' x6' lv', forL (setM 5) l_by_marks_0 (r.map askD) [.val (asksD as), .val (.int d), .val (.int n), .val (.ref s.length), .val (.ref (s.length + 1)), sl x5, sl x6, .no, .no, .no] (s ++ [.dct (lvD lv), .lst (ts.map D.int)]) =
      .nx [.val (asksD as), .val (.int d), .val (.int n), .val (.ref s.length), .val (.ref (s.length + 1)), sl x5', sl x6', .no, .no, .no] (s ++ [.dct (lvD lv'), .lst ((ts ++ marksT d last r).map D.int)])
  | [], lv, ts, last, x5, x6, _, _, _, _, _, _ => ⟨x5, x6, lv, by simp [marksT]⟩
  | a :: r, lv, ts, last, x5, x6, h, hr, hnd, hlv, h1, h2 => by
    have ha := hr a List.mem_cons_self
    have hm := hlv a List.mem_cons_self
    simp only [List.length_cons] at h1 h2
    have hnd' := List.nodup_cons.mp hnd
    obtain ⟨x5', x6', lv', e⟩ := marks_loop hd hn hn5 r (lv ++ [(a.2, nextM d last a + 2)]) (ts ++ [nextM d last a]) (some (nextM d last a)) (some (askD a)) (some (.lst ((oth n a.2).map D.int))) (h.next ha.1 hd hm ha.2.1 ha.2.2) (fun b hb => hr b (List.mem_cons_of_mem _ hb)) hnd'.2
      (fun b hb hc => by
        rw [List.map_append, List.mem_append] at hc
        rcases hc with hc | hc
        · exact hlv b (List.mem_cons_of_mem _ hb) hc
        · simp at hc
          exact hnd'.1 (List.mem_map.mpr ⟨b, hb, hc⟩)) (by simp; omega) (by simp; omega)
    refine ⟨x5', x6', lv', ?_⟩
    rw [List.map_cons, r_forL_cons, marks_turn hd hn hn5 h ha.1 hm (by omega) (by omega), turn_nx, e]
    simp [marksT]
def marksD (as : List Ask) (n : Int) (ts : List Int) : D := .tup [.tup ((as.map (·.2)).map D.int), .int (2 * (n - 1) * as.length), .tup (ts.map D.int)]
theorem by_marks_ok (h : VA as n) (hd : 1 ≤ d) (hd5 : d ≤ 5) : ∃ t, p_by_marks [asksD as, .int d, .int n] s = .ok (marksD as n (marksT d none as)) (s ++ t) := by
  have hl := h.len
  have hn := h.n2
  have hn5 := h.n5
  obtain ⟨x5', x6', lv', e⟩ := marks_loop (as := as) (s := s) hd hn hn5 as [] [] none none none ⟨fun _ => rfl, (fun l z => by cases z), fun l z => by cases z⟩ (fun a ha => ⟨(h.tm a ha).1, (h.mc a ha).1, (h.mc a ha).2⟩) h.nd (fun a _ => by simp) (by simp; omega) (by simp; omega)
  refine ⟨[.dct (lvD lv'), .lst ((marksT d none as).map D.int)], ?_⟩
  have hc := check_asked_ok (s := s) h hd hd5
  have h1 : -18446744073709551616 < (as.length : Int) := by omega
  have h2 : (as.length : Int) < 18446744073709551616 := by omega
  have h3 : -18446744073709551616 < n - 1 := by omega
  have h4 : n - 1 < 18446744073709551616 := by omega
  simp only [asksD] at hc e
  simp only [List.nil_append, lvD, List.map_nil, show sl none = Slot.no from rfl] at e
  simp [p_by_marks, b_by_marks, startE, asksD, hc, e]
  rw [runComp_all (g := askD) (fe := fun a => [.val (.tup (as.map askD)), .val (.int d), .val (.int n), .val (.ref s.length), .val (.ref (s.length + 1)), sl x5', sl x6', .val (.int a.2), .val (.int a.1), .no]) (y := fun a => .int a.2) as rfl rfl]
  · simp [marksD, h1, h2, lvD]
  · intro a ha
    simp [askD]
  · omega
end
end K90

namespace K90
open PySem QB L2
def optD : Option Int → D
  | none => .non
  | some i => .int i
section
variable {as : List Ask} {d n : Int} {s : Store}
theorem lmarks_turn {a : Ask} {x5 x6 x7 : Option D} {ts : List Int} {last : Option Int} (hd : 1 ≤ d) (hd5 : d ≤ 5) (hts : ts.length ≤ 10) :
    (tupT 2 (consT (setM 5) (consT (setM 6) nilT)) (askD a) [.val (asksD as), .val (.int d), .val (.int n), .val (.ref s.length), .val (optD last), sl x5, sl x6, sl x7] (s ++ [.lst (ts.map D.int)])).toS (fun _ => l__law_marks_0) =
    .nx [.val (asksD as), .val (.int d), .val (.int n), .val (.ref s.length), .val (optD (some (nextM d last a))), sl (some (.int a.1)), sl (some (.int a.2)), sl (some (.int (nextM d last a)))] (s ++ [.lst ((ts ++ [nextM d last a]).map D.int)]) := by
  have z1 : szOk (ts.length + 1) = true := by unfold szOk; exact Nat.ble_eq_true_of_le (by omega)
  cases last with
  | none => simp [l__law_marks_0, askD, asksD, optD, z1, nextM, sl]
  | some l => simp [l__law_marks_0, askD, asksD, optD, z1, nextM, sl]
theorem lmarks_loop (hd : 1 ≤ d) (hd5 : d ≤ 5) : ∀ (r : List Ask) (ts : List Int) (last : Option Int) (x5 x6 x7 : Option D), ts.length + r.length ≤ 10 →
    ∃ y x5' x6' x7', forL (tupT 2 (consT (setM 5) (consT (setM 6) nilT))) l__law_marks_0 (r.map askD) [.val (asksD as), .val (.int d), .val (.int n), .val (.ref s.length), .val (optD last), sl x5, sl x6, sl x7] (s ++ [.lst (ts.map D.int)]) =
      .nx [.val (asksD as), .val (.int d), .val (.int n), .val (.ref s.length), .val y, sl x5', sl x6', sl x7'] (s ++ [.lst ((ts ++ marksT d last r).map D.int)])
  | [], ts, last, x5, x6, x7, _ => ⟨_, x5, x6, x7, by simp [marksT]; rfl⟩
  | a :: r, ts, last, x5, x6, x7, h1 => by
    simp only [List.length_cons] at h1
    obtain ⟨y, x5', x6', x7', e⟩ := lmarks_loop hd hd5 r (ts ++ [nextM d last a]) (some (nextM d last a)) (some (.int a.1)) (some (.int a.2)) (some (.int (nextM d last a))) (by simp; omega)
    refine ⟨y, x5', x6', x7', ?_⟩
    rw [List.map_cons, r_forL_cons, lmarks_turn hd hd5 (by omega), turn_nx, e]
    simp [marksT]
theorem law_marks_ok (h : VA as n) (hd : 1 ≤ d) (hd5 : d ≤ 5) : ∃ t, p__law_marks [asksD as, .int d, .int n] s = .ok (marksD as n (marksT d none as)) (s ++ t) := by
  have hl := h.len
  have hn := h.n2
  have hn5 := h.n5
  obtain ⟨y, x5', x6', x7', e⟩ := lmarks_loop (as := as) (n := n) (s := s) hd hd5 as [] none none none none (by simp; omega)
  refine ⟨[.lst ((marksT d none as).map D.int)], ?_⟩
  have h1 : -18446744073709551616 < (as.length : Int) := by omega
  have h2 : (as.length : Int) < 18446744073709551616 := by omega
  simp only [asksD, optD, List.nil_append, List.map_nil, show sl none = Slot.no from rfl] at e
  simp [p__law_marks, b__law_marks, startE, asksD, e]
  rw [runComp_all (g := askD) (fe := fun a => [.val (.tup (as.map askD)), .val (.int d), .val (.int n), .val (.ref s.length), .val y, .val (.int a.1), .val (.int a.2), sl x7']) (y := fun a => .int a.2) as rfl rfl]
  · simp [marksD, h1, h2]
  · intro a ha
    simp [askD]
  · omega
end
end K90

namespace K90
open PySem QB L2
def far (d m : Int) : Int := if m = 0 then 0 else d
def leA (a b : Ask) : Bool := leS (askD a) (askD b)
def rowsL (d : Int) (as : List Ask) : List Ask := as.map fun a => (a.1 + far d a.2, a.2)
def sortL (d : Int) (as : List Ask) : List Ask := (rowsL d as).mergeSort leA
theorem sort_asks (l : List Ask) : (l.map askD).mergeSort leS = (l.mergeSort leA).map askD := by
  refine (List.map_mergeSort (f := askD) (r := leA) (s := leS) ?_).symm
  intro a _ b _; rfl
theorem sorted_asks (l : List Ask) : sortedD (.lst (l.map askD)) = some (.lst ((l.mergeSort leA).map askD)) := by
  show (if okSort (l.map askD) = true then some (Cell.lst ((l.map askD).mergeSort leS)) else none) = _
  rw [if_pos, sort_asks]
  unfold okSort
  rw [Bool.or_eq_true]
  right
  rw [List.all_map]
  exact List.all_eq_true.mpr fun a _ => rfl
def leaderT (d : Int) : Int → List Ask → List Int
  | _, [] => []
  | f, a :: r => (maxL [a.1, f] + far d a.2) :: leaderT d (maxL [a.1, f] + far d a.2 + 2 + far d a.2) r
def cnt (as : List Ask) : Nat := (as.filter fun a => !decide (a.2 = 0)).length
def leaderD (as : List Ask) (d : Int) : D := .tup [.tup (((sortL d as).map (·.2)).map D.int), .int (3 * (cnt as : Int)), .tup ((leaderT d 0 (sortL d as)).map D.int)]
theorem sortL_len {d : Int} {as : List Ask} : (sortL d as).length = as.length := by
  unfold sortL rowsL
  rw [List.length_mergeSort, List.length_map]
section
variable {as rows : List Ask} {d n : Int} {s : Store}
theorem leader_turn {a : Ask} {f : Int} {x6 x7 x9 : Option D} {ts : List Int} (hts : ts.length ≤ 10) :
    (tupT 2 (consT (setM 6) (consT (setM 7) nilT)) (askD a) [.val (asksD as), .val (.int d), .val (.int n), .val (.lst (rows.map askD)), .val (.int f), .val (.ref s.length), sl x6, sl x7, .no, sl x9, .no] (s ++ [.lst (ts.map D.int)])).toS (fun _ => l_by_leader_0) =
    .nx [.val (asksD as), .val (.int d), .val (.int n), .val (.lst (rows.map askD)), .val (.int (maxL [a.1, f] + far d a.2 + 2 + far d a.2)), .val (.ref s.length), sl (some (.int a.1)), sl (some (.int a.2)), .no, sl (some (.int (far d a.2))), .no] (s ++ [.lst ((ts ++ [maxL [a.1, f] + far d a.2]).map D.int)]) := by
  have z1 : szOk (ts.length + 1) = true := by unfold szOk; exact Nat.ble_eq_true_of_le (by omega)
  have em : maxD (.lst [.int a.1, .int f]) = some (.int (maxL [a.1, f])) := r_max_ints (ns := [_, _]) (by simp)
  have eat : ∀ x, atI (ts.map D.int ++ [D.int x]) (-1) = some (D.int x) := fun x => atI_last
  by_cases h : a.2 = 0
  · simp [l_by_leader_0, askD, asksD, z1, em, eat, sl, far, h]
  · simp [l_by_leader_0, askD, asksD, z1, em, eat, sl, far, h]
theorem leader_loop : ∀ (r : List Ask) (f : Int) (ts : List Int) (x6 x7 x9 : Option D), ts.length + r.length ≤ 10 →
    ∃ y x6' x7' x9', forL (tupT 2 (consT (setM 6) (consT (setM 7) nilT))) l_by_leader_0 (r.map askD) [.val (asksD as), .val (.int d), .val (.int n), .val (.lst (rows.map askD)), .val (.int f), .val (.ref s.length), sl x6, sl x7, .no, sl x9, .no] (s ++ [.lst (ts.map D.int)]) =
      .nx [.val (asksD as), .val (.int d), .val (.int n), .val (.lst (rows.map askD)), .val y, .val (.ref s.length), sl x6', sl x7', .no, sl x9', .no] (s ++ [.lst ((ts ++ leaderT d f r).map D.int)])
  | [], f, ts, x6, x7, x9, _ => ⟨_, x6, x7, x9, by simp [leaderT]; rfl⟩
  | a :: r, f, ts, x6, x7, x9, h1 => by
    simp only [List.length_cons] at h1
    obtain ⟨y, x6', x7', x9', e⟩ := leader_loop r (maxL [a.1, f] + far d a.2 + 2 + far d a.2) (ts ++ [maxL [a.1, f] + far d a.2]) (some (.int a.1)) (some (.int a.2)) (some (.int (far d a.2))) (by simp; omega)
    refine ⟨y, x6', x7', x9', ?_⟩
    rw [List.map_cons, r_forL_cons, leader_turn (by omega), turn_nx, e]
    simp [leaderT]
theorem by_leader_ok (h : VA as n) (hd : 1 ≤ d) (hd5 : d ≤ 5) : ∃ t, p_by_leader [asksD as, .int d, .int n] s = .ok (leaderD as d) (s ++ t) := by
  have hl := h.len
  have hc := check_asked_ok (s := s) h hd hd5
  obtain ⟨y, x6, x7, x9, e⟩ := leader_loop (as := as) (d := d) (n := n) (rows := sortL d as) (s := s) (sortL d as) 0 [] none none none (by rw [sortL_len]; simp; omega)
  refine ⟨[.lst ((leaderT d 0 (sortL d as)).map D.int)], ?_⟩
  have hsl := sortL_len (d := d) (as := as)
  have es : sortedD (.lst (as.map fun a => .tup [.int (a.1 + far d a.2), .int a.2])) = some (.lst ((sortL d as).map askD)) := by
    have e : (as.map fun a => D.tup [.int (a.1 + far d a.2), .int a.2]) = (rowsL d as).map askD := by unfold rowsL; rw [List.map_map]; rfl
    rw [e, sorted_asks]; rfl
  simp only [asksD, List.nil_append, List.map_nil, show sl none = Slot.no from rfl] at e hc
  simp [p_by_leader, b_by_leader, startE, asksD, hc]
  rw [runComp_all (g := askD) (fe := fun a => [.val (.tup (as.map askD)), .val (.int d), .val (.int n), .no, .no, .no, .no, .val (.int a.2), .no, .no, .val (.int a.1)]) (y := fun a => .tup [.int (a.1 + far d a.2), .int a.2]) as rfl rfl]
  · simp [es, e]
    rw [runComp_map (g := askD) (fe := fun a => [.val (.tup (as.map askD)), .val (.int d), .val (.int n), .val (.lst ((sortL d as).map askD)), .val y, .val (.ref s.length), sl x6, .val (.int a.2), .no, sl x9, .val (.int a.1)]) (b := fun a => !decide (a.2 = 0)) (y := fun a => .int a.2) as rfl rfl]
    · simp
      rw [runComp_all (g := askD) (fe := fun a => [.val (.tup (as.map askD)), .val (.int d), .val (.int n), .val (.lst ((sortL d as).map askD)), .val y, .val (.ref s.length), .val (.int a.1), .val (.int a.2), .val (.lst ((as.filter fun a => !decide (a.2 = 0)).map fun a => .int a.2)), sl x9, .no]) (y := fun a => .int a.2) (sortL d as) rfl rfl]
      · simp [leaderD, cnt]
      · intro a ha
        simp [askD]
      · omega
    · intro a ha
      simp [askD]
    · omega
  · intro a ha
    by_cases h0 : a.2 = 0
    · simp [askD, far, h0]
    · simp [askD, far, h0]
  · omega
end
end K90

namespace K90
open PySem QB L2
section
variable {as rows : List Ask} {d n : Int} {s : Store}
theorem lleader_turn {a : Ask} {f : Int} {x7 x8 x9 x10 : Option D} {os ts : List Int} (h0 : 0 ≤ a.2) (hos : os.length ≤ 10) (hts : ts.length ≤ 10) :
    (tupT 2 (consT (setM 7) (consT (setM 8) nilT)) (askD a) [.val (asksD as), .val (.int d), .val (.int n), .val (.lst (rows.map askD)), .val (.ref s.length), .val (.ref (s.length + 1)), .val (.int f), sl x7, sl x8, sl x9, sl x10, .no] (s ++ [.lst (os.map D.int), .lst (ts.map D.int)])).toS (fun _ => l__law_leader_0) =
    .nx [.val (asksD as), .val (.int d), .val (.int n), .val (.lst (rows.map askD)), .val (.ref s.length), .val (.ref (s.length + 1)), .val (.int (maxL [a.1, f] + far d a.2 + 2 + far d a.2)), sl (some (.int a.1)), sl (some (.int a.2)), sl (some (.int (maxL [a.1, f]))), sl (some (.int (far d a.2))), .no]
      (s ++ [.lst ((os ++ [a.2]).map D.int), .lst ((ts ++ [maxL [a.1, f] + far d a.2]).map D.int)]) := by
  have z1 : szOk (ts.length + 1) = true := by unfold szOk; exact Nat.ble_eq_true_of_le (by omega)
  have z2 : szOk (os.length + 1) = true := by unfold szOk; exact Nat.ble_eq_true_of_le (by omega)
  have em : (if a.1 < f then f else a.1) = maxL [a.1, f] := rfl
  by_cases h : a.2 = 0
  · simp [l__law_leader_0, askD, asksD, z1, z2, em, sl, far, h]
  · have : 0 < a.2 := by omega
    simp [l__law_leader_0, askD, asksD, z1, z2, em, sl, far, h, this]
theorem lleader_loop : ∀ (r : List Ask) (f : Int) (os ts : List Int) (x7 x8 x9 x10 : Option D), (∀ a ∈ r, 0 ≤ a.2) → os.length + r.length ≤ 10 → ts.length + r.length ≤ 10 →
    ∃ y x7' x8' x9' x10', forL (tupT 2 (consT (setM 7) (consT (setM 8) nilT))) l__law_leader_0 (r.map askD) [.val (asksD as), .val (.int d), .val (.int n), .val (.lst (rows.map askD)), .val (.ref s.length), .val (.ref (s.length + 1)), .val (.int f), sl x7, sl x8, sl x9, sl x10, .no] (s ++ [.lst (os.map D.int), .lst (ts.map D.int)]) =
      .nx [.val (asksD as), .val (.int d), .val (.int n), .val (.lst (rows.map askD)), .val (.ref s.length), .val (.ref (s.length + 1)), .val y, sl x7', sl x8', sl x9', sl x10', .no] (s ++ [.lst ((os ++ r.map (·.2)).map D.int), .lst ((ts ++ leaderT d f r).map D.int)])
  | [], f, os, ts, x7, x8, x9, x10, _, _, _ => ⟨_, x7, x8, x9, x10, by simp [leaderT]; rfl⟩
  | a :: r, f, os, ts, x7, x8, x9, x10, h0, h1, h2 => by
    simp only [List.length_cons] at h1 h2
    obtain ⟨y, x7', x8', x9', x10', e⟩ := lleader_loop r (maxL [a.1, f] + far d a.2 + 2 + far d a.2) (os ++ [a.2]) (ts ++ [maxL [a.1, f] + far d a.2]) (some (.int a.1)) (some (.int a.2)) (some (.int (maxL [a.1, f]))) (some (.int (far d a.2))) (fun b hb => h0 b (List.mem_cons_of_mem _ hb)) (by simp; omega) (by simp; omega)
    refine ⟨y, x7', x8', x9', x10', ?_⟩
    rw [List.map_cons, r_forL_cons, lleader_turn (h0 a List.mem_cons_self) (by omega) (by omega), turn_nx, e]
    simp [leaderT]
theorem law_leader_ok (h : VA as n) (hd : 1 ≤ d) (hd5 : d ≤ 5) : ∃ t, p__law_leader [asksD as, .int d, .int n] s = .ok (leaderD as d) (s ++ t) := by
  have hl := h.len
  have hmem : ∀ a ∈ sortL d as, 0 ≤ a.2 := fun a ha => by
    have := List.mem_mergeSort.mp ha
    obtain ⟨b, hb, rfl⟩ := List.mem_map.mp this
    exact (h.mc b hb).1
  obtain ⟨y, x7, x8, x9, x10, e⟩ := lleader_loop (as := as) (d := d) (n := n) (rows := sortL d as) (s := s) (sortL d as) 0 [] [] none none none none hmem (by rw [sortL_len]; simp; omega) (by rw [sortL_len]; simp; omega)
  refine ⟨[.lst (((sortL d as).map (·.2)).map D.int), .lst ((leaderT d 0 (sortL d as)).map D.int)], ?_⟩
  have es : sortedD (.lst (as.map fun a => .tup [.int (a.1 + far d a.2), .int a.2])) = some (.lst ((sortL d as).map askD)) := by
    have e : (as.map fun a => D.tup [.int (a.1 + far d a.2), .int a.2]) = (rowsL d as).map askD := by unfold rowsL; rw [List.map_map]; rfl
    rw [e, sorted_asks]; rfl
  have ec : (as.filter fun a => decide (0 < a.2)).length = cnt as := by
    unfold cnt
    congr 1
    apply List.filter_congr
    intro a ha
    have := (h.mc a ha).1
    by_cases h0 : a.2 = 0
    · simp [h0]
    · have : 0 < a.2 := by omega
      simp [h0, this]
  simp only [asksD, List.nil_append, List.map_nil, show sl none = Slot.no from rfl] at e
  simp [p__law_leader, b__law_leader, startE, asksD]
  rw [runComp_all (g := askD) (fe := fun a => [.val (.tup (as.map askD)), .val (.int d), .val (.int n), .no, .no, .no, .no, .no, .val (.int a.2), .no, .no, .val (.int a.1)]) (y := fun a => .tup [.int (a.1 + far d a.2), .int a.2]) as rfl rfl]
  · simp [es, e]
    rw [runComp_map (g := askD) (fe := fun a => [.val (.tup (as.map askD)), .val (.int d), .val (.int n), .val (.lst ((sortL d as).map askD)), .val (.ref s.length), .val (.ref (s.length + 1)), .val y, sl x7, .val (.int a.2), sl x9, sl x10, .val (.int a.1)]) (b := fun a => decide (0 < a.2)) (y := fun a => .int a.2) as rfl rfl]
    · simp [leaderD, ec]
    · intro a ha
      simp [askD]
    · omega
  · intro a ha
    by_cases h0 : a.2 = 0
    · simp [askD, far, h0]
    · have := (h.mc a ha).1
      have : 0 < a.2 := by omega
      simp [askD, far, h0, this]
  · omega
end
end K90

namespace K90
open PySem QB L2
/-! ### the token: the plain machine -/
structure TS where
  L : List Ask
  fs : List Ask
  t : Int
  h : Int
  st : Int
def rdy (σ : TS) : Bool := ((σ.L.find? fun a => decide (a.2 = σ.h)).map fun a => decide (a.1 ≤ σ.t)).getD false
def srv (σ : TS) : TS := if rdy σ = true then { σ with L := σ.L.filter fun a => !decide (a.2 = σ.h), fs := σ.fs ++ [(σ.h, σ.t)], t := σ.t + 2 } else σ
def mov (d n : Int) (σ : TS) : TS := if σ.L = [] then σ else { σ with t := σ.t + d, h := (σ.h + 1) % n, st := σ.st + 1 }
def tok1 (d n : Int) (σ : TS) : TS := mov d n (srv σ)
def tokN (d n : Int) : Nat → TS → TS
  | 0, σ => σ
  | k + 1, σ => if σ.L = [] then σ else tokN d n k (tok1 d n σ)
def tok0 (as : List Ask) (start : Int) : TS := ⟨as, [], start, 0, 0⟩
def tokR (as : List Ask) (d n start : Int) : TS := tokN d n 30 (tok0 as start)
theorem tokN_done {d n : Int} {σ : TS} (h : σ.L = []) : ∀ k, tokN d n k σ = σ
  | 0 => rfl
  | k + 1 => by unfold tokN; rw [if_pos h]
theorem tokN_add {d n : Int} : ∀ (j k : Nat) (σ : TS), tokN d n (j + k) σ = tokN d n k (tokN d n j σ)
  | 0, k, σ => by rw [Nat.zero_add]; rfl
  | j + 1, k, σ => by
    rw [Nat.add_right_comm]
    show (if σ.L = [] then σ else tokN d n (j + k) (tok1 d n σ)) = tokN d n k (if σ.L = [] then σ else tokN d n j (tok1 d n σ))
    by_cases h : σ.L = []
    · rw [if_pos h, if_pos h]; exact (tokN_done h k).symm
    · rw [if_neg h, if_neg h]; exact tokN_add j k _
/-- the walk's state after k turns -/
structure TI (as : List Ask) (n : Int) (k : Nat) (σ : TS) : Prop where
  h : σ.h = (k : Int) % n
  t : (k : Int) ≤ σ.t
  sub : ∀ a ∈ σ.L, a ∈ as
  old : ∀ a ∈ σ.L, ∀ j : Nat, 20 ≤ j → j < k → (j : Int) % n ≠ a.2
theorem TI.next {as : List Ask} {d n : Int} {k : Nat} {σ : TS} (I : TI as n k σ) (hn : 2 ≤ n) (hd : 1 ≤ d) (ht : ∀ a ∈ as, a.1 ≤ 20) (h : (tok1 d n σ).L ≠ []) : TI as n (k + 1) (tok1 d n σ) := by
  have hs : ∀ a ∈ (srv σ).L, a ∈ σ.L ∧ (20 ≤ k → a.2 ≠ σ.h) := fun a ha => by
    unfold srv at ha
    split at ha
    · obtain ⟨h1, h2⟩ := List.mem_filter.mp ha
      simp at h2
      exact ⟨h1, fun _ => h2⟩
    · rename_i hr
      refine ⟨ha, fun hk e => hr ?_⟩
      unfold rdy
      cases ef : σ.L.find? fun a => decide (a.2 = σ.h) with
      | none =>
        have := List.find?_eq_none.mp ef a ha
        simp at this
        exact absurd e this
      | some b =>
        have hb := List.mem_of_find?_eq_some ef
        have := ht b (I.sub b hb)
        have := I.t
        simp
        omega
  have ht2 : σ.t ≤ (srv σ).t := by unfold srv; split <;> simp <;> omega
  have hh : (srv σ).h = σ.h := by unfold srv; split <;> rfl
  have e : tok1 d n σ = { srv σ with t := (srv σ).t + d, h := ((srv σ).h + 1) % n, st := (srv σ).st + 1 } := by
    unfold tok1 mov
    rw [if_neg]
    intro z
    apply h
    unfold tok1 mov
    rw [if_pos z]; exact z
  rw [e]
  refine ⟨?_, ?_, fun a ha => I.sub a (hs a ha).1, fun a ha j h1 h2 => ?_⟩
  · show ((srv σ).h + 1) % n = ((k + 1 : Nat) : Int) % n
    rw [hh, I.h]
    push_cast
    rw [Int.add_emod, Int.emod_emod_of_dvd _ (Int.dvd_refl n), ← Int.add_emod]
  · show ((k + 1 : Nat) : Int) ≤ (srv σ).t + d
    have := I.t
    push_cast; omega
  · obtain ⟨h3, h4⟩ := hs a ha
    by_cases e : j = k
    · subst e
      intro z
      exact h4 h1 (by rw [I.h]; exact z.symm)
    · exact I.old a h3 j h1 (by omega)
theorem TI.all {as : List Ask} {d n start : Int} (hn : 2 ≤ n) (hd : 1 ≤ d) (ht : ∀ a ∈ as, a.1 ≤ 20) (h0 : 0 ≤ start) : ∀ k, (tokN d n k (tok0 as start)).L = [] ∨ TI as n k (tokN d n k (tok0 as start))
  | 0 => .inr ⟨by simp [tokN, tok0], by simpa [tokN, tok0] using h0, fun a h => h, fun a _ j h1 h2 => by omega⟩
  | k + 1 => by
    have e : tokN d n (k + 1) (tok0 as start) = tokN d n 1 (tokN d n k (tok0 as start)) := tokN_add k 1 _
    rcases TI.all hn hd ht h0 k with h | I
    · rw [e, tokN_done h]; exact .inl h
    · rw [e]
      by_cases hz : (tokN d n k (tok0 as start)).L = []
      · rw [tokN_done hz]; exact .inl hz
      · have e2 : tokN d n 1 (tokN d n k (tok0 as start)) = tok1 d n (tokN d n k (tok0 as start)) := by
          show (if _ then _ else _) = _
          rw [if_neg hz]; rfl
        rw [e2]
        by_cases h2 : (tok1 d n (tokN d n k (tok0 as start))).L = []
        · exact .inl h2
        · exact .inr (I.next hn hd ht h2)
theorem tokR_done {as : List Ask} {d n start : Int} (h : VA as n) (hd : 1 ≤ d) (h0 : 0 ≤ start) : (tokR as d n start).L = [] := by
  rcases TI.all (as := as) (d := d) (n := n) (start := start) h.n2 hd (fun a ha => (h.tm a ha).2) h0 30 with e | I
  · exact e
  · show (tokN d n 30 (tok0 as start)).L = []
    cases eL : (tokN d n 30 (tok0 as start)).L with
    | nil => rfl
    | cons a r =>
      exfalso
      have hm : a ∈ (tokN d n 30 (tok0 as start)).L := by rw [eL]; exact List.mem_cons_self
      have hc := h.mc a (I.sub a hm)
      have h2 := h.n2
      have h5 := h.n5
      have ho := I.old a hm
      have h20 := ho 20 (by omega) (by omega)
      have h21 := ho 21 (by omega) (by omega)
      have h22 := ho 22 (by omega) (by omega)
      have h23 := ho 23 (by omega) (by omega)
      have h24 := ho 24 (by omega) (by omega)
      rcases (by omega : n = 2 ∨ n = 3 ∨ n = 4 ∨ n = 5) with e | e | e | e <;> subst e <;> simp at h20 h21 h22 h23 h24 <;> omega
end K90

namespace K90
open PySem QB L2
def wt (as : List Ask) : List (Int × Int) := as.map fun a => (a.2, a.1)
/-- what the machine knows of the asks -/
structure TR (as : List Ask) (σ : TS) : Prop where
  L : σ.L = as.filter fun a => !decide (a.2 ∈ σ.fs.map (·.1))
  len : σ.fs.length + σ.L.length = as.length
theorem getL_wt (as : List Ask) (h : Int) : getL (wt as) h = (as.find? fun a => decide (a.2 = h)).map (·.1) := by
  unfold getL wt
  rw [List.find?_map, Option.map_map]
  rfl
theorem find_L {as : List Ask} {σ : TS} (r : TR as σ) : (σ.L.find? fun a => decide (a.2 = σ.h)) = if σ.h ∈ σ.fs.map (·.1) then none else as.find? fun a => decide (a.2 = σ.h) := by
  rw [r.L, List.find?_filter]
  by_cases h : σ.h ∈ σ.fs.map (·.1)
  · rw [if_pos h, List.find?_eq_none]
    intro a ha
    by_cases e : a.2 = σ.h
    · rw [e]; simp [h]
    · simp [e]
  · rw [if_neg h]
    congr 1
    funext a
    by_cases e : a.2 = σ.h
    · rw [e]; simp [h]
    · simp [e]
theorem rdy_eq {as : List Ask} {σ : TS} (r : TR as σ) : rdy σ = (decide (σ.h ∉ σ.fs.map (·.1)) && ((getL (wt as) σ.h).map fun v => decide (v ≤ σ.t)).getD false) := by
  unfold rdy
  rw [find_L r, getL_wt]
  by_cases h : σ.h ∈ σ.fs.map (·.1)
  · rw [if_pos h, decide_eq_false (fun z => z h)]; rfl
  · rw [if_neg h, decide_eq_true h, Bool.true_and, Option.map_map]; rfl
theorem filter_one {h : Int} : ∀ {L : List Ask}, (L.map (·.2)).Nodup → (∃ a ∈ L, a.2 = h) → (L.filter fun a => !decide (a.2 = h)).length + 1 = L.length
  | [], _, ⟨a, ha, _⟩ => by cases ha
  | b :: L, hn, ⟨a, ha, e⟩ => by
    have hn' := List.nodup_cons.mp hn
    by_cases hb : b.2 = h
    · have : (L.filter fun a => !decide (a.2 = h)) = L := by
        rw [List.filter_eq_self]
        intro c hc
        have : c.2 ≠ h := fun z => hn'.1 (List.mem_map.mpr ⟨c, hc, z.trans hb.symm⟩)
        simp [this]
      rw [List.filter_cons_of_neg (by simp [hb]), this]; rfl
    · rw [List.filter_cons_of_pos (by simp [hb]), List.length_cons, List.length_cons]
      rcases List.mem_cons.mp ha with e2 | ha
      · rw [← e2] at hb; exact absurd e hb
      · rw [filter_one hn'.2 ⟨a, ha, e⟩]
theorem TR.srv {as : List Ask} {σ : TS} (r : TR as σ) (hn : (as.map (·.2)).Nodup) : TR as (srv σ) := by
  unfold K90.srv
  split
  · rename_i h
    have hf : ∃ a ∈ σ.L, a.2 = σ.h := by
      unfold rdy at h
      cases e : σ.L.find? fun a => decide (a.2 = σ.h) with
      | none => rw [e] at h; cases h
      | some a => exact ⟨a, List.mem_of_find?_eq_some e, by have := List.find?_some e; simpa using this⟩
    have hnL : (σ.L.map (·.2)).Nodup := by
      rw [r.L]
      exact hn.sublist (List.Sublist.map _ List.filter_sublist)
    refine ⟨?_, ?_⟩
    · show σ.L.filter _ = as.filter _
      rw [r.L, List.filter_filter]
      congr 1
      funext a
      by_cases e : a.2 = σ.h
      · simp [e]
      · simp [e]
    · show (σ.fs ++ [(σ.h, σ.t)]).length + (σ.L.filter _).length = _
      have := filter_one hnL hf
      have := r.len
      simp
      omega
  · exact r
theorem TR.mov {as : List Ask} {d n : Int} {σ : TS} (r : TR as σ) : TR as (mov d n σ) := by
  unfold K90.mov
  split
  · exact r
  · exact ⟨r.L, r.len⟩
theorem TR.zero {as : List Ask} {start : Int} : TR as (tok0 as start) := ⟨by simp [tok0]; exact (filter_yes as).symm, by simp [tok0]⟩
theorem TR.lt {as : List Ask} {σ : TS} (r : TR as σ) : decide ((σ.fs.length : Int) < as.length) = !decide (σ.L = []) := by
  have := r.len
  by_cases h : σ.L = []
  · rw [decide_eq_true h, decide_eq_false]; rfl
    rw [h] at this
    simp at this
    omega
  · rw [decide_eq_false h, decide_eq_true]; rfl
    have : 0 < σ.L.length := List.length_pos_iff.mpr h
    omega
section
variable {as : List Ask} {d n start : Int} {s : Store}
def envT (as : List Ask) (d n start : Int) (k : Nat) (σ : TS) : PEnv := [.val (asksD as), .val (.int d), .val (.int n), .val (.int start), .val (.dct (lvD (wt as))), .val (.int σ.t), .val (.int σ.h), .val (.int σ.st), .val (.ref k), .no, .no]
@[simp] theorem r_augS {i : Nat} {g : Int → Int → Int} {m : M D} {e : PEnv} {s : Store} : augS i g m e s = ((varM i e s).andThen fun a => bnd m fun b => bnd (opt (augD g a b)) fun d => setM i d).toS nxS := rfl
@[simp] theorem r_augD {g : Int → Int → Int} {a b : Int} : augD g (.int a) (.int b) = some (.int (g a b)) := rfl
theorem fst_comp {fs : List Ask} : (fs.map fun p => D.int p.1) = (fs.map (·.1)).map D.int := by rw [List.map_map]; rfl
theorem token_served {σ : TS} (hfs : σ.fs.length ≤ 5) : runComp (.seq (.ref s.length)) (tupT 2 (consT (setM 10) (consT (setM 9) nilT))) (rt true) (stepL (varM 10)) [10, 9] (.lst []) (envT as d n start s.length σ) (s ++ [.lst (σ.fs.map askD)]) = .ok (.lst ((σ.fs.map (·.1)).map D.int)) (envT as d n start s.length σ) (s ++ [.lst (σ.fs.map askD)]) := by
  rw [runComp_all (g := askD) (fe := fun a => [.val (asksD as), .val (.int d), .val (.int n), .val (.int start), .val (.dct (lvD (wt as))), .val (.int σ.t), .val (.int σ.h), .val (.int σ.st), .val (.ref s.length), .val (.int a.2), .val (.int a.1)]) (y := fun a => .int a.1) σ.fs (by simp) rfl]
  · rw [fst_comp]; rfl
  · intro a ha
    simp [askD]
    exact ⟨rfl, rfl⟩
  · omega
theorem token_times {σ : TS} (hfs : σ.fs.length ≤ 5) : runComp (.seq (.ref s.length)) (tupT 2 (consT (setM 10) (consT (setM 9) nilT))) (rt true) (stepL (varM 9)) [10, 9] (.lst []) (envT as d n start s.length σ) (s ++ [.lst (σ.fs.map askD)]) = .ok (.lst ((σ.fs.map (·.2)).map D.int)) (envT as d n start s.length σ) (s ++ [.lst (σ.fs.map askD)]) := by
  rw [runComp_all (g := askD) (fe := fun a => [.val (asksD as), .val (.int d), .val (.int n), .val (.int start), .val (.dct (lvD (wt as))), .val (.int σ.t), .val (.int σ.h), .val (.int σ.st), .val (.ref s.length), .val (.int a.2), .val (.int a.1)]) (y := fun a => .int a.2) σ.fs (by simp) rfl]
  · rw [map_snd]; rfl
  · intro a ha
    simp [askD]
    exact ⟨rfl, rfl⟩
  · omega
theorem token_more {σ : TS} (r : TR as σ) : boolM (op2M ltD (toB (op1M lenD (bvarM 8))) (toB (op1M lenD (bvarM 0)))) (envT as d n start s.length σ) (s ++ [.lst (σ.fs.map askD)]) = .ok (!decide (σ.L = [])) (envT as d n start s.length σ) (s ++ [.lst (σ.fs.map askD)]) := by
  have h := r.lt
  rw [← h]
  simp [envT, asksD]
theorem token_turn {σ : TS} (r : TR as σ) (hn : 2 ≤ n) (hl : as.length ≤ 5) (hnd : (as.map (·.2)).Nodup) : l_by_token_0 (envT as d n start s.length σ) (s ++ [.lst (σ.fs.map askD)]) = .nx (envT as d n start s.length (tok1 d n σ)) (s ++ [.lst ((tok1 d n σ).fs.map askD)]) := by
  have hfs : σ.fs.length ≤ 5 := by have := r.len; omega
  have z1 : szOk (σ.fs.length + 1) = true := by unfold szOk; exact Nat.ble_eq_true_of_le (by omega)
  have r2 := r.srv hnd
  have hmod : 0 < n := by omega
  have hr := rdy_eq r
  have hc := token_served (as := as) (d := d) (n := n) (start := start) (s := s) hfs
  -- the first test and what follows
  have F1 : ifS (andT (boolM (op2M (inD false) (bvarM 6) (bvarM 4))) (andT (boolM (op2M leD (toB (op2M ixD (bvarM 4) (bvarM 6))) (bvarM 5))) (boolM (op2M (inD true) (bvarM 6) (toB (frz (compM (.lst []) (seqM (varM 8)) (tupT 2 (consT (setM 10) (consT (setM 9) nilT))) (rt true) (stepL (varM 10)) [10, 9])))))))
      (seqS (exprS (appM (varM 8) (tupM (consM (varM 6) (consM (varM 5) (rt [])))))) (augS 5 (· + ·) (rt (.int 2)))) (.nx) (envT as d n start s.length σ) (s ++ [.lst (σ.fs.map askD)]) = .nx (envT as d n start s.length (srv σ)) (s ++ [.lst ((srv σ).fs.map askD)]) := by
    have es : ∀ b, rdy σ = b → srv σ = if b = true then { σ with L := σ.L.filter fun a => !decide (a.2 = σ.h), fs := σ.fs ++ [(σ.h, σ.t)], t := σ.t + 2 } else σ := fun b hb => by rw [← hb]; rfl
    cases eg : getL (wt as) σ.h with
    | none =>
      have := es false (by rw [hr, eg]; simp)
      rw [this]
      simp only [Bool.false_eq_true, if_false]
      simp [envT, in_lv, eg]
    | some v =>
      by_cases h3 : v ≤ σ.t
      · by_cases h1 : σ.h ∈ σ.fs.map (·.1)
        · have := es false (by rw [hr, eg]; simp [h1])
          rw [this]
          simp only [Bool.false_eq_true, if_false]
          unfold envT at hc ⊢
          simp only [asksD] at hc ⊢
          generalize σ.fs.map (·.1) = ms at hc h1
          simp [in_lv, eg, valD_lv, h3, hc, in_ints, h1]
        · have := es true (by rw [hr, eg]; simp [h1, h3])
          rw [this]
          simp only [if_true]
          unfold envT at hc ⊢
          simp only [asksD] at hc ⊢
          generalize σ.fs.map (·.1) = ms at hc h1
          simp [in_lv, eg, valD_lv, h3, hc, in_ints, h1, z1, askD]
      · have := es false (by rw [hr, eg]; simp [h3])
        rw [this]
        simp only [Bool.false_eq_true, if_false]
        simp [envT, in_lv, eg, valD_lv, h3]
  have F3 := token_more (d := d) (n := n) (start := start) (s := s) r2
  unfold l_by_token_0
  rw [r_seqS, F1, then_nx, r_ifS, F3]
  unfold tok1 K90.mov
  by_cases hL : (srv σ).L = []
  · rw [if_pos hL, decide_eq_true hL]; rfl
  · rw [if_neg hL, decide_eq_false hL]
    simp [envT, hmod]
end
end K90

namespace K90
open PySem QB L2
section
variable {as : List Ask} {d n start : Int} {s : Store}
theorem TR.tokN {as : List Ask} {d n : Int} (hn : (as.map (·.2)).Nodup) : ∀ (k : Nat) {σ : TS}, TR as σ → TR as (tokN d n k σ)
  | 0, _, r => r
  | k + 1, σ, r => by
    show TR as (if σ.L = [] then σ else K90.tokN d n k (tok1 d n σ))
    split
    · exact r
    · exact TR.tokN hn k (TR.mov (r.srv hn))
theorem token_while (hn : 2 ≤ n) (hl : as.length ≤ 5) (hnd : (as.map (·.2)).Nodup) : ∀ (k : Nat) (σ : TS) (j : Nat), TR as σ → (tokN d n k σ).L = [] →
    whileGo (boolM (op2M ltD (toB (op1M lenD (bvarM 8))) (toB (op1M lenD (bvarM 0))))) l_by_token_0 (j + k + 1) (envT as d n start s.length σ) (s ++ [.lst (σ.fs.map askD)]) = .nx (envT as d n start s.length (tokN d n k σ)) (s ++ [.lst ((tokN d n k σ).fs.map askD)])
  | k, σ, j, r, h => by
    by_cases hL : σ.L = []
    · rw [tokN_done hL]
      show (boolM _ _ _).toS _ = _
      rw [token_more r, decide_eq_true hL]; rfl
    · cases k with
      | zero => exact absurd h hL
      | succ k =>
        have e : tokN d n (k + 1) σ = tokN d n k (tok1 d n σ) := by
          show (if σ.L = [] then σ else tokN d n k (tok1 d n σ)) = _
          rw [if_neg hL]
        rw [e] at h ⊢
        show (boolM _ _ _).toS _ = _
        rw [token_more r, decide_eq_false hL]
        show turnS (l_by_token_0 _ _) _ = _
        rw [token_turn r hn hl hnd, turn_nx]
        exact token_while hn hl hnd k (tok1 d n σ) j (TR.mov (r.srv hnd)) h
def tokD (σ : TS) : D := .tup [.tup ((σ.fs.map (·.1)).map D.int), .int σ.st, .tup ((σ.fs.map (·.2)).map D.int)]
theorem by_token_ok (h : VA as n) (hd : 1 ≤ d) (hd5 : d ≤ 5) (h0 : 0 ≤ start) (h20 : start ≤ 20) : ∃ t, p_by_token [asksD as, .int d, .int n, .int start] s = .ok (tokD (tokR as d n start)) (s ++ t) := by
  have hl := h.len
  have hc := check_asked_ok (s := s) h hd hd5
  have r0 : TR as (tok0 as start) := TR.zero
  have hR := tokR_done (d := d) h hd h0
  have rR : TR as (tokR as d n start) := r0.tokN h.nd 30
  have hfs : (tokR as d n start).fs.length ≤ 5 := by have := rR.len; omega
  have hw := token_while (d := d) (start := start) (s := s) h.n2 hl h.nd 30 (tok0 as start) 999969 r0 hR
  have hw : whileGo (boolM (op2M ltD (toB (op1M lenD (bvarM 8))) (toB (op1M lenD (bvarM 0))))) l_by_token_0 1000000 (envT as d n start s.length (tok0 as start)) (s ++ [.lst []]) = .nx (envT as d n start s.length (tokR as d n start)) (s ++ [.lst ((tokR as d n start).fs.map askD)]) := hw
  refine ⟨[.lst ((tokR as d n start).fs.map askD)], ?_⟩
  have t1 := token_served (as := as) (d := d) (n := n) (start := start) (s := s) hfs
  have t2 := token_times (as := as) (d := d) (n := n) (start := start) (s := s) hfs
  simp only [asksD] at hc
  simp [p_by_token, b_by_token, startE, asksD, hc, is_between_ok, h0, h20]
  rw [runComp_dict (g := askD) (fe := fun a => [.val (.tup (as.map askD)), .val (.int d), .val (.int n), .val (.int start), .no, .no, .no, .no, .no, .val (.int a.1), .val (.int a.2)]) (kf := fun a => a.2) (vf := fun a => a.1) as rfl rfl]
  · unfold envT tok0 wt at hw
    simp only [asksD] at hw
    simp [hw]
    generalize tokR as d n start = σ at t1 t2
    unfold envT wt at t1 t2
    simp only [asksD] at t1 t2
    generalize hm1 : (σ.fs.map (·.1)).map D.int = ms at t1
    generalize hm2 : (σ.fs.map (·.2)).map D.int = ms2 at t2
    simp [t1, t2]
    simp [tokD, hm1, hm2]
  · intro a ha
    simp [askD]
  · omega
  · exact h.nd
end
end K90

namespace K90
open PySem QB L2
section
variable {as : List Ask} {d n start : Int} {s : Store}
theorem wt_keys (L : List Ask) : (wt L).map (·.1) = L.map (·.2) := by unfold wt; rw [List.map_map]; rfl
theorem wt_filter (L : List Ask) (h : Int) : (wt L).filter (fun p => !decide (p.1 = h)) = wt (L.filter fun a => !decide (a.2 = h)) := by
  unfold wt
  rw [List.filter_map]
  rfl
theorem rdy_wt {σ : TS} : rdy σ = ((getL (wt σ.L) σ.h).map fun v => decide (v ≤ σ.t)).getD false := by
  unfold rdy
  rw [getL_wt, Option.map_map]
  rfl
def envU (as : List Ask) (d n start : Int) (k : Nat) (σ : TS) (x : Option D) : PEnv := [.val (asksD as), .val (.int d), .val (.int n), .val (.int start), .val (.dct (lvD (wt σ.L))), .val (.ref k), .val (.ref (k + 1)), .val (.int σ.h), .val (.int σ.t), .val (.int σ.st), sl x, .no]
def stU (s : Store) (σ : TS) : Store := s ++ [.lst ((σ.fs.map (·.1)).map D.int), .lst ((σ.fs.map (·.2)).map D.int)]
theorem wt_isEmpty {L : List Ask} : (wt L).isEmpty = decide (L = []) := by cases L <;> rfl
theorem ltoken_turn {σ : TS} {x : Option D} {y : D} (hL : σ.L ≠ []) (hn : 2 ≤ n) (hfs : σ.fs.length ≤ 100) (hl : σ.L.length ≤ 5) (hnd : (σ.L.map (·.2)).Nodup) : (setM 10 y (envU as d n start s.length σ x) (stU s σ)).toS (fun _ => l__law_token_0) = .nx (envU as d n start s.length (tok1 d n σ) (some y)) (stU s (tok1 d n σ)) := by
  have z1 : szOk (σ.fs.length + 1) = true := by unfold szOk; exact Nat.ble_eq_true_of_le (by omega)
  have hmod : 0 < n := by omega
  have es : ∀ b, rdy σ = b → srv σ = if b = true then { σ with L := σ.L.filter fun a => !decide (a.2 = σ.h), fs := σ.fs ++ [(σ.h, σ.t)], t := σ.t + 2 } else σ := fun b hb => by rw [← hb]; rfl
  have nE : ∀ (σ' : TS), tok1 d n σ = mov d n σ' → neED (.dct (lvD (wt σ'.L))) (.dct []) = some (.bl (!decide (σ'.L = []))) := fun σ' _ => by rw [neE_lv, wt_isEmpty]
  have eE : eqED (.dct (lvD (wt σ.L))) (.dct []) = some (.bl false) := by rw [eqE_lv, wt_isEmpty, decide_eq_false hL]
  by_cases hb : rdy σ = true
  · have e1 := es true hb
    rw [if_pos rfl] at e1
    have et : tok1 d n σ = mov d n (srv σ) := rfl
    rw [e1] at et
    have nE1 := nE _ et
    rw [rdy_wt] at hb
    cases eg : getL (wt σ.L) σ.h with
    | none => rw [eg] at hb; cases hb
    | some v =>
      rw [eg] at hb
      have h3 : v ≤ σ.t := by simpa using hb
      have hcomp : runComp (.keys (lvD (wt σ.L))) (setM 11) (boolM (op2M neD (bvarM 11) (bvarM 7))) (stepL (tupM (consM (varM 11) (consM (op2M ixD (bvarM 4) (bvarM 11)) (rt []))))) [11] (.lst [])
          [.val (asksD as), .val (.int d), .val (.int n), .val (.int start), .val (.dct (lvD (wt σ.L))), .val (.ref s.length), .val (.ref (s.length + 1)), .val (.int σ.h), .val (.int σ.t), .val (.int σ.st), .val y, .no]
          (s ++ [.lst ((σ.fs.map (·.1)).map D.int ++ [.int σ.h]), .lst ((σ.fs.map (·.2)).map D.int ++ [.int σ.t])]) = .ok (.lst (((wt σ.L).filter fun p => !decide (p.1 = σ.h)).map pairD)) [.val (asksD as), .val (.int d), .val (.int n), .val (.int start), .val (.dct (lvD (wt σ.L))), .val (.ref s.length), .val (.ref (s.length + 1)), .val (.int σ.h), .val (.int σ.t), .val (.int σ.st), .val y, .no]
          (s ++ [.lst ((σ.fs.map (·.1)).map D.int ++ [.int σ.h]), .lst ((σ.fs.map (·.2)).map D.int ++ [.int σ.t])]) := by
        rw [runComp_map (g := fun p => .int p.1) (fe := fun p => [.val (asksD as), .val (.int d), .val (.int n), .val (.int start), .val (.dct (lvD (wt σ.L))), .val (.ref s.length), .val (.ref (s.length + 1)), .val (.int σ.h), .val (.int σ.t), .val (.int σ.st), .val y, .val (.int p.1)]) (b := fun p => !decide (p.1 = σ.h)) (y := pairD) (wt σ.L) (by simp [lvD]; intro a b _; rfl) rfl]
        · rfl
        · intro p hp
          have := getL_of_mem (lv := wt σ.L) (p := p) (by rw [wt_keys]; exact hnd) hp
          simp [valD_lv, this, pairD]
        · have : (wt σ.L).length = σ.L.length := by unfold wt; rw [List.length_map]
          omega
      have hdict : dictD (.lst (((wt σ.L).filter fun p => !decide (p.1 = σ.h)).map pairD)) = some (.dct (lvD (wt (σ.L.filter fun a => !decide (a.2 = σ.h))))) := by
        rw [dict_pairs, wt_filter]
        rw [wt_filter, wt_keys]
        exact hnd.sublist (List.Sublist.map _ List.filter_sublist)
      rw [et]
      unfold envU stU at *
      generalize hm1 : (σ.fs.map (·.1)).map D.int = ms at hcomp
      generalize hm2 : (σ.fs.map (·.2)).map D.int = ms2 at hcomp
      have z2 : szOk (ms.length + 1) = true := by rw [← hm1]; simpa using z1
      have z3 : szOk (ms2.length + 1) = true := by rw [← hm2]; simpa using z1
      simp [l__law_token_0, eE, in_lv, eg, valD_lv, h3, z2, z3, hcomp, hdict]
      dsimp only at nE1
      simp [nE1]
      unfold K90.mov
      dsimp only
      by_cases hL2 : (σ.L.filter fun a => !decide (a.2 = σ.h)) = []
      · rw [if_pos hL2, decide_eq_true hL2]
        simp [sl, ← hm1, ← hm2]
      · rw [if_neg hL2, decide_eq_false hL2]
        simp [hmod, sl, ← hm1, ← hm2]
  · have hb' : rdy σ = false := by simpa using hb
    have e1 := es false hb'
    simp only [Bool.false_eq_true, if_false] at e1
    have et : tok1 d n σ = mov d n (srv σ) := rfl
    rw [e1] at et
    have nE1 := nE _ et
    rw [decide_eq_false hL] at nE1
    rw [rdy_wt] at hb'
    rw [et]
    unfold K90.mov
    rw [if_neg hL]
    unfold envU stU
    cases eg : getL (wt σ.L) σ.h with
    | none => simp [l__law_token_0, eE, in_lv, eg, nE1, hmod, sl]
    | some v =>
      rw [eg] at hb'
      have h3 : ¬ v ≤ σ.t := by simpa using hb'
      simp [l__law_token_0, eE, in_lv, eg, valD_lv, h3, nE1, hmod, sl]
theorem ltoken_loop (hn : 2 ≤ n) (hl : as.length ≤ 5) (hnd : (as.map (·.2)).Nodup) : ∀ (l : List D) (σ : TS) (x : Option D), TR as σ → ∃ x', forL (setM 10) l__law_token_0 l (envU as d n start s.length σ x) (stU s σ) = .nx (envU as d n start s.length (tokN d n l.length σ) x') (stU s (tokN d n l.length σ))
  | [], σ, x, _ => ⟨x, rfl⟩
  | y :: l, σ, x, r => by
    rw [r_forL_cons]
    by_cases hL : σ.L = []
    · have eE : eqED (.dct (lvD (wt σ.L))) (.dct []) = some (.bl true) := by rw [eqE_lv, wt_isEmpty, decide_eq_true hL]
      refine ⟨some y, ?_⟩
      rw [tokN_done hL]
      unfold envU
      simp [l__law_token_0, eE, sl]
    · have hnL : (σ.L.map (·.2)).Nodup := by
        rw [r.L]
        exact hnd.sublist (List.Sublist.map _ List.filter_sublist)
      have := r.len
      rw [ltoken_turn hL hn (by omega) (by omega) hnL, turn_nx]
      obtain ⟨x', e⟩ := ltoken_loop hn hl hnd l (tok1 d n σ) (some y) (TR.mov (r.srv hnd))
      refine ⟨x', ?_⟩
      rw [e]
      have e2 : tokN d n (y :: l).length σ = tokN d n l.length (tok1 d n σ) := by
        show (if σ.L = [] then σ else tokN d n l.length (tok1 d n σ)) = _
        rw [if_neg hL]
      rw [e2]
theorem law_token_ok (h : VA as n) (hd : 1 ≤ d) (h0 : 0 ≤ start) : ∃ t, p__law_token [asksD as, .int d, .int n, .int start] s = .ok (tokD (tokR as d n start)) (s ++ t) := by
  have hl := h.len
  have r0 : TR as (tok0 as start) := TR.zero
  have hR := tokR_done (d := d) h hd h0
  obtain ⟨x', hw⟩ := ltoken_loop (d := d) (start := start) (s := s) h.n2 hl h.nd (rngL 0 200) (tok0 as start) none r0
  have e200 : tokN d n (rngL 0 200).length (tok0 as start) = tokR as d n start := by
    have : (rngL 0 200).length = 30 + 170 := by unfold rngL; rw [List.length_map, List.length_range]
    rw [this, tokN_add]
    exact tokN_done hR 170
  rw [e200] at hw
  generalize hσ : tokR as d n start = σ at hw
  refine ⟨[.lst ((σ.fs.map (·.1)).map D.int), .lst ((σ.fs.map (·.2)).map D.int)], ?_⟩
  have hp : dictD (.lst ((wt as).map pairD)) = some (.dct (lvD (wt as))) := dict_pairs (by rw [wt_keys]; exact h.nd)
  have hpp : (as.map fun a => D.tup [.int a.2, .int a.1]) = (wt as).map pairD := by unfold wt; rw [List.map_map]; rfl
  simp [p__law_token, b__law_token, startE, asksD]
  rw [runComp_all (g := askD) (fe := fun a => [.val (.tup (as.map askD)), .val (.int d), .val (.int n), .val (.int start), .no, .no, .no, .no, .val (.int a.1), .no, .no, .val (.int a.2)]) (y := fun a => .tup [.int a.2, .int a.1]) as rfl rfl]
  · rw [hpp]
    unfold envU stU tok0 at hw
    simp only [asksD, show sl none = Slot.no from rfl, List.map_nil] at hw
    generalize hm1 : (σ.fs.map (·.1)).map D.int = ms at hw
    generalize hm2 : (σ.fs.map (·.2)).map D.int = ms2 at hw
    have e2 : (Int.toNat 200) = 200 := rfl
    simp [hp, e2, hw]
    simp [tokD, ← hm1, ← hm2]
  · intro a ha
    simp [askD]
  · omega
end
end K90

namespace K90
open PySem QB L2
/-! ### the box -/
structure Bx where
  b0 : Int
  b1 : Bool
  b2 : Int
  b3 : Int
def boxC (x : Bx) : Cell := .lst [.int x.b0, .bl x.b1, .int x.b2, .int x.b3]
structure BxOk (N : Int) (x : Bx) : Prop where
  l2 : 0 ≤ x.b2
  u2 : x.b2 < 2147483629
  l3 : 0 ≤ x.b3
  u3 : x.b3 ≤ N
theorem BxOk.mono {N M : Int} {x : Bx} (h : BxOk N x) (hm : N ≤ M) : BxOk M x := ⟨h.l2, h.u2, h.l3, by have := h.u3; omega⟩
@[simp] theorem ix40 : ixN 4 0 = some 0 := rfl
@[simp] theorem ix43 : ixN 4 3 = some 3 := rfl
theorem take_ok {s : Store} {b : Nat} {x : Bx} {many N : Int} (hb : s[b]? = some (boxC x)) (hx : BxOk N x) (hN : N ≤ 1000000) (h1 : 0 < many) (h2 : many < 1000) :
    ∃ r x', 0 ≤ r ∧ r < many ∧ BxOk (N + 1) x' ∧ p__law_take [.ref b, .int many] s = .ok (.int r) (s.set b (boxC x')) := by
  have hlt : b < s.length := (List.getElem?_eq_some_iff.mp hb).1
  have l2 := hx.l2; have u2 := hx.u2; have l3 := hx.l3; have u3 := hx.u3
  have hs1 : ∀ c : Cell, (s.set b c)[b]? = some c := fun c => List.getElem?_set_self hlt
  unfold boxC at hb
  by_cases hc : x.b1 = true ∧ 0 < x.b0
  · refine ⟨x.b0 % many, { x with b0 := x.b0 / many }, Int.emod_nonneg _ (by omega), Int.emod_lt_of_pos _ h1, ⟨l2, u2, l3, by dsimp only; omega⟩, ?_⟩
    have h2' : many < 18446744073709551616 := by omega
    simp [p__law_take, b__law_take, startE, hb, hc.1, hc.2, h1, h2', hs1, boxC]
  · have hq : (x.b2 + 15487483 * (x.b3 + 1) + 179425573) < 18446744073709551616 := by omega
    have hq2 : -18446744073709551616 < (x.b2 + 15487483 * (x.b3 + 1) + 179425573) := by omega
    generalize hm : ((x.b2 + 15487483 * (x.b3 + 1) + 179425573) ^ 5) % 2147483647 = m
    have hm0 : 0 ≤ m := by rw [← hm]; exact Int.emod_nonneg _ (by decide)
    have hm1 : m < 2147483647 := by rw [← hm]; exact Int.emod_lt_of_pos _ (by decide)
    have hp : m * 48271 + 105089 * (x.b3 + 1) < 18446744073709551616 := by omega
    have hp2 : -18446744073709551616 < m * 48271 + 105089 * (x.b3 + 1) := by omega
    refine ⟨((m * 48271 + 105089 * (x.b3 + 1)) ^ 3 % 2147483587 / 64) % many, { x with b3 := x.b3 + 1 }, Int.emod_nonneg _ (by omega), Int.emod_lt_of_pos _ h1, ⟨l2, u2, by dsimp only; omega, by dsimp only; omega⟩, ?_⟩
    have hc' : x.b1 = true → ¬ 0 < x.b0 := fun a b => hc ⟨a, b⟩
    cases hb1 : x.b1 with
    | false =>
      simp [p__law_take, b__law_take, startE, hb, hb1, h1, hs1, boxC, hq, hq2, hm, hp, hp2]
    | true =>
      have := hc' hb1
      simp [p__law_take, b__law_take, startE, hb, hb1, this, h1, hs1, boxC, hq, hq2, hm, hp, hp2]
end K90

namespace K90
open PySem QB L2
section
variable {s : Store} {b k : Nat} {N : Int}
theorem mixed_turn {x : Bx} {n : Int} {L F : List Int} (hk : s.length = k) (hb : s[b]? = some (boxC x)) (hx : BxOk N x) (hN : N ≤ 1000000) (hL : L ≠ []) (hl : L.length ≤ 100) (hf : F.length ≤ 100) :
    ∃ x' i v, L[i]? = some v ∧ BxOk (N + 1) x' ∧ l__law_mixed_0 [.val (.ref b), .val (.int n), .val (.ref k), .val (.ref (k + 1))] (s ++ [.lst (L.map D.int), .lst (F.map D.int)]) =
      .nx [.val (.ref b), .val (.int n), .val (.ref k), .val (.ref (k + 1))] (s.set b (boxC x') ++ [.lst ((L.eraseIdx i).map D.int), .lst ((F ++ [v]).map D.int)]) := by
  have hlt : b < s.length := (List.getElem?_eq_some_iff.mp hb).1
  have hpos : 0 < L.length := List.length_pos_iff.mpr hL
  obtain ⟨r, x', h1, h2, h3, h4⟩ := take_ok (s := s ++ [.lst (L.map D.int), .lst (F.map D.int)]) (b := b) (x := x) (many := (L.length : Int)) (by rw [st_getB hlt]; exact hb) hx hN (by omega) (by omega)
  rw [st_setB hlt] at h4
  have hr : r.toNat < L.length := by omega
  refine ⟨x', r.toNat, L[r.toNat], List.getElem?_eq_getElem hr, h3, ?_⟩
  have hk' : (s.set b (boxC x')).length = k := by rw [List.length_set]; exact hk
  have z1 : szOk (F.length + 1) = true := by unfold szOk; exact Nat.ble_eq_true_of_le (by omega)
  have hsi : PySem.seqIndex? r L.length = some r.toNat := seqIx h1 h2
  have c1 : -9223372036854775808 ≤ r := by omega
  have c2 : r < 9223372036854775808 := by omega
  simp [l__law_mixed_0, hk, hk', h4, hsi, c1, c2, z1, map_eraseIdx, List.getElem?_eq_getElem hr]
theorem mixed_loop {n : Int} : ∀ (m : Nat) (s : Store) (x : Bx) (N : Int) (L F : List Int) (j : Nat), s.length = k → s[b]? = some (boxC x) → BxOk N x → N + m ≤ 1000000 → L.length = m → m ≤ 50 → F.length + m ≤ 50 →
    ∃ (x' : Bx) (G : List Int), (G.Perm (F ++ L)) ∧ BxOk (N + m) x' ∧ whileGo (boolM (op2M neD (bvarM 2) (toB (frz (lstM (rt [])))))) l__law_mixed_0 (j + m + 1) [.val (.ref b), .val (.int n), .val (.ref k), .val (.ref (k + 1))] (s ++ [.lst (L.map D.int), .lst (F.map D.int)]) =
      .nx [.val (.ref b), .val (.int n), .val (.ref k), .val (.ref (k + 1))] (s.set b (boxC x') ++ [.lst [], .lst (G.map D.int)])
  | 0, s, x, N, L, F, j, hk, hb, hx, hN, hL, _, _ => by
    have : L = [] := List.eq_nil_of_length_eq_zero hL
    subst this
    refine ⟨x, F, by simp, by simpa using hx, ?_⟩
    have hself : s.set b (boxC x) = s := by
      apply List.ext_getElem?
      intro i
      by_cases e : b = i
      · subst e
        rw [List.getElem?_set_self (List.getElem?_eq_some_iff.mp hb).1, hb]
      · rw [List.getElem?_set_ne e]
    rw [hself]
    show (boolM _ _ _).toS _ = _
    simp [hk]
  | m + 1, s, x, N, L, F, j, hk, hb, hx, hN, hL, hm, hF => by
    have hne : L ≠ [] := fun e => by rw [e] at hL; cases hL
    have hlt : b < s.length := (List.getElem?_eq_some_iff.mp hb).1
    obtain ⟨x', i, v, hv, hx', e⟩ := mixed_turn (n := n) (L := L) (F := F) hk hb hx (by omega) hne (by omega) (by omega)
    have hi : i < L.length := (List.getElem?_eq_some_iff.mp hv).1
    have hk' : (s.set b (boxC x')).length = k := by rw [List.length_set]; exact hk
    obtain ⟨x'', G, hp, hx'', e2⟩ := mixed_loop (n := n) m (s.set b (boxC x')) x' (N + 1) (L.eraseIdx i) (F ++ [v]) j hk' (List.getElem?_set_self hlt) hx' (by omega) (by rw [List.length_eraseIdx_of_lt hi]; omega) (by omega) (by simp; omega)
    refine ⟨x'', G, ?_, hx''.mono (by push_cast; omega), ?_⟩
    · refine hp.trans ?_
      rw [List.append_assoc]
      refine List.Perm.append_left F ?_
      exact perm_eraseIdx L i v hv
    · show (boolM _ _ _).toS _ = _
      have hc : (boolM (op2M neD (bvarM 2) (toB (frz (lstM (rt [])))))) [.val (.ref b), .val (.int n), .val (.ref k), .val (.ref (k + 1))] (s ++ [.lst (L.map D.int), .lst (F.map D.int)]) = .ok true [.val (.ref b), .val (.int n), .val (.ref k), .val (.ref (k + 1))] (s ++ [.lst (L.map D.int), .lst (F.map D.int)]) := by
        simp [hk, ne_ints_nil, hne]
      rw [hc]
      show turnS (l__law_mixed_0 _ _) _ = _
      rw [e, turn_nx]
      show whileGo _ _ (j + m + 1) _ _ = _
      rw [e2, List.set_set]
theorem mixed_ok {x : Bx} {n : Int} (hb : s[b]? = some (boxC x)) (hx : BxOk N x) (hN : N ≤ 900000) (h0 : 0 ≤ n) (h1 : n ≤ 20) :
    ∃ (x' : Bx) (G : List Int), G.Perm (rangeI n) ∧ BxOk (N + n) x' ∧ p__law_mixed [.ref b, .int n] s = .ok (.ref (s.length + 1)) (s.set b (boxC x') ++ [.lst [], .lst (G.map D.int)]) := by
  have hl : (rangeI n).length = n.toNat := rangeI_length
  obtain ⟨x', G, hp, hx', e⟩ := mixed_loop (b := b) (k := s.length) (n := n) n.toNat s x N (rangeI n) [] (999999 - n.toNat) rfl hb hx (by omega) hl (by omega) (by simp; omega)
  have ef : 999999 - n.toNat + n.toNat + 1 = 1000000 := by omega
  rw [ef] at e
  simp only [List.map_nil] at e
  refine ⟨x', G, by simpa using hp, by have : (n.toNat : Int) = n := Int.toNat_of_nonneg h0; rw [this] at hx'; exact hx', ?_⟩
  have c1 : -1099511627776 ≤ n := by omega
  have c2 : n ≤ 16777216 := by omega
  simp [p__law_mixed, b__law_mixed, startE, c1, c2, rgL_ints, e]
end
end K90

namespace K90
open PySem QB L2
section
variable {s : Store} {b k : Nat} {N : Int} {x : Bx}
/-- a store whose cell b is the box -/
def B (s : Store) (b : Nat) (x : Bx) (t : Store) : Store := s.set b (boxC x) ++ t
theorem B_get (hb : b < s.length) {t : Store} : (B s b x t)[b]? = some (boxC x) := by
  unfold B
  rw [st_getB (by rw [List.length_set]; exact hb), List.getElem?_set_self hb]
theorem B_set (hb : b < s.length) {x' : Bx} {t : Store} : (B s b x t).set b (boxC x') = B s b x' t := by
  unfold B
  rw [st_setB (by rw [List.length_set]; exact hb), List.set_set]
theorem B_len {t : Store} : (B s b x t).length = s.length + t.length := by unfold B; rw [List.length_append, List.length_set]
theorem B_app {t u : Store} : B s b x t ++ u = B s b x (t ++ u) := by unfold B; rw [List.append_assoc]
theorem takeB (hb : b < s.length) (hx : BxOk N x) {many : Int} (h1 : 0 < many) (h2 : many < 1000) (hN : N ≤ 1000000) (t : Store) :
    ∃ r x', 0 ≤ r ∧ r < many ∧ BxOk (N + 1) x' ∧ p__law_take [.ref b, .int many] (B s b x t) = .ok (.int r) (B s b x' t) := by
  obtain ⟨r, x', a1, a2, a3, a4⟩ := take_ok (B_get hb) hx hN h1 h2 (s := B s b x t)
  rw [B_set hb] at a4
  exact ⟨r, x', a1, a2, a3, a4⟩
theorem mixedB (hb : b < s.length) (hx : BxOk N x) {n : Int} (h0 : 0 ≤ n) (h1 : n ≤ 20) (hN : N ≤ 900000) (t : Store) :
    ∃ (x' : Bx) (G : List Int), G.Perm (rangeI n) ∧ BxOk (N + n) x' ∧ p__law_mixed [.ref b, .int n] (B s b x t) = .ok (.ref (s.length + t.length + 1)) (B s b x' (t ++ [.lst [], .lst (G.map D.int)])) := by
  obtain ⟨x', G, a1, a2, a3⟩ := mixed_ok (s := B s b x t) (b := b) (B_get hb) hx hN h0 h1
  rw [B_set hb, B_app, B_len] at a3
  exact ⟨x', G, a1, a2, a3⟩
/-- the cell that stands first behind the old store -/
theorem B_get0 {c : Cell} {t : Store} (hk : s.length = k) : (B s b x (c :: t))[k]? = some c := by unfold B; exact st_getk0 (by rw [List.length_set]; exact hk)
theorem B_get2 {c c1 c2 : Cell} {t : Store} (hk : s.length = k) : (B s b x (c :: c1 :: c2 :: t))[k + 2]? = some c2 := by unfold B; exact st_getk2 (by rw [List.length_set]; exact hk)
theorem B_put0 {c d : Cell} {t : Store} (hk : s.length = k) : (B s b x (c :: t)).set k d = B s b x (d :: t) := by unfold B; exact st_setk0 (by rw [List.length_set]; exact hk)
theorem asks_turn {n way time m : Int} {x5 : Option D} {fs : List Ask} {t : Store} (hk : s.length = k) (hb : b < s.length) (hx : BxOk N x) (hN : N ≤ 900000) (hw : 0 ≤ way ∧ way < 4) (ht : 0 ≤ time ∧ time ≤ 20) (hf : fs.length ≤ 50) :
    ∃ (x' : Bx) (time' : Int), (0 ≤ time' ∧ time' ≤ 20) ∧ BxOk (N + 3) x' ∧ (setM 5 (.int m) [.val (.ref b), .val (.int n), .val (.int way), .val (.ref k), .val (.int time), sl x5] (B s b x (.lst (fs.map askD) :: t))).toS (fun _ => l__law_asks_0) =
      .nx [.val (.ref b), .val (.int n), .val (.int way), .val (.ref k), .val (.int time'), sl (some (.int m))] (B s b x' (.lst ((fs ++ [(time, m)]).map askD) :: t)) := by
  have z1 : szOk (fs.length + 1) = true := by unfold szOk; exact Nat.ble_eq_true_of_le (by omega)
  obtain ⟨r1, x1, a1, a2, a3, e1⟩ := takeB (many := 2) hb hx (by omega) (by omega) (by omega) (.lst (fs.map askD ++ [D.tup [.int time, .int m]]) :: t)
  obtain ⟨r2, x2, b1, b2, b3, e2⟩ := takeB (many := 8) hb a3 (by omega) (by omega) (by omega) (.lst (fs.map askD ++ [D.tup [.int time, .int m]]) :: t)
  obtain ⟨r3, x3, c1, c2, c3, e3⟩ := takeB (many := 4) hb b3 (by omega) (by omega) (by omega) (.lst (fs.map askD ++ [D.tup [.int time, .int m]]) :: t)
  have h3 : BxOk (N + 3) x3 := c3.mono (by omega)
  have hmin : ∀ w : Int, 0 ≤ w → (0 ≤ (if time + w < 20 then time + w else 20) ∧ (if time + w < 20 then time + w else 20) ≤ 20) := fun w hw => by split <;> omega
  rcases (by omega : way = 0 ∨ way = 1 ∨ way = 2 ∨ way = 3) with e | e | e | e <;> subst e
  · refine ⟨x3, _, hmin r1 a1, h3, ?_⟩
    simp [l__law_asks_0, B_get0 hk, B_put0 hk, z1, e1, e2, e3, askD, sl]
  · refine ⟨x3, _, hmin 0 (by omega), h3, ?_⟩
    simp [l__law_asks_0, B_get0 hk, B_put0 hk, z1, e1, e2, e3, askD, sl]
  · refine ⟨x3, _, hmin r2 b1, h3, ?_⟩
    simp [l__law_asks_0, B_get0 hk, B_put0 hk, z1, e1, e2, e3, askD, sl]
  · refine ⟨x3, _, hmin (4 + r3) (by omega), h3, ?_⟩
    simp [l__law_asks_0, B_get0 hk, B_put0 hk, z1, e1, e2, e3, askD, sl]
theorem asks_loop {n way : Int} {t : Store} (hk : s.length = k) (hb : b < s.length) (hw : 0 ≤ way ∧ way < 4) : ∀ (ms : List Int) (x : Bx) (N time : Int) (x5 : Option D) (fs : List Ask), BxOk N x → N + 3 * ms.length ≤ 900000 → (0 ≤ time ∧ time ≤ 20) → fs.length + ms.length ≤ 50 →
    ∃ (x' : Bx) (ts : List Int) (y4 y5 : Option D), ts.length = ms.length ∧ (∀ u ∈ ts, 0 ≤ u ∧ u ≤ 20) ∧ BxOk (N + 3 * ms.length) x' ∧ forL (setM 5) l__law_asks_0 (ms.map D.int) [.val (.ref b), .val (.int n), .val (.int way), .val (.ref k), .val (.int time), sl x5] (B s b x (.lst (fs.map askD) :: t)) =
      .nx [.val (.ref b), .val (.int n), .val (.int way), .val (.ref k), sl y4, sl y5] (B s b x' (.lst ((fs ++ ts.zip ms).map askD) :: t))
  | [], x, N, time, x5, fs, hx, _, _, _ => ⟨x, [], some (.int time), x5, rfl, (fun u h => by cases h), by simpa using hx, by simp [sl]⟩
  | m :: ms, x, N, time, x5, fs, hx, hN, ht, hf => by
    simp only [List.length_cons] at hN hf
    obtain ⟨x', time', h1, h2, e⟩ := asks_turn (n := n) (m := m) (x5 := x5) (fs := fs) (t := t) hk hb hx (by omega) hw ht (by omega)
    obtain ⟨x'', ts, y4, y5, h3, h4, h5, e2⟩ := asks_loop hk hb hw ms x' (N + 3) time' (some (.int m)) (fs ++ [(time, m)]) h2 (by omega) h1 (by simp; omega)
    refine ⟨x'', time :: ts, y4, y5, by simp [h3], fun u hu => ?_, h5.mono (by simp only [List.length_cons]; push_cast; omega), ?_⟩
    · rcases List.mem_cons.mp hu with rfl | hu
      · exact ht
      · exact h4 u hu
    · rw [List.map_cons, r_forL_cons, e, turn_nx, e2]
      simp
end
end K90

namespace K90
open PySem QB L2
theorem leA_eq : leA = leP := by funext a b; exact leS_pair
theorem sortL_eq {d : Int} {as : List Ask} : sortL d as = sortP (rowsL d as) := by unfold sortL sortP; rw [leA_eq]
section
variable {s : Store} {b k : Nat} {N : Int} {x : Bx}
theorem B_base (hb : b < s.length) {t u : Store} : B (s ++ t) b x u = B s b x (t ++ u) := by
  unfold B
  rw [st_setB hb, List.append_assoc]
theorem zip_snd : ∀ {ts ms : List Int}, ts.length = ms.length → (ts.zip ms).map (·.2) = ms
  | [], [], _ => rfl
  | t :: ts, m :: ms, h => by
    simp only [List.zip_cons_cons, List.map_cons]
    rw [zip_snd (by simpa using h)]
theorem VA_sort {ts ms : List Int} {n : Int} (hl : ts.length = ms.length) (h1 : 1 ≤ ms.length) (h5 : ms.length ≤ 5) (hnd : ms.Nodup) (ht : ∀ u ∈ ts, 0 ≤ u ∧ u ≤ 20) (hm : ∀ m ∈ ms, 0 ≤ m ∧ m < n) (h2 : 2 ≤ n) (hn5 : n ≤ 5) : VA (sortP (ts.zip ms)) n := by
  have hp := sortP_perm (ts.zip ms)
  have hz : (ts.zip ms).length = ms.length := by rw [List.length_zip, hl]; exact Nat.min_self _
  have hlen := hp.length_eq
  have hsnd : ((sortP (ts.zip ms)).map (·.2)).Perm ms := by
    have := hp.map (·.2)
    rw [zip_snd hl] at this; exact this
  have hnd' : ((sortP (ts.zip ms)).map (·.2)).Nodup := hsnd.nodup_iff.mpr hnd
  refine ⟨fun e => ?_, by omega, ?_, hnd', fun a ha => ?_, fun a ha => ?_, h2, hn5⟩
  · rw [e] at hlen; simp at hlen; omega
  · have hpw := sortP_pw (ts.zip ms)
    have hne : (sortP (ts.zip ms)).Pairwise fun a b => a.2 ≠ b.2 := List.pairwise_map.mp hnd'
    refine (hpw.and hne).imp fun {a b} h => ?_
    unfold ltA
    simp only [decide_eq_true_eq]
    omega
  · have := hp.mem_iff.mp ha
    have := (List.of_mem_zip this).1
    exact ht _ this
  · have := hp.mem_iff.mp ha
    have := (List.of_mem_zip this).2
    exact hm _ this
theorem asks_ok (hb : b < s.length) (hx : BxOk N x) {n : Int} (h2 : 2 ≤ n) (h5 : n ≤ 5) (hN : N ≤ 800000) (t : Store) :
    ∃ (x' : Bx) (as : List Ask) (u : Store), VA as n ∧ BxOk (N + 100) x' ∧ p__law_asks [.ref b, .int n] (B s b x t) = .ok (asksD as) (B s b x' (t ++ u)) := by
  obtain ⟨way, x1, a1, a2, a3, e1⟩ := takeB (many := 4) hb hx (by omega) (by omega) (by omega) t
  obtain ⟨time, x2, b1, b2, b3, e2⟩ := takeB (many := 3) hb a3 (by omega) (by omega) (by omega) (t ++ [.lst []])
  obtain ⟨x3, G, hG, c3, e3⟩ := mixedB (n := n) hb b3 (by omega) (by omega) (by omega) (t ++ [.lst []])
  obtain ⟨r, x4, d1, d2, d3, e4⟩ := takeB (many := n) hb c3 (by omega) (by omega) (by omega) (t ++ [.lst []] ++ [.lst [], .lst (G.map D.int)])
  have hGl : G.length = n.toNat := by rw [hG.length_eq, rangeI_length]
  have hbt : b < (s ++ t).length := by rw [List.length_append]; omega
  have hk : (s ++ t).length = s.length + t.length := List.length_append
  obtain ⟨x5, ts, y4, y5, f1, f2, f3, e5⟩ := asks_loop (s := s ++ t) (b := b) (n := n) (way := way) (t := [.lst [], .lst (G.map D.int)]) hk hbt ⟨a1, a2⟩ (G.take (1 + r).toNat) x4 (N + 1 + 1 + n + 1) time none [] d3 (by rw [List.length_take]; omega) ⟨b1, by omega⟩ (by rw [List.length_take]; simp; omega)
  have hms : (G.take (1 + r).toNat).length = (1 + r).toNat := by rw [List.length_take, hGl]; omega
  have hnd : G.Nodup := hG.nodup_iff.mpr rangeI_nodup
  have hva : VA (sortP (ts.zip (G.take (1 + r).toNat))) n := VA_sort f1 (by omega) (by omega) (hnd.sublist (List.take_sublist _ _)) f2 (fun m hm => rangeI_mem.mp (hG.mem_iff.mp (List.mem_of_mem_take hm))) h2 h5
  refine ⟨x5, _, [.lst ((ts.zip (G.take (1 + r).toNat)).map askD), .lst [], .lst (G.map D.int)], hva, f3.mono (by omega), ?_⟩
  have hs : sortedD (.lst ((ts.zip (G.take (1 + r).toNat)).map askD)) = some (.lst ((sortP (ts.zip (G.take (1 + r).toNat))).map askD)) := sorted_pairs _
  rw [B_base hb, B_base hb] at e5
  simp only [List.nil_append, List.map_nil, show sl none = Slot.no from rfl, List.map_take] at e5
  have g2 : ∀ {y : Bx} {c : Cell}, (B s b y (t ++ [.lst [], .lst [], c]))[s.length + (t.length + 1) + 1]? = some c := fun {y c} => by
    rw [← B_base hb]; exact B_get2 (k := s.length + t.length) hk
  have g0 : ∀ {y : Bx} {c : Cell} {u : Store}, (B s b y (t ++ c :: u))[s.length + t.length]? = some c := fun {y c u} => by
    rw [← B_base hb]; exact B_get0 hk
  have g0' : ∀ {y : Bx} {c : Cell} {u : Store} (h : s.length + t.length < (B s b y (t ++ c :: u)).length), (B s b y (t ++ c :: u))[s.length + t.length] = c := fun {y c u} h => by
    have := g0 (y := y) (c := c) (u := u)
    rw [List.getElem?_eq_getElem h] at this
    exact Option.some.inj this
  have hcut : cutL (G.map D.int) none (some (1 + r)) = (G.map D.int).take (1 + r).toNat := cut_to (by omega)
  simp [B_app] at e2 e3 e4
  simp [p__law_asks, b__law_asks, startE, e1, e2, B_app, B_len, e3, e4, g2, g0, g0', hcut, e5, hs, asksD]
end
end K90

namespace K90
open PySem QB L2
def okS : Nat → D → Bool
  | _ + 1, .int _ => true
  | n + 1, .tup ds => ds.all (okS n) && decide (ds.length ≤ 1000)
  | n + 1, .lst ds => ds.all (okS n) && decide (ds.length ≤ 1000)
  | _, _ => false
theorem filter_no {α : Type} : ∀ xs : List α, xs.filter (fun _ => false) = []
  | [] => rfl
  | x :: xs => by rw [List.filter_cons_of_neg (by simp), filter_no xs]
theorem same_refl (n : Nat) : ∀ (d : D) (s : Store), okS n d = true → p__law_same n [d, d] s = .ok (.bl true) s := by
  induction n with
  | zero => intro d s h; cases d <;> simp [okS] at h
  | succ n ih =>
    intro d s h
    cases d with
    | int i => simp [p__law_same, startE, isTy]
    | tup ds =>
      simp only [okS, Bool.and_eq_true, List.all_eq_true, decide_eq_true_eq] at h
      have c1 : ds.length ≤ 16777216 := by omega
      simp [p__law_same, startE, isTy, c1]
      rw [runComp_map (g := fun i : Nat => D.int (0 + (i : Nat))) (fe := fun i : Nat => [.val (.tup ds), .val (.tup ds), .val (.int (0 + (i : Nat)))]) (b := fun _ => false) (y := fun _ => D.non) (List.range ds.length) rfl rfl]
      · simp [filter_no]
      · intro i hi
        have hlt : i < ds.length := List.mem_range.mp hi
        have e : atI ds (0 + (i : Int)) = some ds[i] := by rw [Int.zero_add, atI_nat hlt]; exact List.getElem?_eq_getElem hlt
        have := ih ds[i] s (h.1 _ (List.getElem_mem hlt))
        rw [Int.zero_add] at e
        simp [e, this]
      · rw [List.length_range]; omega
    | lst ds =>
      simp only [okS, Bool.and_eq_true, List.all_eq_true, decide_eq_true_eq] at h
      have c1 : ds.length ≤ 16777216 := by omega
      simp [p__law_same, startE, isTy, c1]
      rw [runComp_map (g := fun i : Nat => D.int (0 + (i : Nat))) (fe := fun i : Nat => [.val (.lst ds), .val (.lst ds), .val (.int (0 + (i : Nat)))]) (b := fun _ => false) (y := fun _ => D.non) (List.range ds.length) rfl rfl]
      · simp [filter_no]
      · intro i hi
        have hlt : i < ds.length := List.mem_range.mp hi
        have e : atI ds (0 + (i : Int)) = some ds[i] := by rw [Int.zero_add, atI_nat hlt]; exact List.getElem?_eq_getElem hlt
        have := ih ds[i] s (h.1 _ (List.getElem_mem hlt))
        rw [Int.zero_add] at e
        simp [e, this]
      · rw [List.length_range]; omega
    | _ => simp [okS] at h
theorem okS_ints {n : Nat} {ns : List Int} : (ns.map D.int).all (okS (n + 1)) = true := by
  rw [List.all_map]
  exact List.all_eq_true.mpr fun a _ => rfl
/-- what a protocol tells -/
def outD (os : List Int) (c : Int) (ts : List Int) : D := .tup [.tup (os.map D.int), .int c, .tup (ts.map D.int)]
theorem okS_out {n : Nat} {os ts : List Int} {c : Int} (h1 : os.length ≤ 1000) (h2 : ts.length ≤ 1000) : okS (n + 3) (outD os c ts) = true := by
  unfold outD okS
  simp only [List.all_cons, List.all_nil, Bool.and_true, List.length_cons, List.length_nil]
  have e1 : okS (n + 2) (.tup (os.map D.int)) = true := by
    unfold okS
    rw [okS_ints, List.length_map, decide_eq_true h1]; rfl
  have e2 : okS (n + 2) (.tup (ts.map D.int)) = true := by
    unfold okS
    rw [okS_ints, List.length_map, decide_eq_true h2]; rfl
  rw [e1, e2]
  rfl
end K90

namespace K90
open PySem QB L2
@[simp] theorem r_callK {g : Fn} {n m : Nat} {ix : List Nat} {ms mk : M (List D)} {e : PEnv} {s : Store} : callK g n m ix ms mk e s = (((ms e s).andThen fun ds => bnd mk fun es => chk (decide (ds.length = n ∧ es.length = m)) (rt (permL ix (ds ++ es)))).andThen fun ds => fun e s => match g ds s with
  | .ok d s' => .ok d e s'
  | .exc x s' => .exc x e s'
  | .bad => .bad) := rfl
section
variable {as : List Ask} {d n start way : Int} {s : Store}
def allD3 (as : List Ask) (d n start : Int) : List D := [marksD as n (marksT d none as), tokD (tokR as d n start), leaderD as d]
theorem law_all_ok (h : VA as n) (hd : 1 ≤ d) (hd5 : d ≤ 5) (h0 : 0 ≤ start) (h20 : start ≤ 20) : ∃ u, p__law_all [.int way, asksD as, .int d, .int n, .int start] s = .ok (.lst (allD3 as d n start)) (s ++ u) := by
  obtain ⟨u1, e1⟩ := by_marks_ok (s := s) h hd hd5
  obtain ⟨u2, e2⟩ := by_token_ok (s := s ++ u1) h hd hd5 h0 h20
  obtain ⟨u3, e3⟩ := by_leader_ok (s := s ++ u1 ++ u2) h hd hd5
  refine ⟨u1 ++ (u2 ++ u3), ?_⟩
  simp only [List.append_assoc] at e2 e3
  by_cases hw : way = 0
  · simp [p__law_all, b__law_all, startE, hw, e1, e2, e3, allD3]
  · simp [p__law_all, b__law_all, startE, hw, e1, e2, e3, allD3, permL]
end
/-! ### fair -/
structure Fair (as : List Ask) (os ts : List Int) : Prop where
  perm : os.Perm (as.map (·.2))
  len : ts.length = os.length
  ge : ∀ k (h1 : k < ts.length) (h2 : k < os.length) v, getL (wt as) os[k] = some v → v ≤ ts[k]
  gap : ∀ k (h : k + 1 < ts.length), ts[k] + 2 ≤ ts[k + 1]
section
variable {as : List Ask} {n c : Int} {s : Store} {os ts : List Int}
theorem getL_wt_mem (h : VA as n) {m : Int} (hm : m ∈ as.map (·.2)) : ∃ v, getL (wt as) m = some v := by
  obtain ⟨a, ha, rfl⟩ := List.mem_map.mp hm
  exact ⟨a.1, getL_of_mem (lv := wt as) (p := (a.2, a.1)) (by rw [wt_keys]; exact h.nd) (List.mem_map.mpr ⟨a, ha, rfl⟩)⟩
theorem fair_ok (h : VA as n) (f : Fair as os ts) : p__law_is_fair [asksD as, outD os c ts] s = .ok (.bl true) s := by
  have hl := h.len
  have hos : os.length = as.length := by rw [f.perm.length_eq, List.length_map]
  have hts := f.len
  have c1 : os.length ≤ 16777216 := by omega
  have hne : as.length ≠ 0 := fun e => h.ne (List.eq_nil_of_length_eq_zero e)
  have es : sortI os = sortI (as.map (·.2)) := sortI_congr f.perm
  have hp : dictD (.lst ((wt as).map pairD)) = some (.dct (lvD (wt as))) := dict_pairs (by rw [wt_keys]; exact h.nd)
  have hpp : (as.map fun a => D.tup [.int a.2, .int a.1]) = (wt as).map pairD := by unfold wt; rw [List.map_map]; rfl
  generalize hO : os.map D.int = O
  generalize hT : ts.map D.int = T
  have aO : ∀ j (hj : j < os.length), atI O (j : Int) = some (.int os[j]) := fun j hj => by subst hO; rw [atI_nat (by rw [List.length_map]; exact hj)]; simp [hj]
  have aT : ∀ j (hj : j < ts.length), atI T (j : Int) = some (.int ts[j]) := fun j hj => by subst hT; rw [atI_nat (by rw [List.length_map]; exact hj)]; simp [hj]
  have hOl : O.length = os.length := by rw [← hO, List.length_map]
  have hTl : T.length = os.length := by rw [← hT, List.length_map]; exact hts
  have so : sortedD (.lst O) = some (.lst ((sortI os).map D.int)) := by rw [← hO]; exact sorted_ints os
  have sa : sortedD (.lst (as.map fun a => .int a.2)) = some (.lst ((sortI os).map D.int)) := by rw [map_snd, es]; exact sorted_ints _
  have nn : neD (.lst ((sortI os).map D.int)) (.lst ((sortI os).map D.int)) = some (.bl false) := by rw [ne_ints]; simp
  simp [p__law_is_fair, b__law_is_fair, startE, isTy, asksD, outD, hO, hT, so]
  rw [runComp_all (g := askD) (fe := fun a => [.val (.tup (as.map askD)), .val (.tup [.tup O, .int c, .tup T]), .val (.tup O), .val (.int c), .val (.tup T), .no, .val (.int a.1), .val (.int a.2), .no]) (y := fun a => .int a.2) as rfl rfl]
  · simp [sa, nn, hOl, hTl]
    rw [runComp_all (g := askD) (fe := fun a => [.val (.tup (as.map askD)), .val (.tup [.tup O, .int c, .tup T]), .val (.tup O), .val (.int c), .val (.tup T), .no, .val (.int a.1), .val (.int a.2), .no]) (y := fun a => .tup [.int a.2, .int a.1]) as rfl rfl]
    · rw [hpp]
      simp [hp, hOl, c1]
      rw [runComp_map (g := fun i : Nat => D.int (0 + (i : Nat))) (fe := fun i : Nat => [.val (.tup (as.map askD)), .val (.tup [.tup O, .int c, .tup T]), .val (.tup O), .val (.int c), .val (.tup T), .val (.dct (lvD (wt as))), .no, .no, .val (.int (0 + (i : Nat)))]) (b := fun _ => false) (y := fun _ => D.non) (List.range os.length) rfl rfl]
      · have c3 : -4611686018427387904 < (os.length : Int) - 1 := by omega
        have c4 : (os.length : Int) - 1 < 4611686018427387904 := by omega
        simp [filter_no, hOl, c3, c4]
        rw [runComp_map (g := fun i : Nat => D.int (0 + (i : Nat))) (fe := fun i : Nat => [.val (.tup (as.map askD)), .val (.tup [.tup O, .int c, .tup T]), .val (.tup O), .val (.int c), .val (.tup T), .val (.dct (lvD (wt as))), .no, .no, .val (.int (0 + (i : Nat)))]) (b := fun _ => false) (y := fun _ => D.non) (List.range (os.length - 1)) rfl rfl]
        · simp [filter_no]
        · intro i hi
          have hlt : i < os.length - 1 := List.mem_range.mp hi
          have hlt2 : i + 1 < ts.length := by omega
          have hgap := f.gap i hlt2
          have et := aT i (by omega)
          have et2 : atI T ((i : Int) + 1) = some (.int ts[i + 1]) := by
            have : ((i : Int) + 1) = ((i + 1 : Nat) : Int) := by omega
            rw [this]; exact aT (i + 1) hlt2
          have : ¬ ts[i + 1] < ts[i] + 2 := by omega
          simp [et, et2, this]
        · rw [List.length_range]; omega
      · intro i hi
        have hlt : i < os.length := List.mem_range.mp hi
        have hlt2 : i < ts.length := by omega
        obtain ⟨v, hv⟩ := getL_wt_mem h (f.perm.mem_iff.mp (List.getElem_mem hlt))
        have hge := f.ge i hlt2 hlt v hv
        have eo := aO i hlt
        have et := aT i hlt2
        have : ¬ ts[i] < v := by omega
        simp [eo, et, valD_lv, hv, this]
      · rw [List.length_range]; omega
    · intro a ha
      simp [askD]
    · omega
  · intro a ha
    simp [askD]
  · omega
end
end K90

namespace K90
open PySem QB L2
theorem Fair.of_pairs {as fs : List Ask} (h1 : (fs.map (·.1)).Perm (as.map (·.2))) (h2 : ∀ p ∈ fs, ∀ v, getL (wt as) p.1 = some v → v ≤ p.2) (h3 : fs.Pairwise fun p q => p.2 + 2 ≤ q.2) : Fair as (fs.map (·.1)) (fs.map (·.2)) := by
  refine ⟨h1, by simp, fun k h4 h5 v hv => ?_, fun k h4 => ?_⟩
  · have hk : k < fs.length := by simpa using h4
    have e1 : (fs.map (·.1))[k] = fs[k].1 := by simp
    have e2 : (fs.map (·.2))[k] = fs[k].2 := by simp
    rw [e2]
    rw [e1] at hv
    exact h2 _ (List.getElem_mem hk) v hv
  · have hk : k + 1 < fs.length := by simpa using h4
    have e1 : (fs.map (·.2))[k] = fs[k].2 := by simp
    have e2 : (fs.map (·.2))[k + 1] = fs[k + 1].2 := by simp
    rw [e1, e2]
    exact List.pairwise_iff_getElem.mp h3 k (k + 1) (by omega) hk (by omega)
theorem getL_wt_of {as : List Ask} {n : Int} (h : VA as n) {a : Ask} (ha : a ∈ as) : getL (wt as) a.2 = some a.1 :=
  getL_of_mem (lv := wt as) (p := (a.2, a.1)) (by rw [wt_keys]; exact h.nd) (List.mem_map.mpr ⟨a, ha, rfl⟩)
/-! marks -/
def marksP (d : Int) : Option Int → List Ask → List Ask
  | _, [] => []
  | last, a :: r => (a.2, nextM d last a) :: marksP d (some (nextM d last a)) r
theorem marksP_fst {d : Int} : ∀ (r : List Ask) (last : Option Int), (marksP d last r).map (·.1) = r.map (·.2)
  | [], _ => rfl
  | a :: r, last => by simp only [marksP, List.map_cons]; rw [marksP_fst r]
theorem marksP_snd {d : Int} : ∀ (r : List Ask) (last : Option Int), (marksP d last r).map (·.2) = marksT d last r
  | [], _ => rfl
  | a :: r, last => by simp only [marksP, marksT, List.map_cons]; rw [marksP_snd r]
theorem nextM_ge {d : Int} {last : Option Int} {a : Ask} (hd : 1 ≤ d) : a.1 ≤ nextM d last a ∧ ∀ l, last = some l → l + 2 ≤ nextM d last a := by
  unfold nextM
  cases last with
  | none => exact ⟨by dsimp only; omega, fun l e => by cases e⟩
  | some l =>
    dsimp only
    refine ⟨by split <;> omega, fun l' e => ?_⟩
    cases e
    split <;> omega
theorem marksP_mem {d : Int} (hd : 1 ≤ d) : ∀ (r : List Ask) (last : Option Int) (p : Ask), p ∈ marksP d last r → (∃ a ∈ r, p.1 = a.2 ∧ a.1 ≤ p.2) ∧ ∀ l, last = some l → l + 2 ≤ p.2
  | [], _, _, h => by cases h
  | a :: r, last, p, h => by
    have hg := nextM_ge (last := last) (a := a) hd
    rcases List.mem_cons.mp h with e | h
    · subst e
      exact ⟨⟨a, List.mem_cons_self, rfl, hg.1⟩, hg.2⟩
    · obtain ⟨⟨b, hb, h1, h2⟩, h3⟩ := marksP_mem hd r _ p h
      refine ⟨⟨b, List.mem_cons_of_mem _ hb, h1, h2⟩, fun l e => ?_⟩
      have := hg.2 l e
      have := h3 _ rfl
      omega
theorem marksP_gap {d : Int} (hd : 1 ≤ d) : ∀ (r : List Ask) (last : Option Int), (marksP d last r).Pairwise fun p q => p.2 + 2 ≤ q.2
  | [], _ => List.Pairwise.nil
  | a :: r, last => List.Pairwise.cons (fun q hq => (marksP_mem hd r _ q hq).2 _ rfl) (marksP_gap hd r _)
theorem fair_marks {as : List Ask} {d n : Int} (h : VA as n) (hd : 1 ≤ d) : Fair as (as.map (·.2)) (marksT d none as) := by
  rw [← marksP_fst as none (d := d), ← marksP_snd as none]
  refine Fair.of_pairs (by rw [marksP_fst]) (fun p hp v hv => ?_) (marksP_gap hd as none)
  obtain ⟨⟨a, ha, h1, h2⟩, _⟩ := marksP_mem hd as none p hp
  rw [h1, getL_wt_of h ha] at hv
  cases hv; exact h2
/-! leader -/
def leaderP (d : Int) : Int → List Ask → List Ask
  | _, [] => []
  | f, a :: r => (a.2, maxL [a.1, f] + far d a.2) :: leaderP d (maxL [a.1, f] + far d a.2 + 2 + far d a.2) r
theorem leaderP_fst {d : Int} : ∀ (r : List Ask) (f : Int), (leaderP d f r).map (·.1) = r.map (·.2)
  | [], _ => rfl
  | a :: r, f => by simp only [leaderP, List.map_cons]; rw [leaderP_fst r]
theorem leaderP_snd {d : Int} : ∀ (r : List Ask) (f : Int), (leaderP d f r).map (·.2) = leaderT d f r
  | [], _ => rfl
  | a :: r, f => by simp only [leaderP, leaderT, List.map_cons]; rw [leaderP_snd r]
theorem far_nn {d m : Int} (hd : 1 ≤ d) : 0 ≤ far d m := by unfold far; split <;> omega
theorem leaderP_mem {d : Int} (hd : 1 ≤ d) : ∀ (r : List Ask) (f : Int) (p : Ask), p ∈ leaderP d f r → (∃ a ∈ r, p.1 = a.2 ∧ a.1 ≤ p.2) ∧ f ≤ p.2
  | [], _, _, h => by cases h
  | a :: r, f, p, h => by
    have h0 := far_nn (m := a.2) hd
    have hm : a.1 ≤ maxL [a.1, f] ∧ f ≤ maxL [a.1, f] := by rw [maxL2]; split <;> omega
    rcases List.mem_cons.mp h with e | h
    · subst e
      exact ⟨⟨a, List.mem_cons_self, rfl, by dsimp only; omega⟩, by dsimp only; omega⟩
    · obtain ⟨⟨b, hb, h1, h2⟩, h3⟩ := leaderP_mem hd r _ p h
      exact ⟨⟨b, List.mem_cons_of_mem _ hb, h1, h2⟩, by omega⟩
theorem leaderP_gap {d : Int} (hd : 1 ≤ d) : ∀ (r : List Ask) (f : Int), (leaderP d f r).Pairwise fun p q => p.2 + 2 ≤ q.2
  | [], _ => List.Pairwise.nil
  | a :: r, f => List.Pairwise.cons (fun q hq => by
      have := (leaderP_mem hd r _ q hq).2
      have := far_nn (m := a.2) hd
      dsimp only; omega) (leaderP_gap hd r _)
theorem sortL_perm {d : Int} {as : List Ask} : (sortL d as).Perm (rowsL d as) := List.mergeSort_perm _ _
theorem rowsL_snd {d : Int} {as : List Ask} : (rowsL d as).map (·.2) = as.map (·.2) := by unfold rowsL; rw [List.map_map]; rfl
theorem fair_leader {as : List Ask} {d n : Int} (h : VA as n) (hd : 1 ≤ d) : Fair as ((sortL d as).map (·.2)) (leaderT d 0 (sortL d as)) := by
  rw [← leaderP_fst (sortL d as) 0 (d := d), ← leaderP_snd (sortL d as) 0]
  refine Fair.of_pairs ?_ (fun p hp v hv => ?_) (leaderP_gap hd _ 0)
  · rw [leaderP_fst]
    have := (sortL_perm (d := d) (as := as)).map (·.2)
    rw [rowsL_snd] at this; exact this
  · obtain ⟨⟨a, ha, h1, h2⟩, _⟩ := leaderP_mem hd _ 0 p hp
    obtain ⟨b, hb, rfl⟩ := List.mem_map.mp (sortL_perm.mem_iff.mp ha)
    rw [h1] at hv
    rw [getL_wt_of h hb] at hv
    cases hv
    have := far_nn (m := b.2) hd
    dsimp only at h2; omega
/-! token -/
theorem perm_one {h : Int} : ∀ {L : List Ask}, (L.map (·.2)).Nodup → (∃ a ∈ L, a.2 = h) → (h :: (L.filter fun a => !decide (a.2 = h)).map (·.2)).Perm (L.map (·.2))
  | [], _, ⟨a, ha, _⟩ => by cases ha
  | b :: L, hn, ⟨a, ha, e⟩ => by
    have hn' := List.nodup_cons.mp hn
    by_cases hb : b.2 = h
    · have : (L.filter fun a => !decide (a.2 = h)) = L := by
        rw [List.filter_eq_self]
        intro c hc
        have : c.2 ≠ h := fun z => hn'.1 (List.mem_map.mpr ⟨c, hc, z.trans hb.symm⟩)
        simp [this]
      rw [List.filter_cons_of_neg (by simp [hb]), this, List.map_cons, hb]
    · rw [List.filter_cons_of_pos (by simp [hb]), List.map_cons, List.map_cons]
      rcases List.mem_cons.mp ha with e2 | ha
      · rw [← e2] at hb; exact absurd e hb
      · exact (List.Perm.swap _ _ _).trans ((perm_one hn'.2 ⟨a, ha, e⟩).cons _)
structure TF (as : List Ask) (n : Int) (σ : TS) : Prop where
  perm : (σ.fs.map (·.1) ++ σ.L.map (·.2)).Perm (as.map (·.2))
  ge : ∀ p ∈ σ.fs, ∀ v, getL (wt as) p.1 = some v → v ≤ p.2
  gap : σ.fs.Pairwise fun p q => p.2 + 2 ≤ q.2
  le : ∀ p ∈ σ.fs, p.2 + 2 ≤ σ.t
  sub : ∀ a ∈ σ.L, a ∈ as
  h : σ.h = σ.st % n
  last : σ.L = [] → ∃ fs' t, σ.fs = fs' ++ [(σ.h, t)]
theorem TF.next {as : List Ask} {d n : Int} {σ : TS} (F : TF as n σ) (hV : VA as n) (hd : 1 ≤ d) (hL : σ.L ≠ []) : TF as n (tok1 d n σ) := by
  have hndL : (σ.L.map (·.2)).Nodup := by
    have := F.perm.nodup_iff.mpr hV.nd
    exact (List.nodup_append.mp this).2.1
  have key : TF as n (srv σ) := by
    unfold K90.srv
    split
    · rename_i hr
      have hf : ∃ a ∈ σ.L, a.2 = σ.h ∧ a.1 ≤ σ.t := by
        unfold rdy at hr
        cases e : σ.L.find? fun a => decide (a.2 = σ.h) with
        | none => rw [e] at hr; cases hr
        | some a =>
          rw [e] at hr
          exact ⟨a, List.mem_of_find?_eq_some e, by have := List.find?_some e; simpa using this, by simpa using hr⟩
      obtain ⟨a, ha, e1, e2⟩ := hf
      have hg : getL (wt as) σ.h = some a.1 := by rw [← e1]; exact getL_wt_of hV (F.sub a ha)
      refine ⟨?_, fun p hp v hv => ?_, ?_, fun p hp => ?_, fun b hb => F.sub b (List.mem_filter.mp hb).1, F.h, fun _ => ⟨σ.fs, σ.t, rfl⟩⟩
      · show ((σ.fs ++ [(σ.h, σ.t)]).map (·.1) ++ (σ.L.filter _).map (·.2)).Perm _
        rw [List.map_append, List.append_assoc]
        refine List.Perm.trans ?_ F.perm
        exact List.Perm.append_left _ (perm_one hndL ⟨a, ha, e1⟩)
      · rcases List.mem_append.mp hp with hp | hp
        · exact F.ge p hp v hv
        · have : p = (σ.h, σ.t) := by simpa using hp
          subst this
          rw [hg] at hv; cases hv; exact e2
      · refine List.pairwise_append.mpr ⟨F.gap, List.pairwise_singleton _ _, fun p hp q hq => ?_⟩
        have : q = (σ.h, σ.t) := by simpa using hq
        subst this
        exact F.le p hp
      · show p.2 + 2 ≤ σ.t + 2
        rcases List.mem_append.mp hp with hp | hp
        · have := F.le p hp; omega
        · have : p = (σ.h, σ.t) := by simpa using hp
          subst this
          exact Int.le_refl _
    · exact F
  unfold tok1 K90.mov
  split
  · exact key
  · rename_i h2
    refine ⟨key.perm, key.ge, key.gap, fun p hp => ?_, key.sub, ?_, fun e => absurd e h2⟩
    · have := key.le p hp
      show p.2 + 2 ≤ (K90.srv σ).t + d
      omega
    · show ((K90.srv σ).h + 1) % n = ((K90.srv σ).st + 1) % n
      rw [key.h, Int.add_emod, Int.emod_emod_of_dvd _ (Int.dvd_refl n), ← Int.add_emod]
theorem TF.tokN {as : List Ask} {d n : Int} (hV : VA as n) (hd : 1 ≤ d) : ∀ (k : Nat) {σ : TS}, TF as n σ → TF as n (tokN d n k σ)
  | 0, _, F => F
  | k + 1, σ, F => by
    show TF as n (if σ.L = [] then σ else K90.tokN d n k (tok1 d n σ))
    by_cases hL : σ.L = []
    · rw [if_pos hL]; exact F
    · rw [if_neg hL]; exact TF.tokN hV hd k (F.next hV hd hL)
theorem TF.zero {as : List Ask} {n start : Int} (hV : VA as n) : TF as n (tok0 as start) :=
  ⟨by simp [tok0], (fun p hp => by cases hp), List.Pairwise.nil, (fun p hp => by cases hp), (fun a h => h), by simp [tok0], fun e => absurd e hV.ne⟩
theorem TF.fin {as : List Ask} {d n start : Int} (hV : VA as n) (hd : 1 ≤ d) : TF as n (tokR as d n start) := (TF.zero hV).tokN hV hd 30
theorem fair_token {as : List Ask} {d n start : Int} (h : VA as n) (hd : 1 ≤ d) (h0 : 0 ≤ start) : Fair as ((tokR as d n start).fs.map (·.1)) ((tokR as d n start).fs.map (·.2)) := by
  have F := TF.fin (start := start) h hd
  have hL := tokR_done (d := d) (start := start) h hd h0
  have hp := F.perm
  rw [hL, List.map_nil, List.append_nil] at hp
  exact Fair.of_pairs hp F.ge F.gap
theorem token_last {as : List Ask} {d n start : Int} (h : VA as n) (hd : 1 ≤ d) (h0 : 0 ≤ start) : ∃ fs' m, (tokR as d n start).fs.map (·.1) = fs' ++ [m] ∧ ((tokR as d n start).st - m) % n = 0 := by
  have F := TF.fin (start := start) h hd
  have hL := tokR_done (d := d) (start := start) h hd h0
  obtain ⟨fs', t, e⟩ := F.last hL
  refine ⟨fs'.map (·.1), (tokR as d n start).h, by rw [e]; simp, ?_⟩
  rw [F.h]
  exact Int.emod_eq_zero_of_dvd (Int.dvd_self_sub_emod)
end K90

namespace K90
open PySem QB L2
/-! ### all asks later by more -/
def shA (more : Int) (a : Ask) : Ask := (a.1 + more, a.2)
def shL (more : Int) (as : List Ask) : List Ask := as.map (shA more)
theorem shL_snd {more : Int} {as : List Ask} : (shL more as).map (·.2) = as.map (·.2) := by unfold shL; rw [List.map_map]; rfl
theorem VA.shift {as : List Ask} {n more : Int} (h : VA as n) (h1 : ∀ a ∈ as, a.1 ≤ 15) (h0 : 0 ≤ more) (h5 : more ≤ 5) : VA (shL more as) n := by
  refine ⟨fun e => h.ne (List.map_eq_nil_iff.mp e), by unfold shL; rw [List.length_map]; exact h.len, ?_, by rw [shL_snd]; exact h.nd, fun a ha => ?_, fun a ha => ?_, h.n2, h.n5⟩
  · unfold shL
    rw [List.pairwise_map]
    refine h.srt.imp fun {a b} hab => ?_
    unfold ltA at *
    simp only [decide_eq_true_eq] at *
    show a.1 + more < b.1 + more ∨ a.1 + more = b.1 + more ∧ a.2 < b.2
    omega
  · obtain ⟨b, hb, rfl⟩ := List.mem_map.mp ha
    have := h.tm b hb
    have := h1 b hb
    show 0 ≤ b.1 + more ∧ b.1 + more ≤ 20
    omega
  · obtain ⟨b, hb, rfl⟩ := List.mem_map.mp ha
    exact h.mc b hb
theorem nextM_sh {d more : Int} {last : Option Int} {a : Ask} : nextM d (last.map (· + more)) (shA more a) = nextM d last a + more := by
  unfold nextM shA
  cases last with
  | none => dsimp only [Option.map]; omega
  | some l => dsimp only [Option.map]; split <;> split <;> omega
theorem marksT_sh {d more : Int} : ∀ (r : List Ask) (last : Option Int), marksT d (last.map (· + more)) (shL more r) = (marksT d last r).map (· + more)
  | [], _ => rfl
  | a :: r, last => by
    show nextM d (last.map (· + more)) (shA more a) :: marksT d (some (nextM d (last.map (· + more)) (shA more a))) (shL more r) = (nextM d last a :: marksT d (some (nextM d last a)) r).map (· + more)
    rw [nextM_sh, List.map_cons]
    have := marksT_sh r (some (nextM d last a)) (more := more) (d := d)
    rw [← this]; rfl
theorem leaderT_sh {d more : Int} : ∀ (r : List Ask) (f : Int), leaderT d (f + more) (shL more r) = (leaderT d f r).map (· + more)
  | [], _ => rfl
  | a :: r, f => by
    have e : maxL [a.1 + more, f + more] = maxL [a.1, f] + more := by rw [maxL2, maxL2]; split <;> split <;> omega
    show (maxL [a.1 + more, f + more] + far d a.2) :: leaderT d (maxL [a.1 + more, f + more] + far d a.2 + 2 + far d a.2) (shL more r) = _
    have e2 : maxL [a.1 + more, f + more] + far d a.2 + 2 + far d a.2 = (maxL [a.1, f] + far d a.2 + 2 + far d a.2) + more := by rw [e]; omega
    rw [e2, leaderT_sh r, e]
    show _ = (maxL [a.1, f] + far d a.2 + more) :: _
    congr 1
    omega
theorem leaderT_0 {d f : Int} {r : List Ask} (h : ∀ a ∈ r, f ≤ a.1) (h0 : ∀ a ∈ r, 0 ≤ a.1) : leaderT d f r = leaderT d 0 r := by
  cases r with
  | nil => rfl
  | cons a r =>
    have e : maxL [a.1, f] = maxL [a.1, 0] := by
      have := h a List.mem_cons_self
      have := h0 a List.mem_cons_self
      rw [maxL2, maxL2]; split <;> split <;> omega
    show (maxL [a.1, f] + far d a.2) :: leaderT d (maxL [a.1, f] + far d a.2 + 2 + far d a.2) r = (maxL [a.1, 0] + far d a.2) :: leaderT d (maxL [a.1, 0] + far d a.2 + 2 + far d a.2) r
    rw [e]
theorem rowsL_sh {d more : Int} {as : List Ask} : rowsL d (shL more as) = shL more (rowsL d as) := by
  unfold rowsL shL
  rw [List.map_map, List.map_map]
  apply List.map_congr_left
  intro a _
  show (a.1 + more + far d a.2, a.2) = (a.1 + far d a.2 + more, a.2)
  congr 1
  omega
theorem sortL_sh {d more : Int} {as : List Ask} : sortL d (shL more as) = shL more (sortL d as) := by
  rw [sortL_eq, sortL_eq, rowsL_sh]
  unfold sortP shL
  refine (List.map_mergeSort (f := shA more) (r := leP) (s := leP) ?_).symm
  intro a _ b _
  unfold leP shA
  dsimp only
  congr 1
  apply propext
  constructor <;> intro h <;> omega
theorem cnt_sh {more : Int} {as : List Ask} : cnt (shL more as) = cnt as := by
  unfold cnt shL
  rw [List.filter_map, List.length_map]
  rfl
def shT (more : Int) (σ : TS) : TS := ⟨shL more σ.L, shF more σ.fs, σ.t + more, σ.h, σ.st⟩
where shF (more : Int) (fs : List Ask) : List Ask := fs.map fun p => (p.1, p.2 + more)
theorem rdy_sh {more : Int} {σ : TS} : rdy (shT more σ) = rdy σ := by
  unfold rdy shT shL
  dsimp only
  rw [List.find?_map, Option.map_map]
  have e1 : ((fun a : Ask => decide (a.2 = σ.h)) ∘ shA more) = fun a : Ask => decide (a.2 = σ.h) := rfl
  rw [e1]
  congr 2
  funext a
  show decide (a.1 + more ≤ σ.t + more) = decide (a.1 ≤ σ.t)
  congr 1
  apply propext
  constructor <;> intro h <;> omega
theorem srv_sh {more : Int} {σ : TS} : srv (shT more σ) = shT more (srv σ) := by
  unfold srv
  rw [rdy_sh]
  split
  · unfold shT shL shT.shF
    dsimp only
    rw [List.filter_map, List.map_append]
    congr 1
    omega
  · rfl
theorem shL_nil {more : Int} {L : List Ask} : shL more L = [] ↔ L = [] := by unfold shL; exact List.map_eq_nil_iff
theorem mov_sh {d n more : Int} {σ : TS} : mov d n (shT more σ) = shT more (mov d n σ) := by
  unfold mov
  by_cases h : σ.L = []
  · rw [if_pos h, if_pos (show (shT more σ).L = [] from shL_nil.mpr h)]
  · rw [if_neg h, if_neg (show ¬ (shT more σ).L = [] from fun e => h (shL_nil.mp e))]
    unfold shT
    dsimp only
    congr 1
    omega
theorem tokN_sh {d n more : Int} : ∀ (k : Nat) (σ : TS), tokN d n k (shT more σ) = shT more (tokN d n k σ)
  | 0, _ => rfl
  | k + 1, σ => by
    show (if (shT more σ).L = [] then shT more σ else tokN d n k (tok1 d n (shT more σ))) = shT more (if σ.L = [] then σ else tokN d n k (tok1 d n σ))
    by_cases h : σ.L = []
    · rw [if_pos h, if_pos (show (shT more σ).L = [] from shL_nil.mpr h)]
    · rw [if_neg h, if_neg (show ¬ (shT more σ).L = [] from fun e => h (shL_nil.mp e))]
      have : tok1 d n (shT more σ) = shT more (tok1 d n σ) := by unfold tok1; rw [srv_sh, mov_sh]
      rw [this, tokN_sh k]
theorem tokR_sh {as : List Ask} {d n start more : Int} : tokR (shL more as) d n (start + more) = shT more (tokR as d n start) := by
  unfold tokR
  rw [← tokN_sh]
  rfl
/-- moved by more -/
def mvD (more : Int) (os : List Int) (c : Int) (ts : List Int) : D := outD os c (ts.map (· + more))
theorem all_sh {as : List Ask} {d n start more : Int} (h : VA as n) (hd : 1 ≤ d) (h0 : 0 ≤ more) : allD3 (shL more as) d n (start + more) =
    [mvD more (as.map (·.2)) (2 * (n - 1) * as.length) (marksT d none as), mvD more ((tokR as d n start).fs.map (·.1)) (tokR as d n start).st ((tokR as d n start).fs.map (·.2)), mvD more ((sortL d as).map (·.2)) (3 * (cnt as : Int)) (leaderT d 0 (sortL d as))] := by
  unfold allD3
  congr 1
  · unfold marksD mvD outD
    have := marksT_sh (d := d) (more := more) as none
    rw [shL_snd, ← this]
    unfold shL
    rw [List.length_map]; rfl
  · congr 1
    · rw [tokR_sh]
      unfold tokD mvD outD shT shT.shF
      dsimp only
      simp only [List.map_map]
      rfl
    · congr 1
      unfold leaderD mvD outD
      rw [sortL_sh, shL_snd, cnt_sh]
      have hm : ∀ a ∈ sortL d as, 0 ≤ a.1 := fun a ha => by
        obtain ⟨b, hb, rfl⟩ := List.mem_map.mp (sortL_perm.mem_iff.mp ha)
        have := h.tm b hb
        have := far_nn (m := b.2) hd
        dsimp only; omega
      rw [← leaderT_sh, leaderT_0 (f := 0 + more)]
      · intro a ha
        obtain ⟨b, hb, rfl⟩ := List.mem_map.mp ha
        have := hm b hb
        show 0 + more ≤ b.1 + more
        omega
      · intro a ha
        obtain ⟨b, hb, rfl⟩ := List.mem_map.mp ha
        have := hm b hb
        show 0 ≤ b.1 + more
        omega
theorem moved_ok {os ts : List Int} {c more : Int} {s : Store} (ht : ts.length ≤ 100) : p__law_moved [outD os c ts, .int more] s = .ok (mvD more os c ts) s := by
  simp [p__law_moved, b__law_moved, startE, outD]
  rw [runComp_all (g := D.int) (fe := fun t => [.val (.tup [.tup (os.map D.int), .int c, .tup (ts.map D.int)]), .val (.int more), .val (.int t)]) (y := fun t => .int (t + more)) ts rfl rfl]
  · simp [mvD, outD]
  · intro t ht
    simp
  · omega
end K90

namespace K90
open PySem QB L2
section
variable {s : Store} {b : Nat} {N : Int} {x : Bx} {as : List Ask} {d n start way : Int}
theorem allB (h : VA as n) (hd : 1 ≤ d) (hd5 : d ≤ 5) (h0 : 0 ≤ start) (h20 : start ≤ 20) (way : Int) (T : Store) : ∃ T', p__law_all [.int way, asksD as, .int d, .int n, .int start] (B s b x T) = .ok (.lst (allD3 as d n start)) (B s b x T') := by
  obtain ⟨u, e⟩ := law_all_ok (way := way) (s := B s b x T) h hd hd5 h0 h20
  rw [B_app] at e
  exact ⟨_, e⟩
theorem dueB (h : VA as n) (hd : 1 ≤ d) (hd5 : d ≤ 5) (h0 : 0 ≤ start) (T : Store) : ∃ T1 T2 T3, p__law_marks [asksD as, .int d, .int n] (B s b x T) = .ok (marksD as n (marksT d none as)) (B s b x T1) ∧ p__law_token [asksD as, .int d, .int n, .int start] (B s b x T1) = .ok (tokD (tokR as d n start)) (B s b x T2) ∧ p__law_leader [asksD as, .int d, .int n] (B s b x T2) = .ok (leaderD as d) (B s b x T3) := by
  obtain ⟨u1, e1⟩ := law_marks_ok (s := B s b x T) h hd hd5
  rw [B_app] at e1
  obtain ⟨u2, e2⟩ := law_token_ok (s := B s b x (T ++ u1)) h hd h0
  rw [B_app] at e2
  obtain ⟨u3, e3⟩ := law_leader_ok (s := B s b x (T ++ u1 ++ u2)) h hd hd5
  rw [B_app] at e3
  exact ⟨_, _, _, e1, e2, e3⟩
theorem tok_len (h : VA as n) (hd : 1 ≤ d) (h0 : 0 ≤ start) : (tokR as d n start).fs.length = as.length := by
  have := (fair_token (start := start) h hd h0).perm.length_eq
  simpa using this
theorem marksT_len {d : Int} : ∀ (r : List Ask) (last : Option Int), (marksT d last r).length = r.length
  | [], _ => rfl
  | a :: r, last => by show (marksT d _ r).length + 1 = _; rw [marksT_len r]; rfl
theorem leaderT_len {d : Int} : ∀ (r : List Ask) (f : Int), (leaderT d f r).length = r.length
  | [], _ => rfl
  | a :: r, f => by show (leaderT d _ r).length + 1 = _; rw [leaderT_len r]; rfl
theorem okS_all (h : VA as n) (hd : 1 ≤ d) (h0 : 0 ≤ start) : okS 6 (.lst (allD3 as d n start)) = true := by
  have hl := h.len
  have h1 : okS 5 (marksD as n (marksT d none as)) = true := okS_out (n := 2) (by rw [List.length_map]; omega) (by rw [marksT_len]; omega)
  have h2 : okS 5 (tokD (tokR as d n start)) = true := okS_out (n := 2) (by rw [List.length_map, tok_len h hd h0]; omega) (by rw [List.length_map, tok_len h hd h0]; omega)
  have h3 : okS 5 (leaderD as d) = true := okS_out (n := 2) (by rw [List.length_map, sortL_len]; omega) (by rw [leaderT_len, sortL_len]; omega)
  unfold okS allD3
  simp only [List.all_cons, List.all_nil, h1, h2, h3]
  rfl
theorem fair_all (h : VA as n) (hd : 1 ≤ d) (h0 : 0 ≤ start) (S : Store) : ∀ o ∈ allD3 as d n start, p__law_is_fair [asksD as, o] S = .ok (.bl true) S := by
  intro o ho
  unfold allD3 at ho
  simp only [List.mem_cons, List.not_mem_nil, or_false] at ho
  rcases ho with rfl | rfl | rfl
  · exact fair_ok h (fair_marks h hd)
  · exact fair_ok h (fair_token h hd h0)
  · exact fair_ok h (fair_leader h hd)
theorem moved_all (h : VA as n) (hd : 1 ≤ d) (h0 : 0 ≤ start) {more : Int} (S : Store) : ∀ o ∈ allD3 as d n start, ∃ v, p__law_moved [o, .int more] S = .ok v S := by
  intro o ho
  have hl := h.len
  unfold allD3 at ho
  simp only [List.mem_cons, List.not_mem_nil, or_false] at ho
  rcases ho with rfl | rfl | rfl
  · exact ⟨_, moved_ok (by rw [marksT_len]; omega)⟩
  · exact ⟨_, moved_ok (by rw [List.length_map, tok_len h hd h0]; omega)⟩
  · exact ⟨_, moved_ok (by rw [leaderT_len, sortL_len]; omega)⟩
theorem asks_right_ok (hb : b < s.length) (hx : BxOk N x) (h2 : 2 ≤ n) (h5 : n ≤ 5) (hN : N ≤ 700000) (T : Store) :
    ∃ (x' : Bx) (T' : Store), BxOk (N + 110) x' ∧ p__law_asks_right [.ref b, .int way, .int n] (B s b x T) = .ok (.bl true) (B s b x' T') := by
  obtain ⟨x1, as, u, hV, hx1, e1⟩ := asks_ok hb hx h2 h5 (by omega) T
  generalize T ++ u = T1 at e1
  obtain ⟨r, x2, a1, a2, hx2, e2⟩ := takeB (many := 5) hb hx1 (by omega) (by omega) (by omega) T1
  obtain ⟨start, x3, b1, b2, hx3, e3⟩ := takeB (many := 12) hb hx2 (by omega) (by omega) (by omega) T1
  have hd : 1 ≤ 1 + r := by omega
  have hd5 : 1 + r ≤ 5 := by omega
  generalize hdd : 1 + r = d at hd hd5
  obtain ⟨T2, e4⟩ := allB (s := s) (b := b) (x := x3) hV hd hd5 b1 (by omega) way T1
  obtain ⟨T3, T4, T5, e5, e6, e7⟩ := dueB (s := s) (b := b) (x := x3) hV hd hd5 b1 T2
  have esame := same_refl 6 (.lst (allD3 as d n start)) (B s b x3 T5) (okS_all hV hd b1)
  obtain ⟨T6, e8⟩ := allB (s := s) (b := b) (x := x3) hV hd hd5 b1 (by omega) (1 - way) T5
  have esame2 := same_refl 6 (.lst (allD3 as d n start)) (B s b x3 T6) (okS_all hV hd b1)
  have hfair := fair_all hV hd b1 (B s b x3 T5)
  have hdue : ([marksD as n (marksT d none as), tokD (tokR as d n start), leaderD as d] : List D) = allD3 as d n start := rfl
  obtain ⟨fs', m, hfs, hpar⟩ := token_last (start := start) hV hd b1
  have hl := hV.len
  have hn0 : 0 < n := by omega
  have ea1 : atI (allD3 as d n start) 1 = some (.tup [.tup (fs'.map D.int ++ [.int m]), .int (tokR as d n start).st, .tup (((tokR as d n start).fs.map (·.2)).map D.int)]) := by
    unfold allD3
    rw [r_at1]
    unfold tokD
    rw [hfs, List.map_append]; rfl
  have eat : atI (fs'.map D.int ++ [D.int m]) (-1) = some (.int m) := atI_last
  have elen : (allD3 as d n start).length = 3 := rfl
  have hall15 : (as.filter fun a => decide (15 < a.1)) = [] → ∀ a ∈ as, a.1 ≤ 15 := fun e a ha => by
    have := List.filter_eq_nil_iff.mp e a ha
    simp at this; exact this
  have hmoved : ∀ more, 0 ≤ more → ∀ S, ∀ o ∈ allD3 as d n start, ∃ v, p__law_moved [o, .int more] S = .ok v S := fun more _ S => moved_all hV hd b1 S
  have hsh : ∀ more, 0 ≤ more → allD3 (shL more as) d n (start + more) = [mvD more (as.map (·.2)) (2 * (n - 1) * as.length) (marksT d none as), mvD more ((tokR as d n start).fs.map (·.1)) (tokR as d n start).st ((tokR as d n start).fs.map (·.2)), mvD more ((sortL d as).map (·.2)) (3 * (cnt as : Int)) (leaderT d 0 (sortL d as))] := fun more h => all_sh hV hd h
  obtain ⟨outs, ho1, ho2, ho3⟩ : ∃ outs : List (List Int × Int × List Int), allD3 as d n start = outs.map (fun t => outD t.1 t.2.1 t.2.2) ∧ (∀ t ∈ outs, t.2.2.length ≤ 100) ∧ ∀ more, 0 ≤ more → allD3 (shL more as) d n (start + more) = outs.map (fun t => mvD more t.1 t.2.1 t.2.2) := by
    refine ⟨[(as.map (·.2), 2 * (n - 1) * as.length, marksT d none as), ((tokR as d n start).fs.map (·.1), (tokR as d n start).st, (tokR as d n start).fs.map (·.2)), ((sortL d as).map (·.2), 3 * (cnt as : Int), leaderT d 0 (sortL d as))], rfl, fun t ht => ?_, fun more h => hsh more h⟩
    simp only [List.mem_cons, List.not_mem_nil, or_false] at ht
    rcases ht with rfl | rfl | rfl
    · dsimp only; rw [marksT_len]; omega
    · dsimp only; rw [List.length_map, tok_len hV hd b1]; omega
    · dsimp only; rw [leaderT_len, sortL_len]; omega
  generalize hall : allD3 as d n start = all at e4 esame e8 esame2 hfair hdue ea1 elen hmoved ho1
  have hc1 : runComp (.seq (.lst all)) (setM 13) (QB.notM (boolM (callM p__law_is_fair (consM (varM 3) (consM (varM 13) (rt [])))))) (stepL (varM 13)) [13] (.lst []) [.val (.ref b), .val (.int way), .val (.int n), .val (asksD as), .val (.int d), .val (.int start), .val (.lst all), .val (.lst all), .no, .no, .no, .no, .no, .no] (B s b x3 T5) =
      .ok (.lst []) [.val (.ref b), .val (.int way), .val (.int n), .val (asksD as), .val (.int d), .val (.int start), .val (.lst all), .val (.lst all), .no, .no, .no, .no, .no, .no] (B s b x3 T5) := by
    rw [runComp_map (g := fun o : D => o) (fe := fun o => [.val (.ref b), .val (.int way), .val (.int n), .val (asksD as), .val (.int d), .val (.int start), .val (.lst all), .val (.lst all), .no, .no, .no, .no, .no, .val o]) (b := fun _ => false) (y := fun _ => D.non) all (by simp) rfl]
    · simp [filter_no]
    · intro o ho
      simp [hfair o ho]
    · omega
  have hc2 : runComp (.seq (asksD as)) (tupT 2 (consT (setM 11) (consT (setM 12) nilT))) (boolM (op2M gtD (bvarM 11) (toB (rt (.int 15))))) (stepL (varM 11)) [11, 12] (.lst []) [.val (.ref b), .val (.int way), .val (.int n), .val (asksD as), .val (.int d), .val (.int start), .val (.lst all), .val (.lst all), .no, .no, .no, .no, .no, .no] (B s b x3 T6) =
      .ok (.lst (((as.filter fun a => decide (15 < a.1)).map (·.1)).map D.int)) [.val (.ref b), .val (.int way), .val (.int n), .val (asksD as), .val (.int d), .val (.int start), .val (.lst all), .val (.lst all), .no, .no, .no, .no, .no, .no] (B s b x3 T6) := by
    rw [runComp_map (g := askD) (fe := fun a => [.val (.ref b), .val (.int way), .val (.int n), .val (asksD as), .val (.int d), .val (.int start), .val (.lst all), .val (.lst all), .no, .no, .no, .val (.int a.1), .val (.int a.2), .no]) (b := fun a => decide (15 < a.1)) (y := fun a => .int a.1) as rfl rfl]
    · rw [fst_comp]; rfl
    · intro a ha
      simp [askD]
    · omega
  have tA : topD (asksD as) (B s b x3 T6) = some (as.map askD) := rfl
  have rA : ∀ {e : PEnv} {S : Store}, rd (.v (asksD as)) e S = .ok (asksD as) e S := rfl
  by_cases hbig : (as.filter fun a => decide (15 < a.1)) = []
  · obtain ⟨q, x4, c1, c2, hx4, e9⟩ := takeB (many := 5) hb hx3 (by omega) (by omega) (by omega) T6
    have hV2 : VA (shL (1 + q) as) n := hV.shift (hall15 hbig) (by omega) (by omega)
    obtain ⟨T7, e10⟩ := allB (s := s) (b := b) (x := x4) hV2 hd hd5 (start := start + (1 + q)) (by omega) (by omega) way T6
    have esame3 := same_refl 6 (.lst (allD3 (shL (1 + q) as) d n (start + (1 + q)))) (B s b x4 T7) (okS_all hV2 hd (by omega))
    rw [ho3 (1 + q) (by omega)] at e10 esame3
    generalize hmore : 1 + q = more at e10 esame3 hV2
    refine ⟨x4, T7, hx4.mono (by omega), ?_⟩
    rw [hbig, List.map_nil, List.map_nil] at hc2
    have hc3 : runComp (.seq (asksD as)) (tupT 2 (consT (setM 11) (consT (setM 12) nilT))) (rt true) (stepL (tupM (consM (op2M addD (bvarM 11) (bvarM 8)) (consM (varM 12) (rt []))))) [11, 12] (.lst []) [.val (.ref b), .val (.int way), .val (.int n), .val (asksD as), .val (.int d), .val (.int start), .val (.lst all), .val (.lst all), .val (.int more), .no, .no, .no, .no, .no] (B s b x4 T6) =
        .ok (.lst ((shL more as).map askD)) [.val (.ref b), .val (.int way), .val (.int n), .val (asksD as), .val (.int d), .val (.int start), .val (.lst all), .val (.lst all), .val (.int more), .no, .no, .no, .no, .no] (B s b x4 T6) := by
      rw [runComp_all (g := askD) (fe := fun a => [.val (.ref b), .val (.int way), .val (.int n), .val (asksD as), .val (.int d), .val (.int start), .val (.lst all), .val (.lst all), .val (.int more), .no, .no, .val (.int a.1), .val (.int a.2), .no]) (y := fun a => askD (shA more a)) as rfl rfl]
      · unfold shL; rw [List.map_map]; rfl
      · intro a ha
        simp [askD, shA]
      · omega
    have hc4 : ∀ X9, runComp (.seq (.lst all)) (setM 13) (rt true) (stepL (callM p__law_moved (consM (varM 13) (consM (varM 8) (rt []))))) [13] (.lst []) [.val (.ref b), .val (.int way), .val (.int n), .val (asksD as), .val (.int d), .val (.int start), .val (.lst all), .val (.lst all), .val (.int more), .val (asksD (shL more as)), .val X9, .no, .no, .no] (B s b x4 T7) =
        .ok (.lst (outs.map (fun t => mvD more t.1 t.2.1 t.2.2))) [.val (.ref b), .val (.int way), .val (.int n), .val (asksD as), .val (.int d), .val (.int start), .val (.lst all), .val (.lst all), .val (.int more), .val (asksD (shL more as)), .val X9, .no, .no, .no] (B s b x4 T7) := by
      intro X9
      rw [runComp_all (g := fun t : List Int × Int × List Int => outD t.1 t.2.1 t.2.2) (fe := fun t => [.val (.ref b), .val (.int way), .val (.int n), .val (asksD as), .val (.int d), .val (.int start), .val (.lst all), .val (.lst all), .val (.int more), .val (asksD (shL more as)), .val X9, .no, .no, .val (outD t.1 t.2.1 t.2.2)]) (y := fun t => mvD more t.1 t.2.1 t.2.2) outs (by rw [ho1]; rfl) rfl]
      · rfl
      · intro t ht
        simp [moved_ok (ho2 t ht)]
      · have := congrArg List.length ho1
        rw [List.length_map, elen] at this
        omega
    have tA2 : topD (asksD as) (B s b x4 T6) = some (as.map askD) := rfl
    have tup2 : D.tup ((shL more as).map askD) = asksD (shL more as) := rfl
    simp [p__law_asks_right, b__law_asks_right, startE, e1, e2, e3, hdd, e4, e5, e6, e7, hdue, elen, esame, hc1, e8, esame2, ea1, eat, hpar, hn0, tA, hc2, e9, hmore, tA2, hc3, tup2, e10, hc4, esame3]
  · refine ⟨x3, T6, hx3.mono (by omega), ?_⟩
    have hne : ((as.filter fun a => decide (15 < a.1)).map (·.1)) ≠ [] := fun e => hbig (List.map_eq_nil_iff.mp e)
    generalize ((as.filter fun a => decide (15 < a.1)).map (·.1)) = big at hc2 hne
    simp [p__law_asks_right, b__law_asks_right, startE, e1, e2, e3, hdd, e4, e5, e6, e7, hdue, elen, esame, hc1, e8, esame2, ea1, eat, hpar, hn0, tA, hc2, eq_ints_nil, hne]
end
end K90

namespace K90
open PySem QB L2
/-! ### asks far apart -/
def asF (d : Int) (ord : List Int) : List Ask := (rangeI ord.length).map fun k => (k * (2 + 3 * d), ord.getD k.toNat 0)
theorem rangeI_lt {n : Int} : (rangeI n).Pairwise fun a b => a < b := by
  unfold rangeI
  rw [List.pairwise_map]
  refine List.pairwise_lt_range.imp ?_
  intro a b h; omega
theorem asF_snd {d : Int} {ord : List Int} : (asF d ord).map (·.2) = ord := by
  unfold asF rangeI
  rw [List.map_map, List.map_map]
  apply List.ext_getElem?
  intro i
  rw [List.getElem?_map]
  by_cases h : i < ord.length
  · have e : (List.range (ord.length : Int).toNat)[i]? = some i := by
      rw [Int.toNat_natCast]; exact List.getElem?_range h
    rw [e]
    show some (ord.getD ((i : Int).toNat) 0) = _
    rw [Int.toNat_natCast, List.getD_eq_getElem?_getD, List.getElem?_eq_getElem h]; rfl
  · rw [List.getElem?_eq_none (by rw [List.length_range, Int.toNat_natCast]; omega), List.getElem?_eq_none (by omega)]; rfl
theorem asF_len {d : Int} {ord : List Int} : (asF d ord).length = ord.length := by
  unfold asF; rw [List.length_map, rangeI_length, Int.toNat_natCast]
theorem asF_sp {d : Int} {ord : List Int} (hd : 1 ≤ d) : (asF d ord).Pairwise fun a b => a.1 + 2 + 3 * d ≤ b.1 := by
  unfold asF
  rw [List.pairwise_map]
  refine rangeI_lt.imp ?_
  intro a b h
  dsimp only
  have : (a + 1) * (2 + 3 * d) ≤ b * (2 + 3 * d) := Int.mul_le_mul_of_nonneg_right (by omega) (by omega)
  rw [Int.add_mul, Int.one_mul] at this
  omega
theorem asF_mem {d : Int} {ord : List Int} (hd : 1 ≤ d) (hd2 : d ≤ 2) (h3 : ord.length ≤ 3) : ∀ a ∈ asF d ord, 0 ≤ a.1 ∧ a.1 ≤ 16 := fun a ha => by
  obtain ⟨k, hk, rfl⟩ := List.mem_map.mp ha
  obtain ⟨h1, h2⟩ := rangeI_mem.mp hk
  dsimp only
  rcases (by omega : k = 0 ∨ k = 1 ∨ k = 2) with e | e | e <;> subst e <;> omega
theorem VA_F {d n : Int} {ord : List Int} (hd : 1 ≤ d) (hd2 : d ≤ 2) (h3 : ord.length ≤ 3) (h1 : 1 ≤ ord.length) (hnd : ord.Nodup) (hm : ∀ m ∈ ord, 0 ≤ m ∧ m < n) (h2 : 2 ≤ n) (h5 : n ≤ 5) : VA (asF d ord) n := by
  refine ⟨fun e => ?_, by rw [asF_len]; omega, ?_, by rw [asF_snd]; exact hnd, fun a ha => ?_, fun a ha => ?_, h2, h5⟩
  · have := asF_len (d := d) (ord := ord)
    rw [e] at this; simp at this; omega
  · refine (asF_sp hd).imp fun {a b} h => ?_
    unfold ltA
    simp only [decide_eq_true_eq]
    left; omega
  · have := asF_mem hd hd2 h3 a ha; omega
  · have : a.2 ∈ (asF d ord).map (·.2) := List.mem_map.mpr ⟨a, ha, rfl⟩
    rw [asF_snd] at this
    exact hm _ this
theorem marksT_sp {d : Int} (hd : 1 ≤ d) : ∀ (r : List Ask) (last : Option Int), r.Pairwise (fun a b => a.1 + 2 + 3 * d ≤ b.1) → (∀ l, last = some l → ∀ a ∈ r, l + 2 + d ≤ a.1 + 2 * d) → marksT d last r = r.map fun a => a.1 + 2 * d
  | [], _, _, _ => rfl
  | a :: r, last, h, hl => by
    have h' := List.pairwise_cons.mp h
    have e : nextM d last a = a.1 + 2 * d := by
      unfold nextM
      cases last with
      | none => rfl
      | some l => have := hl l rfl a List.mem_cons_self; dsimp only; split <;> omega
    show nextM d last a :: marksT d (some (nextM d last a)) r = _
    rw [e, marksT_sp hd r _ h'.2 (fun l hl2 b hb => by cases hl2; have := h'.1 b hb; omega)]
    rfl
theorem leaderT_sp {d : Int} (hd : 1 ≤ d) : ∀ (r : List Ask) (f : Int), r.Pairwise (fun a b => a.1 + 2 + 3 * d ≤ b.1) → (∀ a ∈ r, f ≤ a.1) → leaderT d f (rowsL d r) = r.map fun a => a.1 + far d a.2 + far d a.2
  | [], _, _, _ => rfl
  | a :: r, f, h, hf => by
    have h' := List.pairwise_cons.mp h
    have h0 := far_nn (m := a.2) hd
    have hle : far d a.2 ≤ d := by unfold far; split <;> omega
    have hfa := hf a List.mem_cons_self
    have e : maxL [a.1 + far d a.2, f] = a.1 + far d a.2 := by rw [maxL2]; split <;> omega
    show (maxL [a.1 + far d a.2, f] + far d a.2) :: leaderT d (maxL [a.1 + far d a.2, f] + far d a.2 + 2 + far d a.2) (rowsL d r) = _
    rw [e, leaderT_sp hd r _ h'.2 (fun b hb => by have := h'.1 b hb; omega)]
    rfl
theorem sortL_sp {d : Int} {as : List Ask} (hd : 1 ≤ d) (h : as.Pairwise fun a b => a.1 + 2 + 3 * d ≤ b.1) : sortL d as = rowsL d as := by
  rw [sortL_eq]
  apply sortP_of
  unfold rowsL
  rw [List.pairwise_map]
  refine h.imp fun {a b} hab => ?_
  have h0 := far_nn (m := b.2) hd
  have hle : far d a.2 ≤ d := by unfold far; split <;> omega
  left
  dsimp only
  omega
theorem cnt_eq {as : List Ask} {ord : List Int} (h : as.map (·.2) = ord) (hm : ∀ m ∈ ord, 0 ≤ m) : (ord.filter fun m => decide (0 < m)).length = cnt as := by
  rw [← h, List.filter_map, List.length_map]
  unfold cnt
  congr 1
  apply List.filter_congr
  intro a ha
  have : 0 ≤ a.2 := hm _ (by rw [← h]; exact List.mem_map.mpr ⟨a, ha, rfl⟩)
  show decide (0 < a.2) = _
  by_cases h0 : a.2 = 0
  · simp [h0]
  · have : 0 < a.2 := by omega
    simp [h0, this]
section
variable {s : Store} {b : Nat} {N : Int} {x : Bx} {n way : Int}
theorem leaderB {as : List Ask} {d : Int} (h : VA as n) (hd : 1 ≤ d) (hd5 : d ≤ 5) (T : Store) : ∃ T1 T2, p_by_marks [asksD as, .int d, .int n] (B s b x T) = .ok (marksD as n (marksT d none as)) (B s b x T1) ∧ p_by_leader [asksD as, .int d, .int n] (B s b x T1) = .ok (leaderD as d) (B s b x T2) := by
  obtain ⟨u1, e1⟩ := by_marks_ok (s := B s b x T) h hd hd5
  rw [B_app] at e1
  obtain ⟨u2, e2⟩ := by_leader_ok (s := B s b x (T ++ u1)) h hd hd5
  rw [B_app] at e2
  exact ⟨_, _, e1, e2⟩
end
end K90

namespace K90
open PySem QB L2
section
variable {s : Store} {b : Nat} {N : Int} {x : Bx} {n way : Int}
theorem B_get1 {k : Nat} (hb : b < s.length) {t : Store} {c c1 : Cell} (hk : s.length + t.length + 1 = k) : (B s b x (t ++ [c, c1]))[k]? = some c1 := by
  subst hk
  rw [← B_base hb]
  unfold B
  exact st_getk1 (by rw [List.length_set, List.length_append])
theorem ord_at {ord : List Int} {k : Int} (h0 : 0 ≤ k) (h1 : k < ord.length) : atI (ord.map D.int) k = some (.int (ord.getD k.toNat 0)) := by
  have e : k = ((k.toNat : Nat) : Int) := by omega
  have hk : k.toNat < ord.length := by omega
  rw [e, atI_nat (by rw [List.length_map]; exact hk), List.getElem?_map, List.getElem?_eq_getElem hk, Int.toNat_natCast, List.getD_eq_getElem?_getD, List.getElem?_eq_getElem hk]
  rfl
theorem far_right_ok (hb : b < s.length) (hx : BxOk N x) (h2 : 2 ≤ n) (h5 : n ≤ 5) (hN : N ≤ 700000) (T : Store) :
    ∃ (x' : Bx) (T' : Store), BxOk (N + 10) x' ∧ p__law_far_right [.ref b, .int way, .int n] (B s b x T) = .ok (.bl true) (B s b x' T') := by
  obtain ⟨r, x1, a1, a2, hx1, e1⟩ := takeB (many := 2) hb hx (by omega) (by omega) (by omega) T
  obtain ⟨x2, G, hG, hx2, e2⟩ := mixedB (n := n) hb hx1 (by omega) (by omega) (by omega) T
  have g1 : (B s b x2 (T ++ [.lst [], .lst (G.map D.int)]))[s.length + T.length + 1]? = some (.lst (G.map D.int)) := B_get1 hb rfl
  generalize hT0 : T ++ [Cell.lst [], .lst (G.map D.int)] = T0 at e2 g1
  have hd : 1 ≤ 1 + r := by omega
  have hd2 : 1 + r ≤ 2 := by omega
  generalize hdd : 1 + r = d at hd hd2
  have hGl : G.length = n.toNat := by rw [hG.length_eq, rangeI_length]
  have hcut : cutL (G.map D.int) none (some 3) = (G.take 3).map D.int := by rw [cut_to (by omega), List.map_take]; rfl
  have hol : (G.take 3).length ≤ 3 := by rw [List.length_take]; omega
  have hol1 : 1 ≤ (G.take 3).length := by rw [List.length_take]; omega
  have hond : (G.take 3).Nodup := (hG.nodup_iff.mpr rangeI_nodup).sublist (List.take_sublist _ _)
  have hom : ∀ m ∈ G.take 3, 0 ≤ m ∧ m < n := fun m hm => rangeI_mem.mp (hG.mem_iff.mp (List.mem_of_mem_take hm))
  generalize G.take 3 = ord at hcut hol hol1 hond hom
  have hV := VA_F hd hd2 hol hol1 hond hom h2 h5
  have has := asF_snd (d := d) (ord := ord)
  have hal := asF_len (d := d) (ord := ord)
  have hsp := asF_sp (ord := ord) hd
  have hm16 := asF_mem hd hd2 hol
  have hcnt := cnt_eq has fun m hm => (hom m hm).1
  -- the asks
  have hc1 : runComp (.rng 0 ord.length) (setM 11) (rt true) (stepL (tupM (consM (op2M mulD (bvarM 11) (toB (op2M addD (toB (rt (.int 2))) (toB (op2M mulD (toB (rt (.int 3))) (bvarM 3)))))) (consM (op2M ixD (bvarM 4) (bvarM 11)) (rt []))))) [11] (.lst []) [.val (.ref b), .val (.int way), .val (.int n), .val (.int d), .val (.lst (ord.map D.int)), .no, .no, .no, .no, .no, .no, .no, .no, .no] (B s b x2 T0) =
      .ok (.lst ((asF d ord).map askD)) [.val (.ref b), .val (.int way), .val (.int n), .val (.int d), .val (.lst (ord.map D.int)), .no, .no, .no, .no, .no, .no, .no, .no, .no] (B s b x2 T0) := by
    have hi : (Src.rng 0 ord.length).items (B s b x2 T0) = some ((rangeI ord.length).map D.int) := by
      have := rngL_ints (n := (ord.length : Int))
      rw [Int.toNat_natCast] at this
      show some (rngL 0 ord.length) = _
      rw [this]
    rw [runComp_all (g := D.int) (fe := fun k => [.val (.ref b), .val (.int way), .val (.int n), .val (.int d), .val (.lst (ord.map D.int)), .no, .no, .no, .no, .no, .no, .val (.int k), .no, .no]) (y := fun k => askD (k * (2 + 3 * d), ord.getD k.toNat 0)) (rangeI ord.length) hi rfl]
    · unfold asF; rw [List.map_map]; rfl
    · intro k hk
      obtain ⟨hk0, hk1⟩ := rangeI_mem.mp hk
      have q1 : -18446744073709551616 < k := by omega
      have q2 : k < 18446744073709551616 := by omega
      have := ord_at hk0 hk1
      simp [q1, q2, this, askD]
    · rw [rangeI_length, Int.toNat_natCast]; omega
  generalize hasd : asF d ord = as at hV has hal hsp hm16 hcnt hc1
  obtain ⟨T1, T2, e3, e4⟩ := leaderB (s := s) (b := b) (x := x2) hV hd (by omega) T0
  obtain ⟨T3, T4, e5, e6⟩ := leaderB (s := s) (b := b) (x := x2) hV hd (by omega) T2
  -- what is due
  have hM : marksD as n (marksT d none as) = .tup [.tup (ord.map D.int), .int (2 * (n - 1) * ord.length), .tup ((as.map fun a => a.1 + 2 * d).map D.int)] := by
    unfold marksD
    rw [has, hal, marksT_sp hd as none hsp fun l e => by cases e]
  have hL : leaderD as d = .tup [.tup (ord.map D.int), .int (3 * (cnt as : Int)), .tup ((as.map fun a => a.1 + (if 0 < a.2 then 2 * d else 0)).map D.int)] := by
    unfold leaderD
    rw [sortL_sp hd hsp, rowsL_snd, has, leaderT_sp hd as 0 hsp fun a ha => (hm16 a ha).1]
    congr 4
    refine congrArg D.tup (congrArg (List.map D.int) ?_)
    apply List.map_congr_left
    intro a ha
    have h0 : 0 ≤ a.2 := (hom a.2 (by rw [← has]; exact List.mem_map.mpr ⟨a, ha, rfl⟩)).1
    unfold far
    by_cases hz : a.2 = 0
    · simp [hz]
    · have : 0 < a.2 := by omega
      simp [hz, this]; omega
  have esame : ∀ S, p__law_same 6 [.lst [marksD as n (marksT d none as), leaderD as d], .lst [marksD as n (marksT d none as), leaderD as d]] S = .ok (.bl true) S := fun S => by
    refine same_refl 6 _ S ?_
    have h1 : okS 5 (marksD as n (marksT d none as)) = true := okS_out (n := 2) (by rw [List.length_map]; have := hV.len; omega) (by rw [marksT_len]; have := hV.len; omega)
    have h3 : okS 5 (leaderD as d) = true := okS_out (n := 2) (by rw [List.length_map, sortL_len]; have := hV.len; omega) (by rw [leaderT_len, sortL_len]; have := hV.len; omega)
    unfold okS
    simp only [List.all_cons, List.all_nil, h1, h3]
    rfl
  generalize hMM : marksD as n (marksT d none as) = MM at e3 e5 hM esame
  generalize hLL : leaderD as d = LL at e4 e6 hL esame
  have hc2 : ∀ S, runComp (.seq (asksD as)) (tupT 2 (consT (setM 9) (consT (setM 10) nilT))) (rt true) (stepL (tupM (consM (op2M addD (bvarM 9) (toB (op2M mulD (toB (rt (.int 2))) (bvarM 3)))) (consM (op2M addD (bvarM 9) (ifM (boolM (op2M gtD (bvarM 10) (toB (rt (.int 0))))) (toB (op2M mulD (toB (rt (.int 2))) (bvarM 3))) (toB (rt (.int 0))))) (rt []))))) [9, 10] (.lst []) [.val (.ref b), .val (.int way), .val (.int n), .val (.int d), .val (.lst (ord.map D.int)), .val (asksD as), .val (.lst [MM, LL]), .no, .no, .no, .no, .no, .no, .no] S =
      .ok (.lst ((as.map fun a => (a.1 + 2 * d, a.1 + (if 0 < a.2 then 2 * d else 0))).map pairD)) [.val (.ref b), .val (.int way), .val (.int n), .val (.int d), .val (.lst (ord.map D.int)), .val (asksD as), .val (.lst [MM, LL]), .no, .no, .no, .no, .no, .no, .no] S := by
    intro S
    rw [runComp_all (g := askD) (fe := fun a => [.val (.ref b), .val (.int way), .val (.int n), .val (.int d), .val (.lst (ord.map D.int)), .val (asksD as), .val (.lst [MM, LL]), .no, .no, .val (.int a.1), .val (.int a.2), .no, .no, .no]) (y := fun a => pairD (a.1 + 2 * d, a.1 + (if 0 < a.2 then 2 * d else 0))) as rfl rfl]
    · rw [List.map_map]; rfl
    · intro a ha
      by_cases hz : 0 < a.2
      · simp [askD, pairD, hz]
      · simp [askD, pairD, hz]
    · have := hV.len; omega
  generalize hAL : (as.map fun a => (a.1 + 2 * d, a.1 + (if 0 < a.2 then 2 * d else 0))) = al at hc2
  have hal1 : al.map (·.1) = as.map fun a => a.1 + 2 * d := by rw [← hAL, List.map_map]; rfl
  have hal2 : al.map (·.2) = as.map fun a => a.1 + (if 0 < a.2 then 2 * d else 0) := by rw [← hAL, List.map_map]; rfl
  have hall : al.length ≤ 5 := by rw [← hAL, List.length_map]; exact hV.len
  have hc3 : ∀ S, runComp (.seq (.lst (al.map pairD))) (tupT 2 (consT (setM 12) (consT (setM 13) nilT))) (rt true) (stepL (varM 12)) [12, 13] (.lst []) [.val (.ref b), .val (.int way), .val (.int n), .val (.int d), .val (.lst (ord.map D.int)), .val (asksD as), .val (.lst [MM, LL]), .val (.lst (al.map pairD)), .no, .no, .no, .no, .no, .no] S =
      .ok (.lst ((as.map fun a => a.1 + 2 * d).map D.int)) [.val (.ref b), .val (.int way), .val (.int n), .val (.int d), .val (.lst (ord.map D.int)), .val (asksD as), .val (.lst [MM, LL]), .val (.lst (al.map pairD)), .no, .no, .no, .no, .no, .no] S := by
    intro S
    rw [runComp_all (g := pairD) (fe := fun p => [.val (.ref b), .val (.int way), .val (.int n), .val (.int d), .val (.lst (ord.map D.int)), .val (asksD as), .val (.lst [MM, LL]), .val (.lst (al.map pairD)), .no, .no, .no, .no, .val (.int p.1), .val (.int p.2)]) (y := fun p => .int p.1) al rfl rfl]
    · rw [← hal1, List.map_map]; rfl
    · intro a ha
      simp [pairD]
    · omega
  have hc4 : ∀ X8 S, runComp (.seq (.lst (al.map pairD))) (tupT 2 (consT (setM 12) (consT (setM 13) nilT))) (rt true) (stepL (varM 13)) [12, 13] (.lst []) [.val (.ref b), .val (.int way), .val (.int n), .val (.int d), .val (.lst (ord.map D.int)), .val (asksD as), .val (.lst [MM, LL]), .val (.lst (al.map pairD)), .val X8, .no, .no, .no, .no, .no] S =
      .ok (.lst ((as.map fun a => a.1 + (if 0 < a.2 then 2 * d else 0)).map D.int)) [.val (.ref b), .val (.int way), .val (.int n), .val (.int d), .val (.lst (ord.map D.int)), .val (asksD as), .val (.lst [MM, LL]), .val (.lst (al.map pairD)), .val X8, .no, .no, .no, .no, .no] S := by
    intro X8 S
    rw [runComp_all (g := pairD) (fe := fun p => [.val (.ref b), .val (.int way), .val (.int n), .val (.int d), .val (.lst (ord.map D.int)), .val (asksD as), .val (.lst [MM, LL]), .val (.lst (al.map pairD)), .val X8, .no, .no, .no, .val (.int p.1), .val (.int p.2)]) (y := fun p => .int p.2) al rfl rfl]
    · rw [← hal2, List.map_map]; rfl
    · intro a ha
      simp [pairD]
    · omega
  have hc5 : ∀ X8 S, runComp (.seq (.lst (ord.map D.int))) (setM 10) (boolM (op2M gtD (bvarM 10) (toB (rt (.int 0))))) (stepL (varM 10)) [10] (.lst []) [.val (.ref b), .val (.int way), .val (.int n), .val (.int d), .val (.lst (ord.map D.int)), .val (asksD as), .val (.lst [MM, LL]), .val (.lst (al.map pairD)), .val X8, .no, .no, .no, .no, .no] S =
      .ok (.lst ((ord.filter fun m => decide (0 < m)).map D.int)) [.val (.ref b), .val (.int way), .val (.int n), .val (.int d), .val (.lst (ord.map D.int)), .val (asksD as), .val (.lst [MM, LL]), .val (.lst (al.map pairD)), .val X8, .no, .no, .no, .no, .no] S := by
    intro X8 S
    rw [runComp_map (g := D.int) (fe := fun m => [.val (.ref b), .val (.int way), .val (.int n), .val (.int d), .val (.lst (ord.map D.int)), .val (asksD as), .val (.lst [MM, LL]), .val (.lst (al.map pairD)), .val X8, .no, .val (.int m), .no, .no, .no]) (b := fun m => decide (0 < m)) (y := D.int) ord rfl rfl]
    · rfl
    · intro a ha
      simp
    · omega
  have l1 : -18446744073709551616 < n - 1 := by omega
  have l2 : n - 1 < 18446744073709551616 := by omega
  have l3 : -18446744073709551616 < 2 * (n - 1) := by omega
  have l4 : 2 * (n - 1) < 18446744073709551616 := by omega
  have c16 : ord.length ≤ 16777216 := by omega
  have tA : ∀ S, topD (asksD as) S = some (as.map askD) := fun _ => rfl
  have tup2 : D.tup (as.map askD) = asksD as := rfl
  generalize hc : (ord.filter fun m => decide (0 < m)).map D.int = fl at hc5
  have hfl : fl.length = cnt as := by rw [← hc, List.length_map]; exact hcnt
  generalize hm1 : (as.map fun a => a.1 + 2 * d).map D.int = m1 at hM hc3
  generalize hm2 : (as.map fun a => a.1 + (if 0 < a.2 then 2 * d else 0)).map D.int = m2 at hL hc4
  generalize hm3 : al.map pairD = alD at hc2 hc3 hc4 hc5
  by_cases hw : way = 1
  · refine ⟨x2, T4, hx2.mono (by omega), ?_⟩
    simp only [hw] at hc1 hc2 hc3 hc4 hc5
    simp [p__law_far_right, b__law_far_right, startE, hw, e1, hdd, e2, g1, hcut, c16, hc1, tup2, e3, e4, permL, e5, e6, tA, hc2, hc3, l1, l2, l3, l4, hc4, hc5, hfl, ← hM, ← hL, esame]
  · refine ⟨x2, T2, hx2.mono (by omega), ?_⟩
    simp [p__law_far_right, b__law_far_right, startE, hw, e1, hdd, e2, g1, hcut, c16, hc1, tup2, e3, e4, permL, tA, hc2, hc3, l1, l2, l3, l4, hc4, hc5, hfl, ← hM, ← hL, esame]
end
end K90

namespace K90
open PySem QB L2
theorem sl_some {d : D} : sl (some d) = .val d := rfl
theorem cell_ok {ns : List Int} {k : Int} {s : Store} (h0 : 0 ≤ k) : ∃ v, p__law_cell [.wls (ns.map D.int), .int k] s = .ok (.int v) s := by
  have hcut : cutL (ns.map D.int) none (some 1) = (ns.take 1).map D.int := by rw [cut_to (by omega), List.map_take]; rfl
  by_cases h : k < ns.length
  · refine ⟨ns.getD k.toNat 0, ?_⟩
    have := ord_at h0 h
    simp [p__law_cell, b__law_cell, startE, h, this]
  · refine ⟨6547 * k + (ns.take 1).sum % 1000033, ?_⟩
    generalize ns.take 1 = t at hcut
    simp [p__law_cell, b__law_cell, startE, h, hcut]
def box0 (g : Int) : Bx := ⟨if g < 0 then -g else g, decide (1000000000000000000 ≤ if g < 0 then -g else g), (if g < 0 then -g else g) % 2147483629, 0⟩
theorem box_ok {g : Int} {s : Store} : p__law_box [.int g] s = .ok (.ref s.length) (s ++ [boxC (box0 g)]) := by
  simp [p__law_box, b__law_box, startE, boxC, box0]
theorem box0_ok {g : Int} : BxOk 0 (box0 g) := ⟨Int.emod_nonneg _ (by decide), Int.emod_lt_of_pos _ (by decide), Int.le_refl _, Int.le_refl _⟩
section
variable {s : Store} {b : Nat} {N : Int} {x : Bx} {way k : Int} {ns : List Int}
theorem law_turn0 {t : Int} {x4 x5 : Option D} (hb : b < s.length) (hx : BxOk N x) (hN : N ≤ 600000) (T : Store) : ∃ (x' : Bx) (T' : Store) (y5 : Option D), BxOk (N + 130) x' ∧ (setM 4 (.int t) [.val (.wls (ns.map D.int)), .val (.int k), .val (.ref b), .val (.int way), sl x4, sl x5] (B s b x T)).toS (fun _ => l_law_0) =
    .nx [.val (.wls (ns.map D.int)), .val (.int k), .val (.ref b), .val (.int way), sl (some (.int t)), sl y5] (B s b x' T') := by
  obtain ⟨r, x1, a1, a2, hx1, e1⟩ := takeB (many := 4) hb hx (by omega) (by omega) (by omega) T
  obtain ⟨x2, T2, hx2, e2⟩ := asks_right_ok (n := 2 + r) (way := (way + t) % 2) hb hx1 (by omega) (by omega) (by omega) T
  obtain ⟨x3, T3, hx3, e3⟩ := far_right_ok (n := 2 + r) (way := way) hb hx2 (by omega) (by omega) (by omega) T2
  refine ⟨x3, T3, some (.int (2 + r)), hx3.mono (by omega), ?_⟩
  generalize hm : 2 + r = m at e2 e3
  simp [l_law_0, e1, hm, e2, e3, sl]
theorem law_loop0 (hb : b < s.length) : ∀ (ts : List Int) (x : Bx) (N : Int) (T : Store) (x4 x5 : Option D), BxOk N x → N + 130 * ts.length ≤ 600000 → ∃ (x' : Bx) (T' : Store) (y4 y5 : Option D), forL (setM 4) l_law_0 (ts.map D.int) [.val (.wls (ns.map D.int)), .val (.int k), .val (.ref b), .val (.int way), sl x4, sl x5] (B s b x T) =
    .nx [.val (.wls (ns.map D.int)), .val (.int k), .val (.ref b), .val (.int way), sl y4, sl y5] (B s b x' T')
  | [], x, N, T, x4, x5, _, _ => ⟨x, T, x4, x5, rfl⟩
  | t :: ts, x, N, T, x4, x5, hx, hN => by
    simp only [List.length_cons] at hN
    obtain ⟨x1, T1, y5, hx1, e1⟩ := law_turn0 (way := way) (k := k) (ns := ns) (t := t) (x4 := x4) (x5 := x5) hb hx (by omega) T
    obtain ⟨x2, T2, z4, z5, e2⟩ := law_loop0 hb ts x1 (N + 130) T1 (some (.int t)) y5 hx1 (by omega)
    refine ⟨x2, T2, z4, z5, ?_⟩
    rw [List.map_cons, r_forL_cons, e1, turn_nx, e2]
theorem law_turn1 {S : Store} {x1 x2 x3 x4 x5 : Option D} {k : Int} (h0 : 0 ≤ k) : ∃ (S' : Store) (y2 y3 y4 y5 : Option D), (setM 1 (.int k) [.val (.wls (ns.map D.int)), sl x1, sl x2, sl x3, sl x4, sl x5] S).toS (fun _ => l_law_1) =
    .nx [.val (.wls (ns.map D.int)), sl (some (.int k)), sl y2, sl y3, sl y4, sl y5] S' := by
  obtain ⟨v, e1⟩ := cell_ok (ns := ns) (s := S) h0
  have e2 := box_ok (g := v) (s := S)
  have hb : S.length < (S ++ [boxC (box0 v)]).length := by rw [List.length_append]; simp
  have hself : S ++ [boxC (box0 v)] = B (S ++ [boxC (box0 v)]) S.length (box0 v) [] := by
    unfold B
    rw [List.append_nil]
    simp
  obtain ⟨way, x6, b1, b2, hx6, e3⟩ := takeB (many := 2) hb box0_ok (by omega) (by omega) (by omega) []
  obtain ⟨x7, T7, z4, z5, e4⟩ := law_loop0 (way := way) (k := k) (ns := ns) hb (rangeI 5) x6 (0 + 1) [] x4 x5 hx6 (by rw [rangeI_length]; decide)
  rw [← hself] at e3
  refine ⟨B (S ++ [boxC (box0 v)]) S.length x7 T7, some (.ref S.length), some (.int way), z4, z5, ?_⟩
  have e5 : rngL 0 (Int.toNat 5) = (rangeI 5).map D.int := rngL_ints
  have e5' : rngL 0 5 = (rangeI 5).map D.int := e5
  simp [l_law_1, e1, e2, e3, e5', e4, sl_some]
theorem law_loop1 : ∀ (ks : List Int) (S : Store) (x1 x2 x3 x4 x5 : Option D), (∀ k ∈ ks, 0 ≤ k) → ∃ (S' : Store) (y1 y2 y3 y4 y5 : Option D), forL (setM 1) l_law_1 (ks.map D.int) [.val (.wls (ns.map D.int)), sl x1, sl x2, sl x3, sl x4, sl x5] S =
    .nx [.val (.wls (ns.map D.int)), sl y1, sl y2, sl y3, sl y4, sl y5] S'
  | [], S, x1, x2, x3, x4, x5, _ => ⟨S, x1, x2, x3, x4, x5, rfl⟩
  | k :: ks, S, x1, x2, x3, x4, x5, h => by
    obtain ⟨S1, y2, y3, y4, y5, e1⟩ := law_turn1 (ns := ns) (S := S) (x1 := x1) (x2 := x2) (x3 := x3) (x4 := x4) (x5 := x5) (h k List.mem_cons_self)
    obtain ⟨S2, z1, z2, z3, z4, z5, e2⟩ := law_loop1 ks S1 (some (.int k)) y2 y3 y4 y5 fun j hj => h j (List.mem_cons_of_mem _ hj)
    refine ⟨S2, z1, z2, z3, z4, z5, ?_⟩
    rw [List.map_cons, r_forL_cons, e1, turn_nx, e2]
theorem law_ok (ns : List Int) (S : Store) : ∃ S', p_law [.wls (ns.map D.int)] S = .ok (.bl true) S' := by
  have hL : (0 : Int) ≤ ns.length := by omega
  obtain ⟨M, hM, h1, h2⟩ : ∃ M : Int, (if (if (ns.length : Int) < 2 then (ns.length : Int) else 2) > 1 then (if (ns.length : Int) < 2 then (ns.length : Int) else 2) else 1) = M ∧ 0 ≤ M ∧ M ≤ 5 := ⟨_, rfl, by split <;> split <;> omega, by split <;> split <;> omega⟩
  obtain ⟨S', y1, y2, y3, y4, y5, e⟩ := law_loop1 (ns := ns) (rangeI M) S none none none none none fun k hk => (rangeI_mem.mp hk).1
  refine ⟨S', ?_⟩
  have e5 : rngL 0 M.toNat = (rangeI M).map D.int := rngL_ints
  have c1 : -4611686018427387904 < M := by omega
  have c2 : M < 4611686018427387904 := by omega
  simp only [show sl none = Slot.no from rfl] at e
  simp only [gt_iff_lt] at hM
  simp [p_law, b_law, startE, hM, c1, c2, e5, e]
end
end K90

namespace K90
open PySem PySem.Spec PyProof.Rows L2 QB
def d_is_integer : He.DefD := ⟨("is_integer", none), "is_integer", "is_integer", defArgs (top 6), defBody (top 6), defScope (top 6), [], []⟩
def d_is_between : He.DefD := ⟨("is_between", none), "is_between", "is_between", defArgs (top 7), defBody (top 7), defScope (top 7), [], []⟩
def d_is_tuple_of : He.DefD := ⟨("is_tuple_of", none), "is_tuple_of", "is_tuple_of", defArgs (top 8), defBody (top 8), defScope (top 8), [], []⟩
def d_is_rising : He.DefD := ⟨("is_rising", none), "is_rising", "is_rising", defArgs (top 9), defBody (top 9), defScope (top 9), [], []⟩
def d_are_unlike : He.DefD := ⟨("are_unlike", none), "are_unlike", "are_unlike", defArgs (top 10), defBody (top 10), defScope (top 10), [], []⟩
def d_is_ask : He.DefD := ⟨("is_ask", none), "is_ask", "is_ask", defArgs (top 16), defBody (top 16), defScope (top 16), [], []⟩
def d_are_asks : He.DefD := ⟨("are_asks", none), "are_asks", "are_asks", defArgs (top 17), defBody (top 17), defScope (top 17), [], []⟩
def d_check_asked : He.DefD := ⟨("check_asked", none), "check_asked", "check_asked", defArgs (top 18), defBody (top 18), defScope (top 18), [], []⟩
def d_answered : He.DefD := ⟨("answered", none), "answered", "answered", defArgs (top 19), defBody (top 19), defScope (top 19), [], []⟩
def d_by_marks : He.DefD := ⟨("by_marks", none), "by_marks", "by_marks", defArgs (top 20), defBody (top 20), defScope (top 20), [], []⟩
def d_by_token : He.DefD := ⟨("by_token", none), "by_token", "by_token", defArgs (top 21), defBody (top 21), defScope (top 21), [], []⟩
def d_by_leader : He.DefD := ⟨("by_leader", none), "by_leader", "by_leader", defArgs (top 22), defBody (top 22), defScope (top 22), [], []⟩
def d__law_cell : He.DefD := ⟨("_law_cell", none), "_law_cell", "_law_cell", defArgs (top 24), defBody (top 24), defScope (top 24), [], []⟩
def d__law_box : He.DefD := ⟨("_law_box", none), "_law_box", "_law_box", defArgs (top 25), defBody (top 25), defScope (top 25), [], []⟩
def d__law_take : He.DefD := ⟨("_law_take", none), "_law_take", "_law_take", defArgs (top 26), defBody (top 26), defScope (top 26), [], []⟩
def d__law_same : He.DefD := ⟨("_law_same", none), "_law_same", "_law_same", defArgs (top 27), defBody (top 27), defScope (top 27), [], []⟩
def d__law_mixed : He.DefD := ⟨("_law_mixed", none), "_law_mixed", "_law_mixed", defArgs (top 28), defBody (top 28), defScope (top 28), [], []⟩
def d__law_asks : He.DefD := ⟨("_law_asks", none), "_law_asks", "_law_asks", defArgs (top 29), defBody (top 29), defScope (top 29), [], []⟩
def d__law_marks : He.DefD := ⟨("_law_marks", none), "_law_marks", "_law_marks", defArgs (top 30), defBody (top 30), defScope (top 30), [], []⟩
def d__law_token : He.DefD := ⟨("_law_token", none), "_law_token", "_law_token", defArgs (top 31), defBody (top 31), defScope (top 31), [], []⟩
def d__law_leader : He.DefD := ⟨("_law_leader", none), "_law_leader", "_law_leader", defArgs (top 32), defBody (top 32), defScope (top 32), [], []⟩
def d__law_all : He.DefD := ⟨("_law_all", none), "_law_all", "_law_all", defArgs (top 33), defBody (top 33), defScope (top 33), [], []⟩
def d__law_is_fair : He.DefD := ⟨("_law_is_fair", none), "_law_is_fair", "_law_is_fair", defArgs (top 34), defBody (top 34), defScope (top 34), [], []⟩
def d__law_moved : He.DefD := ⟨("_law_moved", none), "_law_moved", "_law_moved", defArgs (top 35), defBody (top 35), defScope (top 35), [], []⟩
def d__law_asks_right : He.DefD := ⟨("_law_asks_right", none), "_law_asks_right", "_law_asks_right", defArgs (top 36), defBody (top 36), defScope (top 36), [], []⟩
def d__law_far_right : He.DefD := ⟨("_law_far_right", none), "_law_far_right", "_law_far_right", defArgs (top 37), defBody (top 37), defScope (top 37), [], []⟩
def d_law : He.DefD := ⟨("law", none), "law", "law", defArgs (top 38), defBody (top 38), defScope (top 38), [], []⟩
def fn : List He.DefD := [d_is_integer, d_is_between, d_is_tuple_of, d_is_rising, d_are_unlike, d_is_ask, d_are_asks, d_check_asked, d_answered, d_by_marks, d_by_token, d_by_leader, d__law_cell, d__law_box, d__law_take, d__law_same, d__law_mixed, d__law_asks, d__law_marks, d__law_token, d__law_leader, d__law_all, d__law_is_fair, d__law_moved, d__law_asks_right, d__law_far_right, d_law]
def fa : List He.Fa := [.glo "is_integer", .glo "is_between", .glo "is_tuple_of", .glo "is_rising", .glo "are_unlike", .glo "is_ask", .glo "are_asks", .glo "check_asked", .glo "answered", .glo "by_marks", .glo "by_token", .glo "by_leader", .glo "_law_cell", .glo "_law_box", .glo "_law_take", .glo "_law_same", .glo "_law_mixed", .glo "_law_asks", .glo "_law_marks", .glo "_law_token", .glo "_law_leader", .glo "_law_all", .glo "_law_is_fair", .glo "_law_moved", .glo "_law_asks_right", .glo "_law_far_right", .glo "law", .free "abs", .free "all", .free "bool", .free "dict", .free "int", .free "isinstance", .free "len", .free "list", .free "max", .free "min", .free "range", .free "set", .free "sorted", .free "str", .free "sum", .free "tuple", .free "zip", .int "MOST_TIME" 20, .int "MOST_DELAY" 5, .int "MOST_MACHINES" 5, .int "STAY" 2]
def loose0 : List Str := ["MachineError", "InvalidNumber", "InvalidAsks", "is_integer", "is_between", "is_tuple_of", "is_rising", "are_unlike", "MOST_TIME", "MOST_DELAY", "MOST_MACHINES", "STAY"]
def loose1 : List Str := ["is_ask", "are_asks", "check_asked", "answered", "by_marks", "by_token", "by_leader", "_law_cell", "_law_box", "_law_take", "_law_same", "_law_mixed"]
def loose2 : List Str := ["_law_asks", "_law_marks", "_law_token", "_law_leader", "_law_all", "_law_is_fair", "_law_moved", "_law_asks_right", "_law_far_right"]
def loose : List Str := loose0 ++ loose1 ++ loose2
abbrev R : PySem.W.OpenRow := PySem.W.OpenLaw.row PySem.Challenge.rw_quorumbench_k90_whole_marks_and_tokens_a
abbrev hk : PySem.W.Hook := He.hookD 5 fa fn
def ob (s : PySem.W.SharedT) : He.AlD := He.obsDG 5 fa fn (HandSHeadRun.getT s)
theorem ob_eq (s : PySem.W.SharedT) : ob s = hk.obs s.abs := He.obsDG_eq (HandSHeadRun.getT_eq s)
theorem run (w : World) : HandSHeadRun.RunEq R (PySem.W.view R.prog [38]) hk ob 2000 loose w := by
  intro os
  kernel_rfl
theorem facts {P : Program} {w : World} {K : PySem.W.Frag} {h : Heap} {mg : Str → Option Value} {f : Addr} (X : K.In h) (Gm : h.Ns mainGlobals mg) (hfa : mg ("law" : Str) = some (.ref f)) (c : He.SaysD fa fn K) :
    ∃ fd : FuncData, (∀ (s : Shared) (v : Value), BindsTo s fd ⟨[v], []⟩ [("script", v)]) ∧ ∀ base : Heap, K.In base → base.Ns mainGlobals mg → FnOk P w K mg base CX0 9 f fd ["script"] (fun vs H Q _ => spOf K mg 1 p_law vs H Q E0) := by
  obtain ⟨fd_is_integer, F_is_integer⟩ := c.def_ 0 (d := d_is_integer) rfl
  obtain ⟨fd_is_between, F_is_between⟩ := c.def_ 1 (d := d_is_between) rfl
  obtain ⟨fd_is_tuple_of, F_is_tuple_of⟩ := c.def_ 2 (d := d_is_tuple_of) rfl
  obtain ⟨fd_is_rising, F_is_rising⟩ := c.def_ 3 (d := d_is_rising) rfl
  obtain ⟨fd_are_unlike, F_are_unlike⟩ := c.def_ 4 (d := d_are_unlike) rfl
  obtain ⟨fd_is_ask, F_is_ask⟩ := c.def_ 5 (d := d_is_ask) rfl
  obtain ⟨fd_are_asks, F_are_asks⟩ := c.def_ 6 (d := d_are_asks) rfl
  obtain ⟨fd_check_asked, F_check_asked⟩ := c.def_ 7 (d := d_check_asked) rfl
  obtain ⟨fd_answered, F_answered⟩ := c.def_ 8 (d := d_answered) rfl
  obtain ⟨fd_by_marks, F_by_marks⟩ := c.def_ 9 (d := d_by_marks) rfl
  obtain ⟨fd_by_token, F_by_token⟩ := c.def_ 10 (d := d_by_token) rfl
  obtain ⟨fd_by_leader, F_by_leader⟩ := c.def_ 11 (d := d_by_leader) rfl
  obtain ⟨fd__law_cell, F__law_cell⟩ := c.def_ 12 (d := d__law_cell) rfl
  obtain ⟨fd__law_box, F__law_box⟩ := c.def_ 13 (d := d__law_box) rfl
  obtain ⟨fd__law_take, F__law_take⟩ := c.def_ 14 (d := d__law_take) rfl
  obtain ⟨fd__law_same, F__law_same⟩ := c.def_ 15 (d := d__law_same) rfl
  obtain ⟨fd__law_mixed, F__law_mixed⟩ := c.def_ 16 (d := d__law_mixed) rfl
  obtain ⟨fd__law_asks, F__law_asks⟩ := c.def_ 17 (d := d__law_asks) rfl
  obtain ⟨fd__law_marks, F__law_marks⟩ := c.def_ 18 (d := d__law_marks) rfl
  obtain ⟨fd__law_token, F__law_token⟩ := c.def_ 19 (d := d__law_token) rfl
  obtain ⟨fd__law_leader, F__law_leader⟩ := c.def_ 20 (d := d__law_leader) rfl
  obtain ⟨fd__law_all, F__law_all⟩ := c.def_ 21 (d := d__law_all) rfl
  obtain ⟨fd__law_is_fair, F__law_is_fair⟩ := c.def_ 22 (d := d__law_is_fair) rfl
  obtain ⟨fd__law_moved, F__law_moved⟩ := c.def_ 23 (d := d__law_moved) rfl
  obtain ⟨fd__law_asks_right, F__law_asks_right⟩ := c.def_ 24 (d := d__law_asks_right) rfl
  obtain ⟨fd__law_far_right, F__law_far_right⟩ := c.def_ 25 (d := d__law_far_right) rfl
  obtain ⟨fd_law, F_law⟩ := c.def_ 26 (d := d_law) rfl
  let GG : G K mg := {
    a_is_integer := _, fd_is_integer := _, F_is_integer := F_is_integer, g_is_integer := He.glo_ok X Gm (c.fact 0 (f := .glo "is_integer") rfl),
    a_is_between := _, fd_is_between := _, F_is_between := F_is_between, g_is_between := He.glo_ok X Gm (c.fact 1 (f := .glo "is_between") rfl),
    a_is_tuple_of := _, fd_is_tuple_of := _, F_is_tuple_of := F_is_tuple_of, g_is_tuple_of := He.glo_ok X Gm (c.fact 2 (f := .glo "is_tuple_of") rfl),
    a_is_rising := _, fd_is_rising := _, F_is_rising := F_is_rising, g_is_rising := He.glo_ok X Gm (c.fact 3 (f := .glo "is_rising") rfl),
    a_are_unlike := _, fd_are_unlike := _, F_are_unlike := F_are_unlike, g_are_unlike := He.glo_ok X Gm (c.fact 4 (f := .glo "are_unlike") rfl),
    a_is_ask := _, fd_is_ask := _, F_is_ask := F_is_ask, g_is_ask := He.glo_ok X Gm (c.fact 5 (f := .glo "is_ask") rfl),
    a_are_asks := _, fd_are_asks := _, F_are_asks := F_are_asks, g_are_asks := He.glo_ok X Gm (c.fact 6 (f := .glo "are_asks") rfl),
    a_check_asked := _, fd_check_asked := _, F_check_asked := F_check_asked, g_check_asked := He.glo_ok X Gm (c.fact 7 (f := .glo "check_asked") rfl),
    a_answered := _, fd_answered := _, F_answered := F_answered, g_answered := He.glo_ok X Gm (c.fact 8 (f := .glo "answered") rfl),
    a_by_marks := _, fd_by_marks := _, F_by_marks := F_by_marks, g_by_marks := He.glo_ok X Gm (c.fact 9 (f := .glo "by_marks") rfl),
    a_by_token := _, fd_by_token := _, F_by_token := F_by_token, g_by_token := He.glo_ok X Gm (c.fact 10 (f := .glo "by_token") rfl),
    a_by_leader := _, fd_by_leader := _, F_by_leader := F_by_leader, g_by_leader := He.glo_ok X Gm (c.fact 11 (f := .glo "by_leader") rfl),
    a__law_cell := _, fd__law_cell := _, F__law_cell := F__law_cell, g__law_cell := He.glo_ok X Gm (c.fact 12 (f := .glo "_law_cell") rfl),
    a__law_box := _, fd__law_box := _, F__law_box := F__law_box, g__law_box := He.glo_ok X Gm (c.fact 13 (f := .glo "_law_box") rfl),
    a__law_take := _, fd__law_take := _, F__law_take := F__law_take, g__law_take := He.glo_ok X Gm (c.fact 14 (f := .glo "_law_take") rfl),
    a__law_same := _, fd__law_same := _, F__law_same := F__law_same, g__law_same := He.glo_ok X Gm (c.fact 15 (f := .glo "_law_same") rfl),
    a__law_mixed := _, fd__law_mixed := _, F__law_mixed := F__law_mixed, g__law_mixed := He.glo_ok X Gm (c.fact 16 (f := .glo "_law_mixed") rfl),
    a__law_asks := _, fd__law_asks := _, F__law_asks := F__law_asks, g__law_asks := He.glo_ok X Gm (c.fact 17 (f := .glo "_law_asks") rfl),
    a__law_marks := _, fd__law_marks := _, F__law_marks := F__law_marks, g__law_marks := He.glo_ok X Gm (c.fact 18 (f := .glo "_law_marks") rfl),
    a__law_token := _, fd__law_token := _, F__law_token := F__law_token, g__law_token := He.glo_ok X Gm (c.fact 19 (f := .glo "_law_token") rfl),
    a__law_leader := _, fd__law_leader := _, F__law_leader := F__law_leader, g__law_leader := He.glo_ok X Gm (c.fact 20 (f := .glo "_law_leader") rfl),
    a__law_all := _, fd__law_all := _, F__law_all := F__law_all, g__law_all := He.glo_ok X Gm (c.fact 21 (f := .glo "_law_all") rfl),
    a__law_is_fair := _, fd__law_is_fair := _, F__law_is_fair := F__law_is_fair, g__law_is_fair := He.glo_ok X Gm (c.fact 22 (f := .glo "_law_is_fair") rfl),
    a__law_moved := _, fd__law_moved := _, F__law_moved := F__law_moved, g__law_moved := He.glo_ok X Gm (c.fact 23 (f := .glo "_law_moved") rfl),
    a__law_asks_right := _, fd__law_asks_right := _, F__law_asks_right := F__law_asks_right, g__law_asks_right := He.glo_ok X Gm (c.fact 24 (f := .glo "_law_asks_right") rfl),
    a__law_far_right := _, fd__law_far_right := _, F__law_far_right := F__law_far_right, g__law_far_right := He.glo_ok X Gm (c.fact 25 (f := .glo "_law_far_right") rfl),
    a_law := _, fd_law := _, F_law := F_law, g_law := He.glo_ok X Gm (c.fact 26 (f := .glo "law") rfl),
    b_abs := He.free_ok X Gm (c.fact 27 (f := .free "abs") rfl),
    b_all := He.free_ok X Gm (c.fact 28 (f := .free "all") rfl),
    b_bool := He.free_ok X Gm (c.fact 29 (f := .free "bool") rfl),
    b_dict := He.free_ok X Gm (c.fact 30 (f := .free "dict") rfl),
    b_int := He.free_ok X Gm (c.fact 31 (f := .free "int") rfl),
    b_isinstance := He.free_ok X Gm (c.fact 32 (f := .free "isinstance") rfl),
    b_len := He.free_ok X Gm (c.fact 33 (f := .free "len") rfl),
    b_list := He.free_ok X Gm (c.fact 34 (f := .free "list") rfl),
    b_max := He.free_ok X Gm (c.fact 35 (f := .free "max") rfl),
    b_min := He.free_ok X Gm (c.fact 36 (f := .free "min") rfl),
    b_range := He.free_ok X Gm (c.fact 37 (f := .free "range") rfl),
    b_set := He.free_ok X Gm (c.fact 38 (f := .free "set") rfl),
    b_sorted := He.free_ok X Gm (c.fact 39 (f := .free "sorted") rfl),
    b_str := He.free_ok X Gm (c.fact 40 (f := .free "str") rfl),
    b_sum := He.free_ok X Gm (c.fact 41 (f := .free "sum") rfl),
    b_tuple := He.free_ok X Gm (c.fact 42 (f := .free "tuple") rfl),
    b_zip := He.free_ok X Gm (c.fact 43 (f := .free "zip") rfl),
    c_MOST_TIME := He.int_ok X Gm (c.fact 44 (f := .int "MOST_TIME" 20) rfl),
    c_MOST_DELAY := He.int_ok X Gm (c.fact 45 (f := .int "MOST_DELAY" 5) rfl),
    c_MOST_MACHINES := He.int_ok X Gm (c.fact 46 (f := .int "MOST_MACHINES" 5) rfl),
    c_STAY := He.int_ok X Gm (c.fact 47 (f := .int "STAY" 2) rfl) }
  have e := hfa.symm.trans (He.glo_ok X Gm (c.fact 26 (f := .glo "law") rfl))
  cases e
  have b := FunD.bindsA (ps := ["script"]) F_law fun _ _ _ _ _ _ us hl => match us, hl with | [_], _ => rfl
  exact ⟨fd_law, fun s v => b s [v] rfl, fun base _ _ => fn_cx0 (ok_law GG)⟩
end K90
open PySem PySem.W PySem.Calls PyProof.Rows
theorem PySem.Challenge.cw_quorumbench_k90_whole_marks_and_tokens_a_holds : PySem.Challenge.rw_quorumbench_k90_whole_marks_and_tokens_a.Holds := by
  w_on; o_law
  refine HandSHeadRun.head_any (r := OpenLaw.row PySem.Challenge.rw_quorumbench_k90_whole_marks_and_tokens_a) (q := view (OpenLaw.row PySem.Challenge.rw_quorumbench_k90_whole_marks_and_tokens_a).prog [38]) (H := K90.hk) (ob := K90.ob) (M := 2000) (loose := K90.loose) (d := HandSHeadRun.topDef (OpenLaw.row PySem.Challenge.rw_quorumbench_k90_whole_marks_and_tokens_a).prog 38) (kwd := []) K90.ob_eq
    (by kernel_rfl) (fun s => by kernel_rfl) K90.run (by kernel_rfl) (by kernel_rfl) (by kernel_rfl) (by rfl) (by first | assumption | decide +kernel) (by decide +kernel) ⟨rfl, rfl, rfl, rfl, rfl, by decide +kernel⟩ ?hw ?hc
  case hw => w_witness2
  case hc =>
    refine L2.walk_ofE (l := PySem.Challenge.rw_quorumbench_k90_whole_marks_and_tokens_a) (n := 63) (k := 9) (x := "script") (CX := L2.CX0) rfl (by decide) (by kernel_rfl) ⟨rfl, by decide, by decide⟩ ?F (fun _ _ _ _ z => z)
    intro w mg fa h Y G hmg0
    obtain ⟨K, KX, c⟩ := Y
    have hmg : mg ("law" : PySem.Str) = some (.ref fa) := by
      have e : (HandSHeadRun.topDef (OpenLaw.row PySem.Challenge.rw_quorumbench_k90_whole_marks_and_tokens_a).prog 38).name = ("law" : PySem.Str) := by kernel_rfl
      rw [← e]
      exact hmg0
    obtain ⟨fd, hb, hF⟩ := K90.facts (P := (PySem.Challenge.rw_quorumbench_k90_whole_marks_and_tokens_a).prog) (w := w) KX G hmg c
    exact ⟨K, fd, (fun vs H Q _ => QB.spOf K mg 1 K90.p_law vs H Q L2.E0), KX, hb, fun H a ns hl _ hS => QB.law_start hS (K90.law_ok ns []), hF⟩
