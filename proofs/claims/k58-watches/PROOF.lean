import PyProof.Rows.All
import Wide.All
import OpenK.AllK
import Wide.FinOn
import HandS.ForMost
import HandS.Exc
import HandS.ExcOwn
import HandS.ExcInit
import HandS.WordsExc
import HandS.TryMany
import HandS.DictComp
import HandS.Deep
import HandS.TupAny
import HandS.Wide
import HandS.WideBits
import HandS.Conv
import HandS.Zip
import HandS.IsInst
import HandS.Defaults
import HandS.Flow
import HandS.Star
import HandS.HeadHook1
import HandS.TupMul
import HandS.TupLe
import KE.SortData
import KE.DataMinMax
import HandS.SortInts
import HandS.WordsDict
import KE.KTupSum
import HandS.Small
import HandS.Style
import HandS.ForSpec
import HandS.ExcIs
import HandS.TryOnly
import HandS.OwnEq
import HandS.MakeKw
import KE.GoesEnum
import HandS.SetFor
import HandS.Strs
import HandS.HeadHook4
import KE.KIndexOf
import PyProof.P3Eq
import HandS.Head0
import HandS.Head1
import HandS.Head2
import HandS.Head3
import HandS.HeadEnd
import PySem.Challenge.RW_quorumbench_k58_whole_classes_of_watches
set_option Elab.async false
set_option linter.all false
set_option maxRecDepth 100000
set_option maxHeartbeats 0
/-! The pure layer, part 1: plain data, states, what a state says of the heap. -/
namespace QB
open PySem PySem.Spec PyProof.Rows L2

inductive D where
  | non | bl (b : Bool) | int (i : Int) | str (x : Str)
  | tup (ds : List D) | lst (ds : List D) | wls (ds : List D) | dct (kvs : List (Key × D)) | ref (k : Nat)
  | obj (cn : Str) (fs : List (Str × D))
inductive Cell where
  | lst (ds : List D) | dct (kvs : List (Key × D)) | obj (cn : Str) (fs : List (Str × D)) | fdc (kvs : List (Key × D))
inductive Slot where
  | no | val (d : D) | own (c : Cell)
abbrev PEnv := List Slot
abbrev Store := List Cell
abbrev Pl := Nat ⊕ Nat
/-- a state: slots, cells, where the places stand, the heap -/
structure S8 where
  env : PEnv
  st : Store
  ad : Pl → Addr
  H : Hp
/-- what a value is read against: mutable addresses, the cells, the heap -/
structure Wd where
  K : PySem.W.Frag
  M : Addr → Prop
  n : Nat
  c : Nat → Addr
  H : Hp
def KL (K : PySem.W.Frag) (a : Addr) (xs : List V) : Prop :=
  ∃ (o : Obj) (its : Array Value) (n : Nat), K.lookup a = some o ∧ o.cls = .type "list" ∧ o.dict = none ∧ o.data = .seq its n ∧ its.size ≤ sizeLine ∧ Vals xs its.toList
def KT (K : PySem.W.Frag) (a : Addr) (xs : List V) : Prop :=
  ∃ (o : Obj) (its : Array Value) (n : Nat), K.lookup a = some o ∧ o.cls = .type "tuple" ∧ o.data = .seq its n ∧ its.size ≤ sizeLine ∧ Vals xs its.toList
/-- a tracked object that may not change -/
def Still (w : Wd) (a : Addr) (u : HO) : Prop := ¬ w.M a ∧ Rd w.H a u
def RdL (w : Wd) (a : Addr) (xs : List V) : Prop := ¬ w.M a ∧ w.H a = some (.lst xs)
/-- a written list, a locked one -/
def RdW (w : Wd) (a : Addr) (xs : List V) : Prop := Still w a (.lst xs) ∨ KL w.K a xs
def RdT (w : Wd) (a : Addr) (xs : List V) : Prop := Still w a (.tup xs) ∨ KT w.K a xs
/-- a dict, locked for good -/
def RdD (w : Wd) (a : Addr) (es : List (Key × V)) : Prop := ∃ o, w.H a = some (.frz o (.dK es))
/-- an instance of the class of that name, its fields -/
def RdO (w : Wd) (cn : Str) (a : Addr) (vs : List (Str × V)) : Prop := ¬ w.M a ∧ ∃ dx, w.H a = some (.ins (He.ga w.K cn) dx vs)
theorem RdL.sq {w : Wd} {a : Addr} {xs : List V} (h : RdL w a xs) : SqL w.K w.H a xs := .inl (.inl h.2)
theorem RdW.sq {w : Wd} {a : Addr} {xs : List V} (h : RdW w a xs) : SqL w.K w.H a xs := h.elim (fun h => .inl h.2) .inr
theorem RdT.sq {w : Wd} {a : Addr} {xs : List V} (h : RdT w a xs) : SqT w.K w.H a xs := h.elim (fun h => .inl h.2) .inr
mutual
def Rp (w : Wd) : D → V → Prop
  | .non, v => v = .non
  | .bl b, v => v = .bl b
  | .int i, v => v = .int i
  | .str x, v => v = .str x
  | .tup ds, v => ∃ a xs, v = .ref a ∧ RdT w a xs ∧ RpL w ds xs
  | .lst ds, v => ∃ a xs, v = .ref a ∧ RdL w a xs ∧ RpL w ds xs
  | .wls ds, v => ∃ a xs, v = .ref a ∧ RdW w a xs ∧ RpL w ds xs
  | .dct kvs, v => ∃ a es, v = .ref a ∧ RdD w a es ∧ RpK w kvs es
  | .ref k, v => k < w.n ∧ v = .ref (w.c k)
  | .obj cn fs, v => ∃ a es, v = .ref a ∧ RdO w cn a es ∧ RpO w fs es
def RpL (w : Wd) : List D → List V → Prop
  | [], vs => vs = []
  | d :: ds, vs => ∃ x xs, vs = x :: xs ∧ Rp w d x ∧ RpL w ds xs
def RpK (w : Wd) : List (Key × D) → List (Key × V) → Prop
  | [], es => es = []
  | (k, d) :: r, es => ∃ x xs, es = (k, x) :: xs ∧ Rp w d x ∧ RpK w r xs
def RpO (w : Wd) : List (Str × D) → List (Str × V) → Prop
  | [], es => es = []
  | (k, d) :: r, es => ∃ x xs, es = (k, x) :: xs ∧ Rp w d x ∧ RpO w r xs
end
theorem Rd.imp {H H' : Hp} {a : Addr} {u : HO} (h : Rd H a u) (k : ∀ o, H a = some o → H' a = some o) : Rd H' a u := by
  rcases h with h | ⟨o, h⟩
  · exact .inl (k _ h)
  · exact .inr ⟨o, k _ h⟩
theorem Rd.ne {H : Hp} {a : Addr} {u : HO} (h : Rd H a u) : H a ≠ none := by
  rcases h with h | ⟨o, h⟩ <;> rw [h] <;> intro z <;> cases z
/-- from one to another: all that stands still does so there, the cells are where they were -/
structure Wd.Le (w w' : Wd) : Prop where
  K : w'.K = w.K
  still : ∀ a o, w.H a = some o → ¬ w.M a → w'.H a = some o ∧ ¬ w'.M a
  n : w.n ≤ w'.n
  c : ∀ k, k < w.n → w'.c k = w.c k
  frz : ∀ a o u, w.H a = some (.frz o u) → w'.H a = some (.frz o u)
section
variable {w w' : Wd}
theorem Wd.Le.st (l : w.Le w') {a : Addr} {u : HO} (h : Still w a u) : Still w' a u := by
  obtain ⟨h1, h2⟩ := h
  have hn := Rd.ne h2
  cases e : w.H a with
  | none => exact absurd e hn
  | some o =>
    have q := l.still a o e h1
    exact ⟨q.2, Rd.imp h2 fun o' e' => by rw [e] at e'; cases e'; exact q.1⟩
theorem Wd.Le.rdL (l : w.Le w') {a : Addr} {xs : List V} (h : RdL w a xs) : RdL w' a xs := by
  obtain ⟨h1, h2⟩ := h
  have q := l.still a _ h2 h1
  exact ⟨q.2, q.1⟩
theorem Wd.Le.rdD (l : w.Le w') {a : Addr} {xs : List (Key × V)} (h : RdD w a xs) : RdD w' a xs := by
  obtain ⟨o, h2⟩ := h
  exact ⟨o, l.frz a _ _ h2⟩
theorem Wd.Le.rdO (l : w.Le w') {cn : Str} {a : Addr} {xs : List (Str × V)} (h : RdO w cn a xs) : RdO w' cn a xs := by
  obtain ⟨h1, o, h2⟩ := h
  have q := l.still a _ h2 h1
  exact ⟨q.2, o, by rw [l.K]; exact q.1⟩
theorem Wd.Le.rdW (l : w.Le w') {a : Addr} {xs : List V} (h : RdW w a xs) : RdW w' a xs := by
  unfold RdW; rw [l.K]; exact h.imp l.st id
theorem Wd.Le.rdT (l : w.Le w') {a : Addr} {xs : List V} (h : RdT w a xs) : RdT w' a xs := by
  unfold RdT; rw [l.K]; exact h.imp l.st id
mutual
theorem Wd.Le.rp (l : w.Le w') : ∀ (d : D) (v : V), Rp w d v → Rp w' d v
  | .non, _, h => by unfold Rp at *; exact h
  | .bl _, _, h => by unfold Rp at *; exact h
  | .int _, _, h => by unfold Rp at *; exact h
  | .str _, _, h => by unfold Rp at *; exact h
  | .tup ds, v, h => by
    unfold Rp at *
    obtain ⟨a, xs, e, h1, h2⟩ := h
    exact ⟨a, xs, e, l.rdT h1, Wd.Le.rpL l ds xs h2⟩
  | .lst ds, v, h => by
    unfold Rp at *
    obtain ⟨a, xs, e, h1, h2⟩ := h
    exact ⟨a, xs, e, l.rdL h1, Wd.Le.rpL l ds xs h2⟩
  | .wls ds, v, h => by
    unfold Rp at *
    obtain ⟨a, xs, e, h1, h2⟩ := h
    exact ⟨a, xs, e, l.rdW h1, Wd.Le.rpL l ds xs h2⟩
  | .dct kvs, v, h => by
    unfold Rp at *
    obtain ⟨a, xs, e, h1, h2⟩ := h
    exact ⟨a, xs, e, l.rdD h1, Wd.Le.rpK l kvs xs h2⟩
  | .ref k, v, h => by
    unfold Rp at *
    obtain ⟨h1, h2⟩ := h
    exact ⟨Nat.lt_of_lt_of_le h1 l.n, by rw [l.c k h1]; exact h2⟩
  | .obj cn fs, v, h => by
    unfold Rp at *
    obtain ⟨a, xs, e, h1, h2⟩ := h
    exact ⟨a, xs, e, l.rdO h1, Wd.Le.rpO l fs xs h2⟩
theorem Wd.Le.rpL (l : w.Le w') : ∀ (ds : List D) (vs : List V), RpL w ds vs → RpL w' ds vs
  | [], _, h => by unfold RpL at *; exact h
  | d :: ds, vs, h => by
    unfold RpL at *
    obtain ⟨x, xs, e, h1, h2⟩ := h
    exact ⟨x, xs, e, Wd.Le.rp l d x h1, Wd.Le.rpL l ds xs h2⟩
theorem Wd.Le.rpK (l : w.Le w') : ∀ (ds : List (Key × D)) (vs : List (Key × V)), RpK w ds vs → RpK w' ds vs
  | [], _, h => by unfold RpK at *; exact h
  | (k, d) :: ds, vs, h => by
    unfold RpK at *
    obtain ⟨x, xs, e, h1, h2⟩ := h
    exact ⟨x, xs, e, Wd.Le.rp l d x h1, Wd.Le.rpK l ds xs h2⟩
theorem Wd.Le.rpO (l : w.Le w') : ∀ (ds : List (Str × D)) (vs : List (Str × V)), RpO w ds vs → RpO w' ds vs
  | [], _, h => by unfold RpO at *; exact h
  | (k, d) :: ds, vs, h => by
    unfold RpO at *
    obtain ⟨x, xs, e, h1, h2⟩ := h
    exact ⟨x, xs, e, Wd.Le.rp l d x h1, Wd.Le.rpO l ds xs h2⟩
end
theorem Wd.Le.refl (w : Wd) : w.Le w := ⟨rfl, fun _ _ h m => ⟨h, m⟩, Nat.le_refl _, fun _ _ => rfl, fun _ _ _ h => h⟩
end
/-! lists of representations -/
section
variable {w : Wd}
theorem RpL.length : ∀ {ds : List D} {vs : List V}, RpL w ds vs → vs.length = ds.length
  | [], _, h => by unfold RpL at h; subst h; rfl
  | d :: ds, _, h => by
    unfold RpL at h
    obtain ⟨x, xs, rfl, _, h2⟩ := h
    simp [RpL.length h2]
theorem RpL.cons {d : D} {ds : List D} {v : V} {vs : List V} (h : Rp w d v) (h2 : RpL w ds vs) : RpL w (d :: ds) (v :: vs) := by
  unfold RpL; exact ⟨v, vs, rfl, h, h2⟩
theorem RpL.nil : RpL w [] [] := by unfold RpL; rfl
theorem RpL.of_cons {d : D} {ds : List D} {vs : List V} (h : RpL w (d :: ds) vs) : ∃ x xs, vs = x :: xs ∧ Rp w d x ∧ RpL w ds xs := by
  unfold RpL at h; exact h
theorem RpL.of_nil {vs : List V} (h : RpL w [] vs) : vs = [] := by unfold RpL at h; exact h
theorem RpL.append : ∀ {ds es : List D} {vs ws : List V}, RpL w ds vs → RpL w es ws → RpL w (ds ++ es) (vs ++ ws)
  | [], es, vs, ws, h, h2 => by rw [h.of_nil]; exact h2
  | d :: ds, es, vs, ws, h, h2 => by
    obtain ⟨x, xs, rfl, h3, h4⟩ := h.of_cons
    exact .cons h3 (RpL.append h4 h2)
theorem RpL.get : ∀ {ds : List D} {vs : List V} {i : Nat} {d : D}, RpL w ds vs → ds[i]? = some d → ∃ v, vs[i]? = some v ∧ Rp w d v
  | [], _, i, d, _, e => by simp at e
  | d :: ds, _, 0, d', h, e => by
    obtain ⟨x, xs, rfl, h3, h4⟩ := h.of_cons
    simp at e; subst e
    exact ⟨x, rfl, h3⟩
  | d :: ds, _, i + 1, d', h, e => by
    obtain ⟨x, xs, rfl, h3, h4⟩ := h.of_cons
    obtain ⟨v, e1, h5⟩ := RpL.get (i := i) h4 (by simpa using e)
    exact ⟨v, by simpa using e1, h5⟩
theorem RpL.getV : ∀ {ds : List D} {vs : List V} {i : Nat} {v : V}, RpL w ds vs → vs[i]? = some v → ∃ d, ds[i]? = some d ∧ Rp w d v
  | [], _, i, d, h, e => by rw [h.of_nil] at e; simp at e
  | d :: ds, _, 0, d', h, e => by
    obtain ⟨x, xs, rfl, h3, h4⟩ := h.of_cons
    simp at e; subst e
    exact ⟨d, rfl, h3⟩
  | d :: ds, _, i + 1, d', h, e => by
    obtain ⟨x, xs, rfl, h3, h4⟩ := h.of_cons
    obtain ⟨v, e1, h5⟩ := RpL.getV (i := i) h4 (by simpa using e)
    exact ⟨v, by simpa using e1, h5⟩
theorem RpL.set {d : D} {v : V} (r : Rp w d v) : ∀ {ds : List D} {vs : List V} (i : Nat), RpL w ds vs → RpL w (ds.set i d) (vs.set i v)
  | [], _, _, h => by rw [h.of_nil]; exact .nil
  | _ :: ds, _, 0, h => by
    obtain ⟨x, xs, rfl, h3, h4⟩ := h.of_cons
    exact .cons r h4
  | _ :: ds, _, i + 1, h => by
    obtain ⟨x, xs, rfl, h3, h4⟩ := h.of_cons
    exact .cons h3 (RpL.set r i h4)
theorem RpL.take : ∀ {ds : List D} {vs : List V} (n : Nat), RpL w ds vs → RpL w (ds.take n) (vs.take n)
  | _, _, 0, _ => by simp only [List.take_zero]; exact .nil
  | [], _, _ + 1, h => by rw [h.of_nil]; exact .nil
  | _ :: ds, _, n + 1, h => by
    obtain ⟨x, xs, rfl, h3, h4⟩ := h.of_cons
    exact .cons h3 (RpL.take n h4)
theorem RpL.drop : ∀ {ds : List D} {vs : List V} (n : Nat), RpL w ds vs → RpL w (ds.drop n) (vs.drop n)
  | _, _, 0, h => h
  | [], _, _ + 1, h => by rw [h.of_nil]; exact .nil
  | _ :: ds, _, n + 1, h => by
    obtain ⟨x, xs, rfl, h3, h4⟩ := h.of_cons
    exact RpL.drop n h4
theorem RpL.erase : ∀ {ds : List D} {vs : List V} (n : Nat), RpL w ds vs → RpL w (ds.eraseIdx n) (vs.eraseIdx n)
  | [], _, _, h => by rw [h.of_nil]; exact .nil
  | _ :: ds, _, 0, h => by
    obtain ⟨x, xs, rfl, h3, h4⟩ := h.of_cons
    exact h4
  | _ :: ds, _, n + 1, h => by
    obtain ⟨x, xs, rfl, h3, h4⟩ := h.of_cons
    exact .cons h3 (RpL.erase n h4)
theorem RpL.reverse : ∀ {ds : List D} {vs : List V}, RpL w ds vs → RpL w ds.reverse vs.reverse
  | [], _, h => by rw [h.of_nil]; exact .nil
  | _ :: ds, _, h => by
    obtain ⟨x, xs, rfl, h3, h4⟩ := h.of_cons
    rw [List.reverse_cons, List.reverse_cons]
    exact (RpL.reverse h4).append (.cons h3 .nil)
theorem RpL.ints : ∀ (ns : List Int), RpL w (ns.map D.int) (ns.map V.int)
  | [] => .nil
  | n :: ns => .cons (by unfold Rp; rfl) (RpL.ints ns)
theorem RpL.of_ints : ∀ {ns : List Int} {vs : List V}, RpL w (ns.map D.int) vs → vs = ns.map V.int
  | [], _, h => h.of_nil
  | n :: ns, _, h => by
    obtain ⟨x, xs, rfl, h3, h4⟩ := RpL.of_cons (d := .int n) (ds := ns.map D.int) h
    unfold Rp at h3
    rw [h3, RpL.of_ints h4]; rfl
end
/-! ### the places -/
def cont (env : PEnv) (st : Store) : Pl → Option Cell
  | .inl i => match env[i]? with
    | some (.own c) => some c
    | _ => none
  | .inr k => st[k]?
def S8.cont (S : S8) : Pl → Option Cell := QB.cont S.env S.st
/-- the mutable addresses: foreign ones (Z), those of the places -/
def Mu (Z : Addr → Prop) (S : S8) : Addr → Prop := fun a => Z a ∨ ∃ p c, S.cont p = some c ∧ S.ad p = a
def S8.wd (S : S8) (K : PySem.W.Frag) (Z : Addr → Prop) : Wd := ⟨K, Mu Z S, S.st.length, fun k => S.ad (.inr k), S.H⟩
def CellAt (w : Wd) : Cell → Addr → Prop
  | .lst ds, a => ∃ xs, w.H a = some (.lst xs) ∧ RpL w ds xs
  | .dct kvs, a => ∃ es, w.H a = some (.dK es) ∧ RpK w kvs es
  | .obj cn fs, a => ∃ dx es, w.H a = some (.ins (He.ga w.K cn) dx es) ∧ RpO w fs es
  | .fdc kvs, a => ∃ es o, w.H a = some (.frz o (.dK es)) ∧ RpK w kvs es
structure Rel (K : PySem.W.Frag) (Z : Addr → Prop) (σ : L2.St) (S : S8) : Prop where
  len : S.env.length = σ.length
  val : ∀ (i : Nat) d, S.env[i]? = some (Slot.val d) → ∃ v, σ[i]? = some (some v) ∧ Rp (S.wd K Z) d v
  own : ∀ (i : Nat) c, S.env[i]? = some (Slot.own c) → σ[i]? = some (some (V.ref (S.ad (.inl i))))
  cell : ∀ p c, S.cont p = some c → CellAt (S.wd K Z) c (S.ad p)
  inj : ∀ p q c d, S.cont p = some c → S.cont q = some d → S.ad p = S.ad q → p = q
  zf : ∀ p c, S.cont p = some c → ¬ Z (S.ad p)
  zt : ∀ a, Z a → S.H a ≠ none
/-- what a piece of code may have done -/
structure Tr (S S' : S8) : Prop where
  dom : ∀ a, S.H a ≠ none → S'.H a ≠ none
  keep : ∀ a o, S.H a = some o → (∀ p c, S.cont p = some c → S.ad p ≠ a) → S'.H a = some o
  fresh : ∀ p c, S'.cont p = some c → (∃ q d, S.cont q = some d ∧ S.ad q = S'.ad p) ∨ S.H (S'.ad p) = none
  n : S.st.length ≤ S'.st.length
  c : ∀ k, k < S.st.length → S'.ad (.inr k) = S.ad (.inr k)
  frz : ∀ a o u, S.H a = some (.frz o u) → S'.H a = some (.frz o u)
  o : ∀ i c, S'.cont (.inl i) = some c → (∃ d, S.cont (.inl i) = some d) ∧ S'.ad (.inl i) = S.ad (.inl i)
theorem Tr.refl (S : S8) : Tr S S := ⟨fun _ h => h, fun _ _ h _ => h, fun p c h => .inl ⟨p, c, h, rfl⟩, Nat.le_refl _, fun _ _ => rfl, fun _ _ _ h => h, fun i c h => ⟨⟨c, h⟩, rfl⟩⟩
theorem Tr.trans {S S1 S2 : S8} (a : Tr S S1) (b : Tr S1 S2) : Tr S S2 where
  dom := fun x h => b.dom x (a.dom x h)
  keep := fun x o h m => by
    refine b.keep x o (a.keep x o h m) fun p c hp e => ?_
    rcases a.fresh p c hp with ⟨q, d, hq, eq⟩ | hn
    · exact m q d hq (eq.trans e)
    · rw [e, h] at hn; cases hn
  fresh := fun p c hp => by
    rcases b.fresh p c hp with ⟨q, d, hq, eq⟩ | hn
    · rcases a.fresh q d hq with ⟨q', d', hq', eq'⟩ | hn
      · exact .inl ⟨q', d', hq', eq'.trans eq⟩
      · exact .inr (by rw [← eq]; exact hn)
    · refine .inr ?_
      cases e : S.H (S2.ad p) with
      | none => rfl
      | some o => exact absurd hn (a.dom _ (by rw [e]; intro z; cases z))
  n := Nat.le_trans a.n b.n
  c := fun k h => (b.c k (Nat.lt_of_lt_of_le h a.n)).trans (a.c k h)
  frz := fun x o u h => b.frz x o u (a.frz x o u h)
  o := fun i c h => let ⟨⟨d, hd⟩, e⟩ := b.o i c h; let ⟨q, e2⟩ := a.o i d hd; ⟨q, e.trans e2⟩
theorem Tr.le {K : PySem.W.Frag} {Z : Addr → Prop} {S S' : S8} (t : Tr S S') : (S.wd K Z).Le (S'.wd K Z) where
  K := rfl
  still := fun a o h m => by
    have m2 : ¬ Z a := fun z => m (.inl z)
    have m3 : ∀ p c, S.cont p = some c → S.ad p ≠ a := fun p c hp e => m (.inr ⟨p, c, hp, e⟩)
    refine ⟨t.keep a o h m3, ?_⟩
    rintro (z | ⟨p, c, hp, e⟩)
    · exact m2 z
    · rcases t.fresh p c hp with ⟨q, d, hq, eq⟩ | hn
      · exact m3 q d hq (eq.trans e)
      · have h' : S.H a = some o := h
        rw [e, h'] at hn; cases hn
  n := t.n
  c := t.c
  frz := t.frz
section
variable {K : PySem.W.Frag} {Z : Addr → Prop} {S S' : S8}
theorem Tr.rp (t : Tr S S') {d : D} {v : V} (h : Rp (S.wd K Z) d v) : Rp (S'.wd K Z) d v := (t.le (K := K) (Z := Z)).rp d v h
theorem Tr.rpL (t : Tr S S') {d : List D} {v : List V} (h : RpL (S.wd K Z) d v) : RpL (S'.wd K Z) d v := (t.le (K := K) (Z := Z)).rpL d v h
theorem Tr.rpO (t : Tr S S') {d : List (Str × D)} {v : List (Str × V)} (h : RpO (S.wd K Z) d v) : RpO (S'.wd K Z) d v := (t.le (K := K) (Z := Z)).rpO d v h
theorem Tr.rpK (t : Tr S S') {d : List (Key × D)} {v : List (Key × V)} (h : RpK (S.wd K Z) d v) : RpK (S'.wd K Z) d v := (t.le (K := K) (Z := Z)).rpK d v h
end
end QB

/-! The pure layer, part 2: results, what is wanted of them, expressions. -/
namespace QB
open PySem PySem.Spec PyProof.Rows L2

structure Exn where
  cls : Str
  fs : List (Str × D)
inductive Res (α : Type) where
  | ok (a : α) (e : PEnv) (s : Store) | exc (x : Exn) (e : PEnv) (s : Store) | bad
abbrev M (α : Type) := PEnv → Store → Res α
def rt {α : Type} (a : α) : M α := fun e s => .ok a e s
def fail {α : Type} : M α := fun _ _ => .bad
def opt {α : Type} : Option α → M α
  | some a => rt a
  | none => fail
def Res.andThen {α β : Type} (r : Res α) (f : α → M β) : Res β := match r with
  | .ok a e s => f a e s
  | .exc x e s => .exc x e s
  | .bad => .bad
def bnd {α β : Type} (m : M α) (f : α → M β) : M β := fun e s => (m e s).andThen f
section
variable {α β : Type} {f : α → M β} {a : α} {e : PEnv} {s : Store} {x : Exn}
@[simp] theorem andThen_ok : (Res.ok a e s).andThen f = f a e s := rfl
@[simp] theorem andThen_exc : (Res.exc x e s : Res α).andThen f = .exc x e s := rfl
@[simp] theorem andThen_bad : (Res.bad : Res α).andThen f = .bad := rfl
@[simp] theorem rt_app : rt a e s = .ok a e s := rfl
@[simp] theorem fail_app : (fail e s : Res α) = .bad := rfl
@[simp] theorem opt_some : opt (some a) = rt a := rfl
@[simp] theorem opt_none : opt (none : Option α) = fail := rfl
@[simp] theorem bnd_app {m : M α} : bnd m f e s = (m e s).andThen f := rfl
end
/-- fields of an exception -/
def RpF (w : Wd) : List (Str × D) → List (Str × V) → Prop
  | [], es => es = []
  | (k, d) :: r, es => ∃ x xs, es = (k, x) :: xs ∧ Rp w d x ∧ RpF w r xs
theorem Wd.Le.rpF {w w' : Wd} (l : w.Le w') : ∀ (ds : List (Str × D)) (vs : List (Str × V)), RpF w ds vs → RpF w' ds vs
  | [], _, h => h
  | (k, d) :: ds, vs, h => by
    obtain ⟨x, xs, e, h1, h2⟩ := h
    exact ⟨x, xs, e, l.rp d x h1, Wd.Le.rpF l ds xs h2⟩
def ExAt (mg : Str → Option Value) (w : Wd) (x : Exn) (C dd : Addr) : Prop := mg x.cls = some (.ref C) ∧ ∃ vs, (¬ w.M dd ∧ w.H dd = some (.xd vs)) ∧ RpF w x.fs vs

section
variable {K : PySem.W.Frag} {mg : Str → Option Value} {Z : Addr → Prop} {σ : L2.St} {S S1 : S8} {α β : Type}
def Wp (K : PySem.W.Frag) (Z : Addr → Prop) (σ : L2.St) (S : S8) (r : Res α) (Q : α → S8 → Prop) (Qx : Exn → S8 → Prop) : Prop := match r with
  | .ok a e s => ∀ S' : S8, S'.env = e → S'.st = s → Rel K Z σ S' → Tr S S' → Q a S'
  | .exc x e s => ∀ S' : S8, S'.env = e → S'.st = s → Rel K Z σ S' → Tr S S' → Qx x S'
  | .bad => False
theorem Wp.from {r : Res α} {Q : α → S8 → Prop} {Qx : Exn → S8 → Prop} (h : Wp K Z σ S r Q Qx) (t : Tr S S1) : Wp K Z σ S1 r Q Qx := by
  cases r with
  | ok a e s => exact fun S' h1 h2 R T => h S' h1 h2 R (t.trans T)
  | exc x e s => exact fun S' h1 h2 R T => h S' h1 h2 R (t.trans T)
  | bad => exact h
theorem Wp.imp {r : Res α} {Q Q' : α → S8 → Prop} {Qx : Exn → S8 → Prop} (h : Wp K Z σ S r Q Qx) (k : ∀ a S', Rel K Z σ S' → Tr S S' → Q a S' → Q' a S') : Wp K Z σ S r Q' Qx := by
  cases r with
  | ok a e s => exact fun S' h1 h2 R T => k a S' R T (h S' h1 h2 R T)
  | exc x e s => exact h
  | bad => exact h
theorem Wp.bnd {m : M α} {f : α → M β} {Q : β → S8 → Prop} {Q' : α → S8 → Prop} {Qx : Exn → S8 → Prop} (h : Wp K Z σ S (QB.bnd m f S.env S.st) Q Qx)
    (k : ∀ a S', Rel K Z σ S' → Tr S S' → Wp K Z σ S' (f a S'.env S'.st) Q Qx → Q' a S') : Wp K Z σ S (m S.env S.st) Q' Qx := by
  rw [bnd_app] at h
  cases e : m S.env S.st with
  | ok a e' s' =>
    rw [e] at h
    intro S' h1 h2 R T
    refine k a S' R T ?_
    rw [h1, h2]
    exact Wp.from h T
  | exc x e' s' => rw [e] at h; exact h
  | bad => rw [e] at h; exact h
theorem Wp.here {a : α} {Q : α → S8 → Prop} {Qx : Exn → S8 → Prop} (h : Wp K Z σ S (.ok a S.env S.st) Q Qx) (R : Rel K Z σ S) : Q a S := h S rfl rfl R (Tr.refl S)
end

/-! ### new objects -/
section
variable {K : PySem.W.Frag} {Z : Addr → Prop} {σ : L2.St} {S : S8}
theorem CellAt.ne {w : Wd} {c : Cell} {a : Addr} (h : CellAt w c a) : w.H a ≠ none := by
  cases c with
  | lst ds => obtain ⟨xs, e, _⟩ := h; rw [e]; intro z; cases z
  | dct kvs => obtain ⟨xs, e, _⟩ := h; rw [e]; intro z; cases z
  | obj cn fs => obtain ⟨dx, xs, e, _⟩ := h; rw [e]; intro z; cases z
  | fdc kvs => obtain ⟨dx, xs, e, _⟩ := h; rw [e]; intro z; cases z
theorem Wd.Le.cell {w w' : Wd} (l : w.Le w') {c : Cell} {a : Addr} (e : w'.H a = w.H a) (h : CellAt w c a) : CellAt w' c a := by
  cases c with
  | lst ds => obtain ⟨xs, h1, h2⟩ := h; exact ⟨xs, e.trans h1, l.rpL _ _ h2⟩
  | dct kvs => obtain ⟨xs, h1, h2⟩ := h; exact ⟨xs, e.trans h1, l.rpK _ _ h2⟩
  | obj cn fs => obtain ⟨dx, xs, h1, h2⟩ := h; exact ⟨dx, xs, e.trans (by rw [l.K]; exact h1), l.rpO _ _ h2⟩
  | fdc kvs => obtain ⟨dx, xs, h1, h2⟩ := h; exact ⟨dx, xs, e.trans h1, l.rpK _ _ h2⟩
theorem Rel.notMu (R : Rel K Z σ S) {p : Addr} (h : S.H p = none) : ¬ Mu Z S p := by
  rintro (z | ⟨q, c, hq, e⟩)
  · exact R.zt p z h
  · have := (R.cell q c hq).ne
    rw [e] at this
    exact this h
abbrev S8.up (S : S8) (H' : Hp) : S8 := { S with H := H' }
theorem Tr.up {H' : Hp} (x : ∀ a o, S.H a = some o → H' a = some o) : Tr S (S.up H') where
  dom := fun a h => by
    cases e : S.H a with
    | none => exact absurd e h
    | some o => show H' a ≠ none; rw [x a o e]; intro z; cases z
  keep := fun a o h _ => x a o h
  fresh := fun p c h => .inl ⟨p, c, h, rfl⟩
  n := Nat.le_refl _
  c := fun _ _ => rfl
  frz := fun a o u h => x a _ h
  o := fun i c h => ⟨⟨c, h⟩, rfl⟩
theorem Rel.up (R : Rel K Z σ S) {H' : Hp} (x : ∀ a o, S.H a = some o → H' a = some o) : Rel K Z σ (S.up H') where
  len := R.len
  val := fun i d h => by
    obtain ⟨v, e, r⟩ := R.val i d h
    exact ⟨v, e, (Tr.up x).rp r⟩
  own := R.own
  cell := fun p c h => by
    have q := R.cell p c h
    refine ((Tr.up x).le (K := K) (Z := Z)).cell ?_ q
    have n := q.ne
    show H' (S.ad p) = S.H (S.ad p)
    cases e : S.H (S.ad p) with
    | none => exact absurd e n
    | some o => exact x _ o e
  inj := R.inj
  zf := R.zf
  zt := fun a z => (Tr.up x).dom a (R.zt a z)
theorem ext_new {H : Hp} {p : Addr} {o : HO} (h : H p = none) : ∀ a u, H a = some u → upd H p o a = some u := fun a u e => by
  rw [upd_ne (ne_of_none e h)]; exact e
theorem Rel.newTup (R : Rel K Z σ S) {p : Addr} (h : S.H p = none) {ds : List D} {xs : List V} (r : RpL (S.wd K Z) ds xs) :
    Rp ((S.up (upd S.H p (.tup xs))).wd K Z) (.tup ds) (.ref p) := by
  unfold Rp
  exact ⟨p, xs, rfl, .inl ⟨R.notMu h, .inl upd_same⟩, (Tr.up (ext_new h)).rpL r⟩
def addZ (Z : Addr → Prop) (p : Addr) : Addr → Prop := fun a => Z a ∨ a = p
/-- a new object, foreign so far -/
theorem Rel.addNew (R : Rel K Z σ S) {p : Addr} {o : HO} (h : S.H p = none) : Rel K (addZ Z p) σ (S.up (upd S.H p o)) := by
  have x := ext_new (o := o) h
  have R' := R.up x
  have le : ((S.up (upd S.H p o)).wd K Z).Le ((S.up (upd S.H p o)).wd K (addZ Z p)) ∨ True := .inr trivial
  have lf : (S.wd K Z).Le ((S.up (upd S.H p o)).wd K (addZ Z p)) := by
    have l := (Tr.up x).le (K := K) (Z := Z)
    refine ⟨rfl, fun a u e m => ⟨(l.still a u e m).1, ?_⟩, l.n, l.c, l.frz⟩
    have e' : S.H a = some u := e
    rintro ((z | z) | ⟨q, c, hq, e2⟩)
    · exact m (.inl z)
    · rw [z, h] at e'; cases e'
    · exact m (.inr ⟨q, c, hq, e2⟩)
  refine ⟨R.len, fun i d hi => ?_, R.own, fun q c hq => ?_, R.inj, fun q c hq => ?_, fun a z => ?_⟩
  · obtain ⟨v, e, r⟩ := R.val i d hi
    exact ⟨v, e, lf.rp d v r⟩
  · have k := R.cell q c hq
    refine lf.cell ?_ k
    have n := k.ne
    show upd S.H p o (S.ad q) = S.H (S.ad q)
    exact upd_ne (fun z => n (by rw [z]; exact h))
  · rintro (z | z)
    · exact R.zf q c hq z
    · have n := (R.cell q c hq).ne
      rw [z] at n
      exact n h
  · rcases z with z | z
    · exact (Tr.up x).dom a (R.zt a z)
    · rw [z]; show upd S.H p o p ≠ none; rw [upd_same]; intro q; cases q
theorem le_new (R : Rel K Z σ S) {p : Addr} {o : HO} (h : S.H p = none) : (S.wd K Z).Le ((S.up (upd S.H p o)).wd K (addZ Z p)) := by
  have l := (Tr.up (ext_new (o := o) h)).le (K := K) (Z := Z)
  refine ⟨rfl, fun a u e m => ⟨(l.still a u e m).1, ?_⟩, l.n, l.c, l.frz⟩
  have e' : S.H a = some u := e
  rintro ((z | z) | ⟨q, c, hq, e2⟩)
  · exact m (.inl z)
  · rw [z, h] at e'; cases e'
  · exact m (.inr ⟨q, c, hq, e2⟩)
/-- a foreign object is frozen -/
theorem le_freeze {p : Addr} : (S.wd K (addZ Z p)).Le (S.wd K Z) :=
  ⟨rfl, fun a o e m => ⟨e, fun z => m (z.imp .inl id)⟩, Nat.le_refl _, fun _ _ => rfl, fun _ _ _ h => h⟩
theorem Rel.dropZ {p : Addr} (R : Rel K (addZ Z p) σ S) : Rel K Z σ S where
  len := R.len
  val := fun i d h => let ⟨v, e, r⟩ := R.val i d h; ⟨v, e, le_freeze.rp d v r⟩
  own := R.own
  cell := fun q c h => le_freeze.cell rfl (R.cell q c h)
  inj := R.inj
  zf := fun q c h z => R.zf q c h (.inl z)
  zt := fun a z => R.zt a (.inl z)
def Cell.d : Cell → D
  | .lst ds => .lst ds
  | .dct kvs => .dct kvs
  | .obj cn fs => .obj cn fs
  | .fdc kvs => .dct kvs
theorem CellAt.frozen {w w' : Wd} {ds : List D} {p : Addr} (l : w.Le w') (m : ¬ w'.M p) (eH : w'.H p = w.H p) (h : CellAt w (.lst ds) p) : Rp w' (.lst ds) (.ref p) := by
  obtain ⟨xs, e, r⟩ := h; unfold Rp; exact ⟨p, xs, rfl, ⟨m, eH.trans e⟩, l.rpL _ _ r⟩
/-- a foreign object turns -/
theorem le_turn {p : Addr} {o : HO} (m : Mu Z S p) (nf : ∀ ob u, S.H p ≠ some (.frz ob u)) : (S.wd K Z).Le ((S.up (upd S.H p o)).wd K Z) :=
  ⟨rfl, fun a u e n => ⟨by
    have : a ≠ p := fun z => n (by rw [z]; exact m)
    show upd S.H p o a = some u
    rw [upd_ne this]; exact e, n⟩, Nat.le_refl _, fun _ _ => rfl, fun a ob u h => by
    have : a ≠ p := fun z => nf ob u (by rw [← z]; exact h)
    show upd S.H p o a = some _
    rw [upd_ne this]; exact h⟩
theorem Rel.turn (R : Rel K Z σ S) {p : Addr} {o : HO} (z : Z p) (nf : ∀ ob u, S.H p ≠ some (.frz ob u)) : Rel K Z σ (S.up (upd S.H p o)) where
  len := R.len
  val := fun i d h => let ⟨v, e, r⟩ := R.val i d h; ⟨v, e, (le_turn (.inl z) nf).rp d v r⟩
  own := R.own
  cell := fun q c h => by
    refine (le_turn (.inl z) nf).cell ?_ (R.cell q c h)
    have : S.ad q ≠ p := fun e => R.zf q c h (by rw [e]; exact z)
    show upd S.H p o (S.ad q) = S.H (S.ad q)
    exact upd_ne this
  inj := R.inj
  zf := R.zf
  zt := fun a y => by
    by_cases e : a = p
    · subst e; show upd S.H a o a ≠ none; rw [upd_same]; intro q; cases q
    · show upd S.H p o a ≠ none; rw [upd_ne e]; exact R.zt a y
theorem Tr.turn {S0 : S8} (T : Tr S0 S) {p : Addr} {o : HO} (hp : S0.H p = none) : Tr S0 (S.up (upd S.H p o)) where
  dom := fun a h => by
    by_cases e : a = p
    · subst e; exact absurd hp h
    · show upd S.H p o a ≠ none; rw [upd_ne e]; exact T.dom a h
  keep := fun a u h n => by
    have e : a ≠ p := fun z => by rw [z, hp] at h; cases h
    show upd S.H p o a = some u
    rw [upd_ne e]; exact T.keep a u h n
  fresh := T.fresh
  n := T.n
  c := T.c
  frz := fun a ob u h => by
    have e : a ≠ p := fun z => by rw [z, hp] at h; cases h
    show upd S.H p o a = some _
    rw [upd_ne e]; exact T.frz a _ _ h
  o := T.o
theorem Rel.notMu_z {p : Addr} (R : Rel K (addZ Z p) σ S) (h : ¬ Z p) : ¬ Mu Z S p := by
  rintro (z | ⟨q, c, hq, e⟩)
  · exact h z
  · exact R.zf q c hq (.inr e)
end
end QB

/-! The pure layer, part 3: the judgements, names, constants, displays. -/
namespace QB
open PySem PySem.Spec PyProof.Rows L2

/-- how a result is told by a value: foreign addresses, slots, the state ahead, the state behind -/
abbrev RK (α : Type) := (Addr → Prop) → L2.St → S8 → S8 → α → V → Prop
inductive Bv where
  | v (d : D) | s (i : Nat)
def rE (K : PySem.W.Frag) : RK D := fun Z _ _ S d v => Rp (S.wd K Z) d v
def rB (K : PySem.W.Frag) : RK Bv := fun Z σ _ S b v => match b with
  | .v d => Rp (S.wd K Z) d v
  | .s i => σ[i]? = some (some v)
/-- a new mutable object -/
def rF (K : PySem.W.Frag) : RK Cell := fun Z σ S0 S c v => ∃ p, v = .ref p ∧ S0.H p = none ∧ ¬ Z p ∧ Rel K (addZ Z p) σ S ∧ CellAt (S.wd K (addZ Z p)) c p
def Qx (K : PySem.W.Frag) (mg : Str → Option Value) (W : WX) (Z : Addr → Prop) (σ : L2.St) : Exn → S8 → Prop := fun x S' => ∀ C dd, ExAt mg (S'.wd K Z) x C dd → W (.ref C) (some dd) σ S'.H
def tG {α : Type} (K : PySem.W.Frag) (mg : Str → Option Value) (W : WX) (R : RK α) (m : M α) : TE := fun σ H Q =>
  ∃ Z S, S.H = H ∧ Rel K Z σ S ∧ Wp K Z σ S (m S.env S.st) (fun a S' => ∀ v, R Z σ S S' a v → Q v S'.H) (Qx K mg W Z σ)
def PEv (X : Cx) (W : WX) (e : Expr) (m : M D) : Prop := PE X e (tG X.K X.mg W (rE X.K) m)
def PBv (X : Cx) (W : WX) (e : Expr) (m : M Bv) : Prop := PE X e (tG X.K X.mg W (rB X.K) m)
def PFr (X : Cx) (W : WX) (e : Expr) (m : M Cell) : Prop := PE X e (tG X.K X.mg W (rF X.K) m)
def tGA (K : PySem.W.Frag) (mg : Str → Option Value) (W : WX) (m : M (List D)) : TA := fun σ H Q =>
  ∃ Z S, S.H = H ∧ Rel K Z σ S ∧ Wp K Z σ S (m S.env S.st) (fun ds S' => ∀ vs, RpL (S'.wd K Z) ds vs → Q vs S'.H) (Qx K mg W Z σ)
def PAv (X : Cx) (W : WX) (es : List Expr) (m : M (List D)) : Prop := PA X es (tGA X.K X.mg W m)
theorem PE.weak {X : Cx} {e : Expr} {t t' : TE} (h : PE X e t) (k : ∀ σ H Q, t' σ H Q → t σ H Q) : PE X e t' := ⟨fun pins s σ H Q I q => h.run pins s σ H Q I (k σ H Q q)⟩
theorem PA.weak {X : Cx} {e : List Expr} {t t' : TA} (h : PA X e t) (k : ∀ σ H Q, t' σ H Q → t σ H Q) : PA X e t' := ⟨fun pos pins s σ H Q I q => h.run pos pins s σ H Q I (k σ H Q q)⟩
theorem PT.weak {X : Cx} {e : Expr} {t t' : TT} (h : PT X e t) (k : ∀ σ H Q, t' σ H Q → t σ H Q) : PT X e t' := ⟨fun pins s σ H Q I q => h.run pins s σ H Q I (k σ H Q q)⟩
theorem PS.weak {X : Cx} {e : Stmt} {t t' : TS} (h : PS X e t) (k : ∀ D σ H, t' D σ H → t D σ H) : PS X e t' := ⟨fun pins s σ H D I q => h.run pins s σ H D I (k D σ H q)⟩
theorem PSs.weak {X : Cx} {e : List Stmt} {t t' : TS} (h : PSs X e t) (k : ∀ D σ H, t' D σ H → t D σ H) : PSs X e t' := ⟨fun pins s σ H D I q => h.run pins s σ H D I (k D σ H q)⟩

section
variable {X : Cx} {W : WX} {e : Expr} {pos : Pos}
/-! ### names -/
def varM (i : Nat) : M D := fun e s => match e[i]? with
  | some (.val d) => .ok d e s
  | _ => .bad
def bvarM (i : Nat) : M Bv := fun e s => match e[i]? with
  | some (.val d) => .ok (.v d) e s
  | some (.own _) => .ok (.s i) e s
  | _ => .bad
theorem ev_var (i : Nat) {x : Str} (h : PE X (.Name x pos) (tVar i) := by exact pv _) : PEv X W (.Name x pos) (varM i) := by
  refine PE.weak h fun σ H Q q => ?_
  obtain ⟨Z, S, rfl, R, hw⟩ := q
  unfold varM at hw
  split at hw
  · rename_i d e
    obtain ⟨v, e1, r1⟩ := R.val i d e
    exact ⟨v, e1, hw.here R v r1⟩
  · exact hw.elim
theorem bv_var (i : Nat) {x : Str} (h : PE X (.Name x pos) (tVar i) := by exact pv _) : PBv X W (.Name x pos) (bvarM i) := by
  refine PE.weak h fun σ H Q q => ?_
  obtain ⟨Z, S, rfl, R, hw⟩ := q
  unfold bvarM at hw
  split at hw
  · rename_i d e
    obtain ⟨v, e1, r1⟩ := R.val i d e
    exact ⟨v, e1, hw.here R v r1⟩
  · rename_i c e
    exact ⟨_, R.own i c e, hw.here R _ (R.own i c e)⟩
  · exact hw.elim
def toB (m : M D) : M Bv := bnd m fun d => rt (.v d)
theorem PEv.b {m : M D} (h : PEv X W e m) : PBv X W e (toB m) := by
  refine PE.weak h fun σ H Q q => ?_
  obtain ⟨Z, S, rfl, R, hw⟩ := q
  exact ⟨Z, S, rfl, R, Wp.bnd hw fun d S1 R1 T1 h1 v r1 => h1.here R1 v r1⟩
/-! ### constants -/
theorem ev_cst {v : V} {d : D} (h : PE X e (tC v)) (r : ∀ w, Rp w d v) : PEv X W e (rt d) := by
  refine PE.weak h fun σ H Q q => ?_
  obtain ⟨Z, S, rfl, R, hw⟩ := q
  exact hw.here R v (r _)
theorem ev_int {i : Int} {j : Nat} : PEv X W (.Constant (.int i) j pos) (rt (.int i)) := ev_cst pe_int fun w => by unfold Rp; rfl
theorem ev_bl {i : Bool} {j : Nat} : PEv X W (.Constant (.bool i) j pos) (rt (.bl i)) := ev_cst pe_bl fun w => by unfold Rp; rfl
theorem ev_non {j : Nat} : PEv X W (.Constant .none j pos) (rt .non) := ev_cst pe_non fun w => by unfold Rp; rfl
theorem ev_str {x : Str} {j : Nat} : PEv X W (.Constant (.str x) j pos) (rt (.str x)) := ev_cst pe_str fun w => by unfold Rp; rfl
/-- a constant of the module -/
theorem ev_glob {x : Str} {u : Value} {v : V} {d : D} (hg : Gl X x) (hm : X.mg x = some u) (rv : RelV v u) (r : ∀ w : Wd, w.K = X.K → Rp w d v) (hd : (x == ("__debug__" : Str)) = false := by decide) : PEv X W (.Name x pos) (rt d) := by
  refine PE.weak (pe_glob hg hm rv hd) fun σ H Q q => ?_
  obtain ⟨Z, S, rfl, R, hw⟩ := q
  exact hw.here R v (r _ rfl)
/-! ### lists of arguments -/
theorem av_nil : PAv X W [] (rt []) := by
  refine PA.weak pa_nil fun σ H Q q => ?_
  obtain ⟨Z, S, rfl, R, hw⟩ := q
  exact hw.here R [] RpL.nil
def consM (m : M D) (ms : M (List D)) : M (List D) := bnd m fun d => bnd ms fun ds => rt (d :: ds)
theorem av_cons {es : List Expr} {m : M D} {ms : M (List D)} (h : PEv X W e m) (hs : PAv X W es ms) (hst : starEach (e :: es) X.env = (false, eval e X.env) :: starEach es X.env := by rfl) : PAv X W (e :: es) (consM m ms) := by
  refine PA.weak (pa_cons h hs hst) fun σ H Q q => ?_
  obtain ⟨Z, S, rfl, R, hw⟩ := q
  refine ⟨Z, S, rfl, R, Wp.bnd hw fun d S1 R1 T1 h1 v r1 => ?_⟩
  refine ⟨Z, S1, rfl, R1, Wp.bnd h1 fun ds S2 R2 T2 h2 vs r2 => ?_⟩
  exact h2.here R2 _ (.cons (T2.rp r1) r2)
/-! ### displays -/
def szOk (n : Nat) : Bool := Nat.ble n 16777216
theorem szOk_le {n : Nat} (h : szOk n = true) : n ≤ sizeLine := by rw [sizeLine_eq]; exact Nat.le_of_ble_eq_true h
def chk (b : Bool) {α : Type} (m : M α) : M α := fun e s => match b with
  | true => m e s
  | false => .bad
@[simp] theorem chk_true {α : Type} {m : M α} : chk true m = m := rfl
@[simp] theorem chk_false {α : Type} {m : M α} : chk false m = fail := rfl
def tupM (m : M (List D)) : M D := bnd m fun ds => chk (szOk ds.length) (rt (.tup ds))
def lstM (m : M (List D)) : M Cell := bnd m fun ds => chk (szOk ds.length) (rt (.lst ds))
theorem Wp.chk {K : PySem.W.Frag} {Z : Addr → Prop} {σ : L2.St} {S : S8} {b : Bool} {α : Type} {m : M α} {Q : α → S8 → Prop} {Qx : Exn → S8 → Prop} (h : Wp K Z σ S (QB.chk b m S.env S.st) Q Qx) : b = true ∧ Wp K Z σ S (m S.env S.st) Q Qx := by
  cases b with
  | true => exact ⟨rfl, h⟩
  | false => exact h.elim
theorem ev_tup {es : List Expr} {x1} {ms : M (List D)} (h : PAv X W es ms) : PEv X W (.Tuple es x1 pos) (tupM ms) := by
  refine PE.weak (pe_tup h) fun σ H Q q => ?_
  obtain ⟨Z, S, rfl, R, hw⟩ := q
  refine ⟨Z, S, rfl, R, Wp.bnd hw fun ds S1 R1 T1 h1 vs r1 => ?_⟩
  obtain ⟨hb, h2⟩ := h1.chk
  refine ⟨by rw [r1.length]; exact szOk_le hb, fun p hp => ?_⟩
  exact h2 (S1.up (upd S1.H p (.tup vs))) rfl rfl (R1.up (ext_new hp)) (Tr.up (ext_new hp)) _ (R1.newTup hp r1)
theorem fr_lst {es : List Expr} {ms : M (List D)} (h : PAv X W es ms) : PFr X W (.List es pos) (lstM ms) := by
  refine PE.weak (pe_lst h) fun σ H Q q => ?_
  obtain ⟨Z, S, rfl, R, hw⟩ := q
  refine ⟨Z, S, rfl, R, Wp.bnd hw fun ds S1 R1 T1 h1 vs r1 => ?_⟩
  obtain ⟨hb, h2⟩ := h1.chk
  refine ⟨by rw [r1.length]; exact szOk_le hb, fun p hp => ?_⟩
  refine h2 (S1.up (upd S1.H p (.lst vs))) rfl rfl (R1.up (ext_new hp)) (Tr.up (ext_new hp)) _ ⟨p, rfl, ?_, fun z => R1.zt p z hp, R1.addNew hp, vs, upd_same, (le_new R1 hp).rpL _ _ r1⟩
  cases e : S.H p with
  | none => rfl
  | some o => exact absurd hp (T1.dom p (by rw [e]; intro z; cases z))
/-- the new object as a value -/
def frz (m : M Cell) : M D := bnd m fun c => rt c.d
theorem PE.ghost {X : Cx} {e : Expr} {t : TE} (h : PE X e t) : PE X e (fun σ H Q => t σ H (fun v H' => Q v H' ∨ ∃ d u, H' d = some u ∧ Mut (some u) ∧ ∀ od, Q v (upd H' d (.frz od u)))) := by
  refine ⟨fun pins s σ H Q I hw => thn (h.run pins s σ H _ I hw) fun v s1 ⟨x, H1, I1, r, q⟩ => ?_⟩
  rcases q with q | ⟨d, u, hd, mu, q⟩
  · exact ⟨x, H1, I1, r, q⟩
  · obtain ⟨od, I2⟩ := I1.lock hd mu
    exact ⟨x, _, I2, r, q od⟩
theorem PFr.frz {m : M Cell} (h : PFr X W e m) : PEv X W e (frz m) := by
  refine PE.weak (PE.ghost h) fun σ H Q q => ?_
  obtain ⟨Z, S, rfl, R, hw⟩ := q
  refine ⟨Z, S, rfl, R, ?_⟩
  have hw' : Wp X.K Z σ S (bnd m (fun c => rt c.d) S.env S.st) (fun a S' => ∀ v, rE X.K Z σ S S' a v → Q v S'.H) (Qx X.K X.mg W Z σ) := hw
  rw [bnd_app] at hw'
  cases e1 : m S.env S.st with
  | bad => rw [e1] at hw'; exact hw'
  | exc x e' s' => rw [e1] at hw'; exact hw'
  | ok c e' s' =>
    rw [e1] at hw'
    intro S' he hs R1 T1 v r1
    obtain ⟨p, rfl, hp, hz, R2, hc⟩ := r1
    cases c with
    | lst ds => exact .inl (hw' S' he hs R1 T1 _ (hc.frozen le_freeze (R2.notMu_z hz) rfl))
    | dct kvs =>
      obtain ⟨es, e2, rk⟩ := hc
      refine .inr ⟨p, .dK es, e2, trivial, fun od => ?_⟩
      have nf : ∀ ob u, S'.H p ≠ some (.frz ob u) := fun ob u z => by
        have e2' : S'.H p = some (.dK es) := e2
        rw [e2'] at z; cases z
      have R3 := R2.turn (o := .frz od (.dK es)) (.inr rfl) nf
      refine hw' (S'.up (upd S'.H p (.frz od (.dK es)))) he hs R3.dropZ (T1.turn hp) _ ?_
      show Rp _ (.dct kvs) (.ref p)
      unfold Rp
      refine ⟨p, es, rfl, ⟨od, upd_same⟩, ?_⟩
      exact le_freeze.rpK _ _ ((le_turn (.inl (.inr rfl)) nf).rpK _ _ rk)
    | obj cn fs =>
      obtain ⟨dx, es, e2, rk⟩ := hc
      refine .inl (hw' S' he hs R1 T1 _ ?_)
      show Rp _ (.obj cn fs) (.ref p)
      unfold Rp
      exact ⟨p, es, rfl, ⟨R2.notMu_z hz, dx, e2⟩, le_freeze.rpO _ _ rk⟩
    | fdc kvs =>
      obtain ⟨es, o, e2, rk⟩ := hc
      refine .inl (hw' S' he hs R1 T1 _ ?_)
      show Rp _ (.dct kvs) (.ref p)
      unfold Rp
      exact ⟨p, es, rfl, ⟨o, e2⟩, le_freeze.rpK _ _ rk⟩
/-- .. as a new cell -/
def cellM (m : M Cell) : M D := bnd m fun c => fun e s => .ok (.ref s.length) e (s ++ [c])
end
end QB

/-! The pure layer, part 4: places made, contents read, operators. -/
namespace QB
open PySem PySem.Spec PyProof.Rows L2

section
variable {K : PySem.W.Frag} {Z : Addr → Prop} {σ : L2.St} {S S0 : S8}
/-! ### a foreign object becomes a cell -/
def adCell (S : S8) (p : Addr) : Pl → Addr
  | .inl i => S.ad (.inl i)
  | .inr k => if k = S.st.length then p else S.ad (.inr k)
abbrev S8.pushCell (S : S8) (c : Cell) (p : Addr) : S8 := ⟨S.env, S.st ++ [c], adCell S p, S.H⟩
theorem cont_push {c : Cell} {p : Addr} : ∀ {q : Pl} {d : Cell}, (S.pushCell c p).cont q = some d → (q = .inr S.st.length ∧ d = c ∧ (S.pushCell c p).ad q = p) ∨ (S.cont q = some d ∧ (S.pushCell c p).ad q = S.ad q)
  | .inl i, d, h => .inr ⟨h, rfl⟩
  | .inr k, d, h => by
    have h' : (S.st ++ [c])[k]? = some d := h
    by_cases e : k = S.st.length
    · subst e
      rw [List.getElem?_append_right (Nat.le_refl _)] at h'
      simp at h'
      exact .inl ⟨rfl, h'.symm, if_pos rfl⟩
    · refine .inr ⟨?_, if_neg e⟩
      by_cases l : k < S.st.length
      · rw [List.getElem?_append_left l] at h'; exact h'
      · rw [List.getElem?_append_right (by omega)] at h'
        have : k - S.st.length ≠ 0 := by omega
        cases q : k - S.st.length with
        | zero => exact absurd q this
        | succ n => rw [q] at h'; simp at h'
theorem cont_old {c : Cell} {p : Addr} {q : Pl} {d : Cell} (h : S.cont q = some d) : (S.pushCell c p).cont q = some d ∧ (S.pushCell c p).ad q = S.ad q := by
  cases q with
  | inl i => exact ⟨h, rfl⟩
  | inr k =>
    have h' : S.st[k]? = some d := h
    have l : k < S.st.length := (List.getElem?_eq_some_iff.mp h').1
    exact ⟨(List.getElem?_append_left l).trans h', if_neg (Nat.ne_of_lt l)⟩
theorem le_push {c : Cell} {p : Addr} : (S.wd K (addZ Z p)).Le ((S.pushCell c p).wd K Z) := by
  refine ⟨rfl, fun a o e m => ⟨e, ?_⟩, ?_, fun k h => if_neg (Nat.ne_of_lt h), fun _ _ _ h => h⟩
  · rintro (z | ⟨q, d, hq, eq⟩)
    · exact m (.inl (.inl z))
    · rcases cont_push hq with ⟨_, _, e2⟩ | ⟨h2, e2⟩
      · exact m (.inl (.inr (eq.symm.trans e2)))
      · exact m (.inr ⟨q, d, h2, e2.symm.trans eq⟩)
  · show S.st.length ≤ (S.st ++ [c]).length
    simp
theorem Rel.toCell {c : Cell} {p : Addr} (R : Rel K (addZ Z p) σ S) (hz : ¬ Z p) (hc : CellAt (S.wd K (addZ Z p)) c p) : Rel K Z σ (S.pushCell c p) where
  len := R.len
  val := fun i d h => let ⟨v, e, r⟩ := R.val i d h; ⟨v, e, le_push.rp d v r⟩
  own := R.own
  cell := fun q d h => by
    rcases cont_push h with ⟨_, e1, e2⟩ | ⟨h2, e2⟩
    · rw [e1, e2]; exact le_push.cell rfl hc
    · rw [e2]; exact le_push.cell rfl (R.cell q d h2)
  inj := fun q r c1 c2 h1 h2 e => by
    rcases cont_push h1 with ⟨e1, _, a1⟩ | ⟨k1, a1⟩
    · rcases cont_push h2 with ⟨e2, _, a2⟩ | ⟨k2, a2⟩
      · rw [e1, e2]
      · exact absurd (.inr (a2.symm.trans (e.symm.trans a1))) (R.zf r c2 k2)
    · rcases cont_push h2 with ⟨e2, _, a2⟩ | ⟨k2, a2⟩
      · exact absurd (.inr (a1.symm.trans (e.trans a2))) (R.zf q c1 k1)
      · exact R.inj q r c1 c2 k1 k2 (a1.symm.trans (e.trans a2))
  zf := fun q d h z => by
    rcases cont_push h with ⟨_, _, a1⟩ | ⟨k1, a1⟩
    · rw [a1] at z; exact hz z
    · rw [a1] at z; exact R.zf q d k1 (.inl z)
  zt := fun a z => R.zt a (.inl z)
theorem Tr.toCell {c : Cell} {p : Addr} (T : Tr S0 S) (hp : S0.H p = none) : Tr S0 (S.pushCell c p) where
  dom := T.dom
  keep := T.keep
  fresh := fun q d h => by
    rcases cont_push h with ⟨_, _, a1⟩ | ⟨k1, a1⟩
    · rw [a1]; exact .inr hp
    · rw [a1]; exact T.fresh q d k1
  n := Nat.le_trans T.n (by show S.st.length ≤ (S.st ++ [c]).length; simp)
  c := fun k h => (if_neg (Nat.ne_of_lt (Nat.lt_of_lt_of_le h T.n))).trans (T.c k h)
  frz := T.frz
  o := fun i d h => T.o i d h
theorem PFr.cell {X : Cx} {W : WX} {e : Expr} {m : M Cell} (h : PFr X W e m) : PEv X W e (cellM m) := by
  refine PE.weak h fun σ H Q q => ?_
  obtain ⟨Z, S, rfl, R, hw⟩ := q
  refine ⟨Z, S, rfl, R, ?_⟩
  have hw' : Wp X.K Z σ S (bnd m (fun c => fun e s => .ok (D.ref s.length) e (s ++ [c])) S.env S.st) (fun a S' => ∀ v, rE X.K Z σ S S' a v → Q v S'.H) (Qx X.K X.mg W Z σ) := hw
  rw [bnd_app] at hw'
  cases e1 : m S.env S.st with
  | bad => rw [e1] at hw'; exact hw'
  | exc x e' s' => rw [e1] at hw'; exact hw'
  | ok c e' s' =>
    rw [e1] at hw'
    intro S' he hs R1 T1 v r1
    obtain ⟨p, rfl, hp, hz, R2, hc⟩ := r1
    have k := hw' (S'.pushCell c p) he (by show S'.st ++ [c] = s' ++ [c]; rw [hs]) (R2.toCell hz hc) (T1.toCell hp)
    refine k _ ?_
    unfold rE Rp
    refine ⟨?_, ?_⟩
    · show s'.length < (S'.st ++ [c]).length
      rw [hs]; simp
    · show V.ref p = V.ref (if s'.length = S'.st.length then p else _)
      rw [hs, if_pos rfl]
end

/-! ### contents -/
def rd (b : Bv) : M D := fun e s => match b with
  | .v (.ref k) => (match s[k]? with
    | some c => .ok c.d e s
    | none => .bad)
  | .v d => .ok d e s
  | .s i => (match e[i]? with
    | some (.own c) => .ok c.d e s
    | _ => .bad)
section
variable {e : PEnv} {s : Store}
@[simp] theorem rd_non : rd (.v .non) e s = .ok .non e s := rfl
@[simp] theorem rd_bl {b : Bool} : rd (.v (.bl b)) e s = .ok (.bl b) e s := rfl
@[simp] theorem rd_int {b : Int} : rd (.v (.int b)) e s = .ok (.int b) e s := rfl
@[simp] theorem rd_str {b : Str} : rd (.v (.str b)) e s = .ok (.str b) e s := rfl
@[simp] theorem rd_tup {b : List D} : rd (.v (.tup b)) e s = .ok (.tup b) e s := rfl
@[simp] theorem rd_lst {b : List D} : rd (.v (.lst b)) e s = .ok (.lst b) e s := rfl
@[simp] theorem rd_wls {b : List D} : rd (.v (.wls b)) e s = .ok (.wls b) e s := rfl
@[simp] theorem rd_dct {b : List (Key × D)} : rd (.v (.dct b)) e s = .ok (.dct b) e s := rfl
theorem rd_ref {k : Nat} {c : Cell} (h : s[k]? = some c) : rd (.v (.ref k)) e s = .ok c.d e s := by
  show (match s[k]? with | some c => Res.ok c.d e s | none => .bad) = _
  rw [h]
theorem rd_own {i : Nat} {c : Cell} (h : e[i]? = some (.own c)) : rd (.s i) e s = .ok c.d e s := by
  show (match e[i]? with | some (.own c) => Res.ok c.d e s | _ => .bad) = _
  rw [h]
end
/-- what is read: the top may be mutable -/
def Rt (w : Wd) : D → V → Prop
  | .lst ds, v => ∃ a xs, v = .ref a ∧ w.H a = some (.lst xs) ∧ RpL w ds xs
  | .dct kvs, v => ∃ a es, v = .ref a ∧ Rd w.H a (.dK es) ∧ RpK w kvs es
  | .ref _, _ => False
  | .non, v => v = .non
  | .bl b, v => v = .bl b
  | .int i, v => v = .int i
  | .str x, v => v = .str x
  | .tup ds, v => ∃ a xs, v = .ref a ∧ RdT w a xs ∧ RpL w ds xs
  | .wls ds, v => ∃ a xs, v = .ref a ∧ RdW w a xs ∧ RpL w ds xs
  | .obj cn fs, v => ∃ a dx es, v = .ref a ∧ w.H a = some (.ins (He.ga w.K cn) dx es) ∧ RpO w fs es
theorem CellAt.rt {w : Wd} {c : Cell} {a : Addr} (h : CellAt w c a) : Rt w c.d (.ref a) := by
  cases c with
  | lst ds => obtain ⟨xs, e, r⟩ := h; exact ⟨a, xs, rfl, e, r⟩
  | dct kvs => obtain ⟨xs, e, r⟩ := h; exact ⟨a, xs, rfl, .inl e, r⟩
  | obj cn fs => obtain ⟨dx, xs, e, r⟩ := h; exact ⟨a, dx, xs, rfl, e, r⟩
  | fdc kvs => obtain ⟨xs, o, e, r⟩ := h; exact ⟨a, xs, rfl, .inr ⟨o, e⟩, r⟩
theorem Rp.rt {w : Wd} {d : D} {v : V} (h : Rp w d v) (n : ∀ k, d ≠ .ref k) : Rt w d v := by
  cases d with
  | ref k => exact absurd rfl (n k)
  | lst ds => unfold Rp at h; obtain ⟨a, xs, e, h1, h2⟩ := h; exact ⟨a, xs, e, h1.2, h2⟩
  | dct ds => unfold Rp at h; obtain ⟨a, xs, e, h1, h2⟩ := h; exact ⟨a, xs, e, .inr h1, h2⟩
  | obj cn fs => unfold Rp at h; obtain ⟨a, xs, e, ⟨_, dx, h1⟩, h2⟩ := h; exact ⟨a, dx, xs, e, h1, h2⟩
  | _ => unfold Rp at h; exact h
theorem Wd.Le.rt_still {w w' : Wd} (l : w.Le w') (hk : ∀ a o, w.H a = some o → w'.H a = some o) {d : D} {v : V} (h : Rt w d v) : Rt w' d v := by
  cases d with
  | ref k => exact h
  | lst ds => obtain ⟨a, xs, e, h1, h2⟩ := h; exact ⟨a, xs, e, hk _ _ h1, l.rpL _ _ h2⟩
  | dct ds => obtain ⟨a, xs, e, h1, h2⟩ := h; exact ⟨a, xs, e, Rd.imp h1 (hk a), l.rpK _ _ h2⟩
  | tup ds => obtain ⟨a, xs, e, h1, h2⟩ := h; exact ⟨a, xs, e, l.rdT h1, l.rpL _ _ h2⟩
  | obj cn fs => obtain ⟨a, dx, xs, e, h1, h2⟩ := h; exact ⟨a, dx, xs, e, by rw [l.K]; exact hk _ _ h1, l.rpO _ _ h2⟩
  | wls ds => obtain ⟨a, xs, e, h1, h2⟩ := h; exact ⟨a, xs, e, l.rdW h1, l.rpL _ _ h2⟩
  | _ => exact h
section
variable {K : PySem.W.Frag} {Z : Addr → Prop} {σ : L2.St} {S S0 : S8} {α : Type}
theorem Rel.rd_ok (R : Rel K Z σ S) {b : Bv} {v : V} (r : rB K Z σ S0 S b v) {f : D → M α} {Q : α → S8 → Prop} {Qx : Exn → S8 → Prop} (h : Wp K Z σ S (bnd (rd b) f S.env S.st) Q Qx) :
    ∃ d, Rt (S.wd K Z) d v ∧ Wp K Z σ S (f d S.env S.st) Q Qx := by
  rw [bnd_app] at h
  cases b with
  | v d =>
    cases d with
    | ref k =>
      have r' : Rp (S.wd K Z) (.ref k) v := r
      unfold Rp at r'
      obtain ⟨hk, e⟩ := r'
      have hk' : k < S.st.length := hk
      have hc : S.st[k]? = some S.st[k] := by simp [hk']
      rw [rd_ref hc] at h
      refine ⟨_, ?_, h⟩
      rw [e]
      exact (R.cell (.inr k) _ hc).rt
    | _ => exact ⟨_, Rp.rt r (fun k z => by cases z), h⟩
  | s i =>
    cases hi : S.env[i]? with
    | none =>
      have z : rd (.s i) S.env S.st = .bad := by
        show (match S.env[i]? with | some (.own c) => Res.ok c.d S.env S.st | _ => .bad) = _
        rw [hi]
      rw [z] at h; exact h.elim
    | some sl =>
      cases sl with
      | own c =>
        rw [rd_own hi] at h
        have e := R.own i c hi
        have e2 : σ[i]? = some (some v) := r
        rw [e] at e2
        cases e2
        refine ⟨_, (R.cell (.inl i) c ?_).rt, h⟩
        show (match S.env[i]? with | some (.own c) => some c | _ => none) = some c
        rw [hi]
      | _ =>
        have z : rd (.s i) S.env S.st = .bad := by
          show (match S.env[i]? with | some (.own c) => Res.ok c.d S.env S.st | _ => .bad) = _
          rw [hi]
        rw [z] at h; exact h.elim
theorem rB_tr {S1 : S8} (T : Tr S S1) {b : Bv} {v : V} (r : rB K Z σ S0 S b v) : rB K Z σ S0 S1 b v := by
  cases b with
  | v d => exact T.rp (K := K) (Z := Z) r
  | s i => exact r
end
/-- a value that is to come, over any further heap -/
def Fin (K : PySem.W.Frag) (Z : Addr → Prop) (S : S8) (d : D) (Q : VK) : Prop := ∀ H', (∀ a o, S.H a = some o → H' a = some o) → ∀ w, Rp ((S.up H').wd K Z) d w → Q w H'
section
variable {K : PySem.W.Frag} {mg : Str → Option Value} {Z : Addr → Prop} {σ : L2.St} {S S0 : S8} {Q : VK}
theorem Wp.fin {W : WX} {d : D} (R : Rel K Z σ S) (h : Wp K Z σ S (rt d S.env S.st) (fun a S' => ∀ v, rE K Z σ S0 S' a v → Q v S'.H) (Qx K mg W Z σ)) : Fin K Z S d Q :=
  fun H' x w r => h (S.up H') rfl rfl (R.up x) (Tr.up x) w r
theorem Fin.now {d : D} {v : V} (h : Fin K Z S d Q) (r : Rp (S.wd K Z) d v) : Q v S.H := h S.H (fun _ _ e => e) v r
theorem Fin.tup {ds : List D} (h : Fin K Z S (.tup ds) Q) (R : Rel K Z σ S) {xs : List V} (r : RpL (S.wd K Z) ds xs) : ∀ p, S.H p = none → Q (.ref p) (upd S.H p (.tup xs)) := fun p hp =>
  h _ (ext_new hp) _ (R.newTup hp r)
theorem Fin.lst {ds : List D} (h : Fin K Z S (.lst ds) Q) (R : Rel K Z σ S) {xs : List V} (r : RpL (S.wd K Z) ds xs) : ∀ p, S.H p = none → Q (.ref p) (upd S.H p (.lst xs)) := fun p hp => by
  refine h _ (ext_new hp) _ ?_
  unfold Rp
  exact ⟨p, xs, rfl, ⟨R.notMu hp, upd_same⟩, (Tr.up (ext_new hp)).rpL r⟩
end
theorem Wp.opt {K : PySem.W.Frag} {Z : Addr → Prop} {σ : L2.St} {S : S8} {α : Type} {o : Option α} {Q : α → S8 → Prop} {Qx : Exn → S8 → Prop} (h : Wp K Z σ S (QB.opt o S.env S.st) Q Qx) : ∃ a, o = some a ∧ Wp K Z σ S (rt a S.env S.st) Q Qx := by
  cases o with
  | none => exact h.elim
  | some a => exact ⟨a, rfl, h⟩
/-! ### operators -/
abbrev Op2 := D → D → Option D
def OpS (X : Cx) (f : Op2) (r : R2) : Prop := ∀ (Z : Addr → Prop) (σ : L2.St) (S : S8) (x y : D) (u v : V) (d : D) (Q : VK), Rel X.K Z σ S → Rt (S.wd X.K Z) x u → Rt (S.wd X.K Z) y v → f x y = some d → Fin X.K Z S d Q → r u v S.H Q
def op2M (f : Op2) (ma mb : M Bv) : M D := bnd ma fun x => bnd mb fun y => bnd (rd x) fun dx => bnd (rd y) fun dy => opt (f dx dy)
def op1M (f : D → Option D) (ma : M Bv) : M D := bnd ma fun x => bnd (rd x) fun dx => opt (f dx)
section
variable {X : Cx} {W : WX} {a b c : Expr} {ma mb mc : M Bv} {f f' : Op2} {r r' : R2} {pos : Pos}
theorem bin_go (hf : OpS X f r) {σ : L2.St} {H : Hp} {Q : VK} (q : tG X.K X.mg W (rE X.K) (op2M f ma mb) σ H Q) : tOp r (tG X.K X.mg W (rB X.K) ma) (tG X.K X.mg W (rB X.K) mb) σ H Q := by
  obtain ⟨Z, S, rfl, R, hw⟩ := q
  refine ⟨Z, S, rfl, R, Wp.bnd hw fun x S1 R1 T1 h1 u r1 => ?_⟩
  refine ⟨Z, S1, rfl, R1, Wp.bnd h1 fun y S2 R2 T2 h2 v r2 => ?_⟩
  obtain ⟨dx, t1, h3⟩ := R2.rd_ok (S0 := S) (rB_tr T2 r1) h2
  obtain ⟨dy, t2, h4⟩ := R2.rd_ok (S0 := S1) r2 h3
  obtain ⟨d, e, h5⟩ := Wp.opt h4
  exact hf Z σ S2 dx dy u v d Q R2 t1 t2 e (Wp.fin R2 h5)
theorem ev_bin {op : Operator} (ho : OpR X (binaryOp op) r) (hf : OpS X f r) (ha : PBv X W a ma) (hb : PBv X W b mb) : PEv X W (.BinOp a op b pos) (op2M f ma mb) :=
  PE.weak (pe_op ho ha hb) fun _ _ _ q => bin_go hf q
theorem ev_cmp {op : CmpOp} (ho : OpR X (compareOp op) r) (hf : OpS X f r) (ha : PBv X W a ma) (hb : PBv X W b mb) (hm : behindInMarks op b = false) : PEv X W (.Compare a [op] [b] pos) (op2M f ma mb) :=
  PE.weak (pe_cmpR ho ha hb hm) fun _ _ _ q => bin_go hf q
/-- a < b < c -/
def chainM (f f' : Op2) (ma mb mc : M Bv) : M D := bnd ma fun x => bnd mb fun y => bnd (rd x) fun dx => bnd (rd y) fun dy => bnd (opt (f dx dy)) fun z => match z with
  | .bl true => bnd mc fun w => bnd (rd y) fun dy => bnd (rd w) fun dw => opt (f' dy dw)
  | .bl false => rt (.bl false)
  | _ => fail
/-- an operator whose answer is a truth value -/
def OpB (X : Cx) (f : Op2) (r : R2) : Prop := ∀ (Z : Addr → Prop) (σ : L2.St) (S : S8) (x y : D) (u v : V) (d : D) (Q : VK), Rel X.K Z σ S → Rt (S.wd X.K Z) x u → Rt (S.wd X.K Z) y v → f x y = some d → ∃ k, d = .bl k ∧ (Q (.bl k) S.H → r u v S.H Q)
theorem OpB.s (h : OpB X f r) : OpS X f r := fun Z σ S x y u v d Q R t1 t2 e k => by
  obtain ⟨b, e1, h1⟩ := h Z σ S x y u v d Q R t1 t2 e
  subst e1
  exact h1 (k.now (by unfold Rp; rfl))
theorem chain_go (hf : OpB X f r) (hf' : OpS X f' r') {σ : L2.St} {H : Hp} {Q : VK} (q : tG X.K X.mg W (rE X.K) (chainM f f' ma mb mc) σ H Q) :
    tChain r r' (tG X.K X.mg W (rB X.K) ma) (tG X.K X.mg W (rB X.K) mb) (tG X.K X.mg W (rB X.K) mc) σ H Q := by
  obtain ⟨Z, S, rfl, R, hw⟩ := q
  refine ⟨Z, S, rfl, R, Wp.bnd hw fun x S1 R1 T1 h1 u r1 => ?_⟩
  refine ⟨Z, S1, rfl, R1, Wp.bnd h1 fun y S2 R2 T2 h2 v r2 => ?_⟩
  obtain ⟨dx, t1, h3⟩ := R2.rd_ok (S0 := S) (rB_tr T2 r1) h2
  obtain ⟨dy, t2, h4⟩ := R2.rd_ok (S0 := S1) r2 h3
  rw [bnd_app] at h4
  cases e : f dx dy with
  | none => rw [e] at h4; exact h4.elim
  | some d =>
    rw [e, opt_some, rt_app, andThen_ok] at h4
    obtain ⟨k, e1, hk⟩ := hf Z σ S2 dx dy u v d (fun z H3 => ∃ k, z = .bl k ∧ (if k = true then tG X.K X.mg W (rB X.K) mc σ H3 fun w' H4 => r' v w' H4 Q else Q (.bl false) H3)) R2 t1 t2 e
    subst e1
    refine hk ⟨k, rfl, ?_⟩
    cases k with
    | false => exact iteF ((Wp.fin R2 h4).now (by unfold Rp; rfl))
    | true =>
      refine iteT ⟨Z, S2, rfl, R2, Wp.bnd h4 fun w S3 R3 T3 h5 z r3 => ?_⟩
      obtain ⟨dy', t3, h6⟩ := R3.rd_ok (S0 := S1) (rB_tr T3 r2) h5
      obtain ⟨dw, t4, h7⟩ := R3.rd_ok (S0 := S2) r3 h6
      obtain ⟨d, e, h8⟩ := Wp.opt h7
      exact hf' Z σ S3 dy' dw v z d Q R3 t3 t4 e (Wp.fin R3 h8)
theorem ev_chain {op op' : CmpOp} (ho : OpR X (compareOp op) r) (ho' : OpR X (compareOp op') r') (hf : OpB X f r) (hf' : OpB X f' r') (ha : PBv X W a ma) (hb : PBv X W b mb) (hc : PBv X W c mc)
    (hm : lastMarks [op, op'] [b, c] = false := by with_unfolding_all rfl) :
    PEv X W (.Compare a [op, op'] [b, c] pos) (chainM f f' ma mb mc) := PE.weak (pe_chain ho ho' ha hb hc hm) fun _ _ _ q => chain_go hf hf'.s q
end
end QB

/-! The pure layer, part 5: the operators one by one. -/
namespace QB
open PySem PySem.Spec PyProof.Rows L2
section
variable {X : Cx}
theorem rp_int {w : Wd} {i : Int} : Rp w (.int i) (.int i) := by unfold Rp; rfl
theorem rp_bl {w : Wd} {i : Bool} : Rp w (.bl i) (.bl i) := by unfold Rp; rfl
theorem rp_str {w : Wd} {i : Str} : Rp w (.str i) (.str i) := by unfold Rp; rfl
theorem rp_non {w : Wd} : Rp w .non .non := by unfold Rp; rfl
theorem szOk_add {w : Wd} {xs ys : List D} {us vs : List V} (r1 : RpL w xs us) (r2 : RpL w ys vs) (h : szOk (xs.length + ys.length) = true) : us.length + vs.length ≤ sizeLine := by
  rw [r1.length, r2.length]; exact szOk_le h
/-! ### sums, products -/
def intD (C : Int → Int → Bool) (g : Int → Int → Int) : Op2
  | .int i, .int j => if C i j = true then some (.int (g i j)) else none
  | _, _ => none
theorem opS_int {C : Int → Int → Bool} {P : Int → Int → Prop} {g : Int → Int → Int} (hc : ∀ i j, C i j = true → P i j) : OpS X (intD C g) (rI P fun i j => .int (g i j)) := by
  intro Z σ S x y u v d Q R t1 t2 e k
  unfold intD at e
  split at e
  · rename_i i j
    split at e
    · rename_i hh
      cases e
      exact ⟨i, j, t1, t2, hc i j hh, k.now rp_int⟩
    · cases e
  · cases e
def addD : Op2
  | .int i, .int j => some (.int (i + j))
  | .tup xs, .tup ys => if szOk (xs.length + ys.length) = true then some (.tup (xs ++ ys)) else none
  | .lst xs, .lst ys => if szOk (xs.length + ys.length) = true then some (.lst (xs ++ ys)) else none
  | _, _ => none
def rAddA (K : PySem.W.Frag) : R2 := fun x y H Q => (rI0 (fun i j => .int (i + j)) x y H Q ∨ rCatA K x y H Q) ∨ rCat x y H Q
theorem op_addA : OpR X (binaryOp .Add) (rAddA X.K) := (op_add.or op_catA).or op_cat
theorem opS_add : OpS X addD (rAddA X.K) := by
  intro Z σ S x y u v d Q R t1 t2 e k
  unfold addD at e
  split at e
  · rename_i i j
    cases e
    exact .inl (.inl ⟨i, j, t1, t2, k.now rp_int⟩)
  · rename_i xs ys
    split at e
    · rename_i hs
      cases e
      obtain ⟨a, us, rfl, h1, r1⟩ := t1
      obtain ⟨b, vs, rfl, h2, r2⟩ := t2
      refine .inl (.inr ⟨a, b, us, vs, rfl, rfl, h1.sq, h2.sq, szOk_add r1 r2 hs, ?_, ?_, ?_⟩)
      · intro e
        subst e
        cases xs with
        | nil => exact k.now (by unfold Rp; exact ⟨b, vs, rfl, h2, r2⟩)
        | cons x xs => obtain ⟨_, _, z, _⟩ := r1.of_cons; cases z
      · intro _ e
        subst e
        cases ys with
        | nil => exact k.now (by rw [List.append_nil]; unfold Rp; exact ⟨a, us, rfl, h1, r1⟩)
        | cons x xs => obtain ⟨_, _, z, _⟩ := r2.of_cons; cases z
      · intro _ _ p hp
        exact k.tup R (r1.append r2) p hp
    · cases e
  · rename_i xs ys
    split at e
    · rename_i hs
      cases e
      obtain ⟨a, us, rfl, h1, r1⟩ := t1
      obtain ⟨b, vs, rfl, h2, r2⟩ := t2
      exact .inr ⟨a, b, us, vs, rfl, rfl, h1, h2, szOk_add r1 r2 hs, k.lst R (r1.append r2)⟩
    · cases e
  · cases e
def subD : Op2 := intD (fun _ _ => true) fun i j => i - j
theorem op_subA : OpR X (binaryOp .Sub) (rI (fun _ _ => True) fun i j => .int (i - j)) := opI fun _ _ _ _ _ _ _ _ q => sub_int q
theorem opS_sub : OpS X subD (rI (fun _ _ => True) fun i j => .int (i - j)) := opS_int fun _ _ _ => trivial
def small64 (i : Int) : Bool := decide (-(2 ^ 64) < i) && decide (i < 2 ^ 64)
theorem small64_ok {i : Int} (h : small64 i = true) : -(2 ^ 64) < i ∧ i < 2 ^ 64 := by
  unfold small64 at h
  simp only [Bool.and_eq_true, decide_eq_true_eq] at h
  exact h
/-- [x, ..] * k -/
def repD (xs : List D) (k : Nat) : List D := (List.replicate k xs).flatten
theorem RpL.rep {w : Wd} {ds : List D} {vs : List V} (r : RpL w ds vs) : ∀ k, RpL w (repD ds k) (List.replicate k vs).flatten
  | 0 => .nil
  | k + 1 => by
    unfold repD
    rw [List.replicate_succ, List.replicate_succ, List.flatten_cons, List.flatten_cons]
    exact r.append (RpL.rep r k)
def mulD : Op2
  | .int i, .int j => if (small64 i || small64 j) = true then some (.int (i * j)) else none
  | .lst xs, .int k => if (decide (-(2 ^ 20) < k) && decide (k < 2 ^ 20) && szOk (xs.length * k.toNat)) = true then some (.lst (repD xs k.toNat)) else none
  | .tup xs, .int k => if (decide (2 ≤ k) && decide (k ≤ 1000) && decide (xs.length ≤ 1000) && !xs.isEmpty) = true then some (.tup (repD xs k.toNat)) else none
  | _, _ => none
def rMulA (K : PySem.W.Frag) : R2 := fun x y H Q => (rI CMul (fun i j => .int (i * j)) x y H Q ∨ rRep x y H Q) ∨ rRepT K x y H Q
theorem op_mulA : OpR X (binaryOp .Mult) (rMulA X.K) := (op_mul.or op_rep).or op_repT
theorem opS_mul : OpS X mulD (rMulA X.K) := by
  intro Z σ S x y u v d Q R t1 t2 e k
  unfold mulD at e
  split at e
  · rename_i i j
    split at e
    · rename_i hh
      cases e
      refine .inl (.inl ⟨i, j, t1, t2, ?_, k.now rp_int⟩)
      rcases Bool.or_eq_true _ _ ▸ hh with h | h
      · exact .inl (small64_ok h)
      · exact .inr (small64_ok h)
    · cases e
  · rename_i xs j
    split at e
    · rename_i hh
      cases e
      simp only [Bool.and_eq_true, decide_eq_true_eq] at hh
      obtain ⟨a, us, rfl, h1, r1⟩ := t1
      refine .inl (.inr ⟨a, j, us, rfl, t2, h1, by omega, by omega, by rw [r1.length]; exact szOk_le hh.2, k.lst R (r1.rep _)⟩)
    · cases e
  · rename_i xs j
    split at e
    · rename_i hh
      cases e
      simp only [Bool.and_eq_true, decide_eq_true_eq, Bool.not_eq_true'] at hh
      obtain ⟨a, us, rfl, h1, r1⟩ := t1
      refine .inr ⟨a, j, us, rfl, t2, h1.sq, ?_, hh.1.1.1, hh.1.1.2, by rw [r1.length]; exact hh.1.2, k.tup R (r1.rep _)⟩
      intro z
      subst z
      cases xs with
      | nil => simp at hh
      | cons x xs => obtain ⟨_, _, z, _⟩ := r1.of_cons; cases z
    · cases e
  · cases e
/-! ### division and the rest -/
def pos64 (j : Int) : Bool := decide (0 < j) && decide (j < 2 ^ 64)
theorem log2_le {n k : Nat} (h : n < 2 ^ k) (hk : 0 < k) : n.log2 < k := PySem.Flt.log2_lt_of hk h
theorem pos64_ok {j : Int} (h : pos64 j = true) : CDivW 0 j := by
  unfold pos64 at h
  simp only [Bool.and_eq_true, decide_eq_true_eq] at h
  refine ⟨h.1, Nat.lt_trans (log2_le (k := 64) ?_ (by decide)) (by decide)⟩
  have : (j.natAbs : Int) = j := by omega
  omega
def fdivD : Op2 := intD (fun _ j => pos64 j) fun i j => i / j
theorem opS_fdiv : OpS X fdivD (rI CDivW fun i j => .int (i / j)) := opS_int fun i j h => pos64_ok h
def modD : Op2 := intD (fun _ j => decide (0 < j)) fun i j => i % j
theorem opS_mod : OpS X modD (rI (fun _ j => 0 < j) fun i j => .int (i % j)) := opS_int fun i j h => of_decide_eq_true h
def powD : Op2 := intD (fun i j => decide (0 ≤ j) && decide (j ≤ 1000) && small64 i) fun i j => i ^ j.toNat
theorem powOk {i j : Int} (h : (decide (0 ≤ j) && decide (j ≤ 1000) && small64 i) = true) : CPow i j := by
  simp only [Bool.and_eq_true, decide_eq_true_eq] at h
  have := small64_ok h.2
  exact ⟨h.1.1, by omega, by omega⟩
theorem opS_pow : OpS X powD (rI CPow fun i j => .int (i ^ j.toNat)) := opS_int fun i j h => powOk h
def shlD : Op2 := intD (fun i j => decide (0 ≤ j) && decide (j ≤ 1000) && small64 i) fun i j => i * 2 ^ j.toNat
theorem opS_shl : OpS X shlD (rI CPow fun i j => .int (i * 2 ^ j.toNat)) := opS_int fun i j h => powOk h
def shrD : Op2 := intD (fun i j => decide (0 ≤ j)) fun i j => i / 2 ^ j.toNat
theorem opS_shr : OpS X shrD (rI (fun _ j => 0 ≤ j) fun i j => .int (i / 2 ^ j.toNat)) := opS_int fun i j h => of_decide_eq_true h
theorem opS_int0 {g : Int → Int → Int} : OpS X (intD (fun _ _ => true) g) (rI0 fun i j => .int (g i j)) := by
  intro Z σ S x y u v d Q R t1 t2 e k
  unfold intD at e
  split at e
  · rename_i i j
    rw [if_pos rfl] at e
    cases e
    exact ⟨i, j, t1, t2, k.now rp_int⟩
  · cases e
def andD : Op2 := intD (fun _ _ => true) Builtin.bitAnd
def orD : Op2 := intD (fun _ _ => true) Builtin.bitOr
def xorD : Op2 := intD (fun _ _ => true) Builtin.bitXor
theorem opS_and : OpS X andD (rI0 fun i j => .int (Builtin.bitAnd i j)) := opS_int0
theorem opS_or : OpS X orD (rI0 fun i j => .int (Builtin.bitOr i j)) := opS_int0
theorem opS_xor : OpS X xorD (rI0 fun i j => .int (Builtin.bitXor i j)) := opS_int0
/-! ### comparisons of ints, of tuples of ints -/
def intsOf : List D → Option (List Int)
  | [] => some []
  | .int i :: r => (intsOf r).map (i :: ·)
  | _ => none
theorem intsOf_map : ∀ {ds : List D} {ns : List Int}, intsOf ds = some ns → ds = ns.map D.int
  | [], ns, h => by cases h; rfl
  | d :: ds, ns, h => by
    cases d with
    | int i =>
      unfold intsOf at h
      cases e : intsOf ds with
      | none => rw [e] at h; cases h
      | some l => rw [e] at h; cases h; rw [intsOf_map e]; rfl
    | _ => cases h
theorem intsOf_ints : ∀ ns : List Int, intsOf (ns.map D.int) = some ns
  | [] => rfl
  | n :: ns => by
    show (intsOf (ns.map D.int)).map (n :: ·) = _
    rw [intsOf_ints ns]; rfl
def cmpD (g : Int → Int → Bool) : Op2
  | .int i, .int j => some (.bl (g i j))
  | _, _ => none
theorem opB_cmp {g : Int → Int → Bool} : OpB X (cmpD g) (rI0 fun i j => .bl (g i j)) := by
  intro Z σ S x y u v d Q R t1 t2 e
  unfold cmpD at e
  split at e
  · rename_i i j
    cases e
    exact ⟨_, rfl, fun q => ⟨i, j, t1, t2, q⟩⟩
  · cases e
def ltD : Op2
  | .int i, .int j => some (.bl (decide (i < j)))
  | .tup xs, .tup ys => match intsOf xs, intsOf ys with
    | some ns, some ms => some (.bl (HT.lexLt ns ms))
    | _, _ => none
  | _, _ => none
def rLtA (K : PySem.W.Frag) : R2 := fun x y H Q => rI0 (fun i j => .bl (decide (i < j))) x y H Q ∨ rLtT K x y H Q
theorem op_ltA (hu : X.A.units < cLine) : OpR X (compareOp .Lt) (rLtA X.K) := op_lt.or (op_ltT hu)
theorem opB_lt : OpB X ltD (rLtA X.K) := by
  intro Z σ S x y u v d Q R t1 t2 e
  unfold ltD at e
  split at e
  · rename_i i j
    cases e
    exact ⟨_, rfl, fun q => .inl ⟨i, j, t1, t2, q⟩⟩
  · rename_i xs ys
    split at e
    · rename_i ns ms e1 e2
      cases e
      obtain ⟨a, us, rfl, h1, r1⟩ := t1
      obtain ⟨b, vs, rfl, h2, r2⟩ := t2
      refine ⟨_, rfl, fun q => .inr ⟨a, b, ns, ms, rfl, rfl, ?_, ?_, q⟩⟩
      · rw [intsOf_map e1] at r1; rw [← r1.of_ints]; exact h1.sq
      · rw [intsOf_map e2] at r2; rw [← r2.of_ints]; exact h2.sq
    · cases e
  · cases e
def leD : Op2 := cmpD fun i j => decide (i ≤ j)
def gtD : Op2 := cmpD fun i j => decide (j < i)
def geD : Op2 := cmpD fun i j => decide (j ≤ i)
theorem opB_le : OpB X leD (rI0 fun i j => .bl (decide (i ≤ j))) := opB_cmp
theorem opB_gt : OpB X gtD (rI0 fun i j => .bl (decide (j < i))) := opB_cmp
theorem opB_ge : OpB X geD (rI0 fun i j => .bl (decide (j ≤ i))) := opB_cmp
/-! ### equality of data -/
mutual
def toP : D → PyData
  | .non => .none
  | .bl b => .bool b
  | .int i => .int i
  | .str x => .str x
  | .tup ds => .tuple (toPs ds)
  | .lst ds => .list (toPs ds)
  | .wls ds => .list (toPs ds)
  | .dct _ => .none
  | .ref _ => .none
  | .obj _ _ => .none
def toPs : List D → List PyData
  | [] => []
  | d :: ds => toP d :: toPs ds
end
mutual
def okN : Nat → D → Bool
  | _, .non => true
  | _, .bl _ => true
  | _, .int _ => true
  | _, .str x => PyData.strOk x
  | n + 1, .tup ds => okNs n ds
  | n + 1, .lst ds => okNs n ds
  | 0, .tup _ => false
  | 0, .lst _ => false
  | _, .wls _ => false
  | _, .dct _ => false
  | _, .ref _ => false
  | _, .obj _ _ => false
def okNs : Nat → List D → Bool
  | _, [] => true
  | n, d :: ds => okN n d && okNs n ds
end
mutual
theorem okN_lay : ∀ (n : Nat) (d : D), okN n d = true → (toP d).canLay0 = true ∧ (toP d).depth ≤ n
  | _, .non, _ => by simp [toP, PyData.canLay0, PyData.depth]
  | _, .bl _, _ => by simp [toP, PyData.canLay0, PyData.depth]
  | _, .int _, _ => by simp [toP, PyData.canLay0, PyData.depth]
  | n, .str x, h => by cases n <;> simp [okN] at h <;> simp [toP, PyData.canLay0, PyData.depth, h]
  | n + 1, .tup ds, h => by
    have q := okNs_lay n ds (by simpa [okN] using h)
    simp only [toP, PyData.canLay0, PyData.depth]
    exact ⟨q.1, by omega⟩
  | n + 1, .lst ds, h => by
    have q := okNs_lay n ds (by simpa [okN] using h)
    simp only [toP, PyData.canLay0, PyData.depth]
    exact ⟨q.1, by omega⟩
  | 0, .tup _, h => by simp [okN] at h
  | 0, .lst _, h => by simp [okN] at h
  | n, .wls _, h => by cases n <;> simp [okN] at h
  | n, .dct _, h => by cases n <;> simp [okN] at h
  | n, .ref _, h => by cases n <;> simp [okN] at h
  | n, .obj _ _, h => by cases n <;> simp [okN] at h
theorem okNs_lay : ∀ (n : Nat) (ds : List D), okNs n ds = true → PyData.canLayAll0 (toPs ds) = true ∧ PyData.depthAll (toPs ds) ≤ n
  | _, [], _ => by simp [toPs, PyData.canLayAll0, PyData.depthAll]
  | n, d :: ds, h => by
    simp only [okNs, Bool.and_eq_true] at h
    have a := okN_lay n d h.1
    have b := okNs_lay n ds h.2
    simp only [toPs, PyData.canLayAll0, PyData.depthAll, Bool.and_eq_true]
    exact ⟨⟨a.1, b.1⟩, by omega⟩
end
def okD (d : D) : Bool := okN 60 d
theorem okD_shaped {d : D} (h : okD d = true) : SeqAt.shaped (toP d) = true := by
  have q := okN_lay 60 d h
  show ((toP d).canLay0 && decide ((toP d).depth ≤ 64)) = true
  rw [q.1, Bool.true_and]
  exact decide_eq_true (by omega)
mutual
theorem dp_of {w : Wd} : ∀ (n : Nat) (d : D) (v : V), okN n d = true → Rp w d v → Dp w.K w.H v (toP d)
  | _, .non, v, _, h => by unfold Rp at h; subst h; unfold toP; exact .non
  | _, .bl b, v, _, h => by unfold Rp at h; subst h; unfold toP; exact .bl b
  | _, .int b, v, _, h => by unfold Rp at h; subst h; unfold toP; exact .int b
  | _, .str b, v, _, h => by unfold Rp at h; subst h; unfold toP; exact .str b
  | n + 1, .tup ds, v, o, h => by
    unfold Rp at h
    obtain ⟨a, xs, rfl, h1, h2⟩ := h
    unfold toP
    exact .tup h1.sq (dps_of n ds xs (by simpa [okN] using o) h2)
  | n + 1, .lst ds, v, o, h => by
    unfold Rp at h
    obtain ⟨a, xs, rfl, h1, h2⟩ := h
    unfold toP
    exact .lst h1.sq (dps_of n ds xs (by simpa [okN] using o) h2)
  | 0, .tup _, _, h, _ => by simp [okN] at h
  | 0, .lst _, _, h, _ => by simp [okN] at h
  | n, .wls _, _, h, _ => by cases n <;> simp [okN] at h
  | n, .dct _, _, h, _ => by cases n <;> simp [okN] at h
  | n, .ref _, _, h, _ => by cases n <;> simp [okN] at h
  | n, .obj _ _, _, h, _ => by cases n <;> simp [okN] at h
theorem dps_of {w : Wd} : ∀ (n : Nat) (ds : List D) (vs : List V), okNs n ds = true → RpL w ds vs → DpAll w.K w.H vs (toPs ds)
  | _, [], vs, _, h => by rw [h.of_nil]; unfold toPs; exact .nil
  | n, d :: ds, vs, o, h => by
    simp only [okNs, Bool.and_eq_true] at o
    obtain ⟨x, xs, rfl, h1, h2⟩ := h.of_cons
    unfold toPs
    exact .cons (dp_of n d x o.1 h1) (dps_of n ds xs o.2 h2)
end
theorem dpt_of {w : Wd} {d : D} {v : V} (o : okD d = true) (h : Rt w d v) : Dp w.K w.H v (toP d) := by
  cases d with
  | lst ds =>
    obtain ⟨a, xs, rfl, h1, h2⟩ := h
    unfold toP
    exact .lst (.inl (.inl h1)) (dps_of 59 ds xs (by simpa [okD, okN] using o) h2)
  | dct ds => simp [okD, okN] at o
  | ref k => exact h.elim
  | obj _ _ => simp [okD, okN] at o
  | tup ds => exact dp_of 60 _ _ o (by unfold Rp; exact h)
  | wls ds => simp [okD, okN] at o
  | non => exact dp_of 60 _ _ o (by unfold Rp; exact h)
  | bl b => exact dp_of 60 _ _ o (by unfold Rp; exact h)
  | int b => exact dp_of 60 _ _ o (by unfold Rp; exact h)
  | str b => exact dp_of 60 _ _ o (by unfold Rp; exact h)
mutual
theorem toP_inj : ∀ (n m : Nat) (d e : D), okN n d = true → okN m e = true → toP d = toP e → d = e
  | n, m, d, e, h1, h2, q => by
    cases d with
    | wls _ => cases n <;> simp [okN] at h1
    | dct _ => cases n <;> simp [okN] at h1
    | ref _ => cases n <;> simp [okN] at h1
    | obj _ _ => cases n <;> simp [okN] at h1
    | tup ds =>
      cases e with
      | tup es =>
        cases n with
        | zero => simp [okN] at h1
        | succ n => cases m with
          | zero => simp [okN] at h2
          | succ m =>
            unfold toP at q
            rw [toPs_inj n m ds es (by simpa [okN] using h1) (by simpa [okN] using h2) (PyData.tuple.inj q)]
      | wls _ => cases m <;> simp [okN] at h2
      | dct _ => cases m <;> simp [okN] at h2
      | ref _ => cases m <;> simp [okN] at h2
      | obj _ _ => cases m <;> simp [okN] at h2
      | _ => simp [toP] at q
    | lst ds =>
      cases e with
      | lst es =>
        cases n with
        | zero => simp [okN] at h1
        | succ n => cases m with
          | zero => simp [okN] at h2
          | succ m =>
            unfold toP at q
            rw [toPs_inj n m ds es (by simpa [okN] using h1) (by simpa [okN] using h2) (PyData.list.inj q)]
      | wls _ => cases m <;> simp [okN] at h2
      | dct _ => cases m <;> simp [okN] at h2
      | ref _ => cases m <;> simp [okN] at h2
      | obj _ _ => cases m <;> simp [okN] at h2
      | _ => simp [toP] at q
    | _ =>
      cases e with
      | wls _ => cases m <;> simp [okN] at h2
      | dct _ => cases m <;> simp [okN] at h2
      | ref _ => cases m <;> simp [okN] at h2
      | obj _ _ => cases m <;> simp [okN] at h2
      | _ => simp [toP] at q <;> simp [q]
theorem toPs_inj : ∀ (n m : Nat) (d e : List D), okNs n d = true → okNs m e = true → toPs d = toPs e → d = e
  | _, _, [], [], _, _, _ => rfl
  | _, _, [], _ :: _, _, _, q => by simp [toPs] at q
  | _, _, _ :: _, [], _, _, q => by simp [toPs] at q
  | n, m, d :: ds, e :: es, h1, h2, q => by
    simp only [okNs, Bool.and_eq_true] at h1 h2
    simp only [toPs, List.cons.injEq] at q
    rw [toP_inj n m d e h1.1 h2.1 q.1, toPs_inj n m ds es h1.2 h2.2 q.2]
end
/-- Python's == -/
def eqd (x y : D) : Bool := PyData.eqv (toP x) (toP y)
def eqD : Op2 := fun x y => if (okD x && okD y) = true then some (.bl (eqd x y)) else none
def neD : Op2 := fun x y => if (okD x && okD y) = true then some (.bl (!eqd x y)) else none
theorem opB_eq : OpB X eqD (rEqD X.K) := by
  intro Z σ S x y u v d Q R t1 t2 e
  unfold eqD at e
  split at e
  · rename_i hh
    cases e
    simp only [Bool.and_eq_true] at hh
    exact ⟨_, rfl, fun q => ⟨_, _, dpt_of hh.1 t1, dpt_of hh.2 t2, okD_shaped hh.1, okD_shaped hh.2, q⟩⟩
  · cases e
theorem opB_ne : OpB X neD (rNeD X.K) := by
  intro Z σ S x y u v d Q R t1 t2 e
  unfold neD at e
  split at e
  · rename_i hh
    cases e
    simp only [Bool.and_eq_true] at hh
    exact ⟨_, rfl, fun q => ⟨_, _, dpt_of hh.1 t1, dpt_of hh.2 t2, okD_shaped hh.1, okD_shaped hh.2, q⟩⟩
  · cases e
end
end QB

/-! The pure layer, part 6: tests, truth values, membership, subscripts, slices. -/
namespace QB
open PySem PySem.Spec PyProof.Rows L2

def tT (K : PySem.W.Frag) (mg : Str → Option Value) (W : WX) (m : M Bool) : TT := fun σ H Q =>
  ∃ Z S, S.H = H ∧ Rel K Z σ S ∧ Wp K Z σ S (m S.env S.st) (fun b S' => Q b S'.H) (Qx K mg W Z σ)
def PTv (X : Cx) (W : WX) (e : Expr) (m : M Bool) : Prop := PT X e (tT X.K X.mg W m)
def PWv (X : Cx) (W : WX) (e : Expr) (m : M Bool) : Prop := PW X e (tT X.K X.mg W m)
theorem PW.weak {X : Cx} {e : Expr} {t t' : TT} (h : PW X e t) (k : ∀ σ H Q, t' σ H Q → t σ H Q) : PW X e t' := ⟨fun wh pins s σ H Q I q => h.run wh pins s σ H Q I (k σ H Q q)⟩
def boolD : D → M Bool
  | .bl b => rt b
  | _ => fail
@[simp] theorem boolD_bl {b : Bool} : boolD (.bl b) = rt b := rfl
def boolM (m : M D) : M Bool := bnd m boolD
def notM (m : M Bool) : M Bool := bnd m fun b => rt (!b)
def andT (a b : M Bool) : M Bool := bnd a fun x => match x with
  | true => b
  | false => rt false
def orT (a b : M Bool) : M Bool := bnd a fun x => match x with
  | true => rt true
  | false => b
def andV (a : M Bool) (b : M D) : M D := bnd a fun x => match x with
  | true => b
  | false => rt (.bl false)
def orV (a : M Bool) (b : M D) : M D := bnd a fun x => match x with
  | true => rt (.bl true)
  | false => b
def ifM {α : Type} (c : M Bool) (a b : M α) : M α := bnd c fun x => match x with
  | true => a
  | false => b
def notV (m : M Bool) : M D := bnd m fun b => rt (.bl (!b))
section
variable {X : Cx} {W : WX} {a b c e : Expr} {m ma mb : M D} {mt mu : M Bool} {pos : Pos}
theorem bool_go {K : PySem.W.Frag} {mg : Str → Option Value} {σ : L2.St} {H : Hp} {Q : Bool → Hp → Prop} (q : tT K mg W (boolM m) σ H Q) : tB (tG K mg W (rE K) m) σ H Q := by
  obtain ⟨Z, S, rfl, R, hw⟩ := q
  refine ⟨Z, S, rfl, R, Wp.bnd hw fun d S1 R1 T1 h1 v r1 => ?_⟩
  cases d with
  | bl b => unfold rE Rp at r1; exact ⟨b, r1, h1.here R1⟩
  | _ => exact h1.elim
theorem tv_val (h : PEv X W e m) (he : ∀ whole, isTrue e X.env whole = (do let v ← whole; standAt e.pos; holding [v] (truthy v)) := by intro _; rfl) : PTv X W e (boolM m) :=
  PT.weak (pt_val h he) fun _ _ _ q => bool_go q
theorem tv_cmp {op : CmpOp} {r : R2} {f : Op2} {ma mb : M Bv} (ho : OpR X (compareOp op) r) (hf : OpB X f r) (ha : PBv X W a ma) (hb : PBv X W b mb) (hm : behindInMarks op b = false) :
    PTv X W (.Compare a [op] [b] pos) (boolM (op2M f ma mb)) := by
  refine PT.weak (pt_cmpR ho ha hb hm) fun σ H Q q => ?_
  have q1 := bool_go q
  obtain ⟨Z, S, rfl, R, hw⟩ := q1
  exact bin_go hf.s ⟨Z, S, rfl, R, hw⟩
theorem tv_chain {op op' : CmpOp} {r r' : R2} {f f' : Op2} {ma mb mc : M Bv} (ho : OpR X (compareOp op) r) (ho' : OpR X (compareOp op') r') (hf : OpB X f r) (hf' : OpB X f' r') (ha : PBv X W a ma) (hb : PBv X W b mb) (hc : PBv X W c mc)
    (hm : lastMarks [op, op'] [b, c] = false := by with_unfolding_all rfl) : PTv X W (.Compare a [op, op'] [b, c] pos) (boolM (chainM f f' ma mb mc)) := by
  refine PT.weak (pt_chain ho ho' ha hb hc hm) fun σ H Q q => ?_
  obtain ⟨Z, S, rfl, R, hw⟩ := bool_go q
  exact chain_go hf hf'.s ⟨Z, S, rfl, R, hw⟩
theorem tv_not (h : PTv X W e mt) : PTv X W (.UnaryOp .Not e pos) (notM mt) := by
  refine PT.weak (pt_not h) fun σ H Q q => ?_
  obtain ⟨Z, S, rfl, R, hw⟩ := q
  exact ⟨Z, S, rfl, R, Wp.bnd hw fun b S1 R1 T1 h1 => h1.here R1⟩
theorem wv_and1 (h : PTv X W a mt) : PWv X W (.BoolOp .And [a] pos) mt := pw_and1 h
theorem wv_or1 (h : PTv X W a mt) : PWv X W (.BoolOp .Or [a] pos) mt := pw_or1 h
theorem wv_and {rest : List Expr} (h : PTv X W a mt) (h2 : PWv X W (.BoolOp .And (b :: rest) pos) mu) : PWv X W (.BoolOp .And (a :: b :: rest) pos) (andT mt mu) := by
  refine PW.weak (pw_and h h2) fun σ H Q q => ?_
  obtain ⟨Z, S, rfl, R, hw⟩ := q
  refine ⟨Z, S, rfl, R, Wp.bnd hw fun b S1 R1 T1 h1 => ?_⟩
  cases b with
  | true => exact iteT ⟨Z, S1, rfl, R1, h1⟩
  | false => exact iteF (h1.here R1)
theorem wv_or {rest : List Expr} (h : PTv X W a mt) (h2 : PWv X W (.BoolOp .Or (b :: rest) pos) mu) : PWv X W (.BoolOp .Or (a :: b :: rest) pos) (orT mt mu) := by
  refine PW.weak (pw_or h h2) fun σ H Q q => ?_
  obtain ⟨Z, S, rfl, R, hw⟩ := q
  refine ⟨Z, S, rfl, R, Wp.bnd hw fun b S1 R1 T1 h1 => ?_⟩
  cases b with
  | true => exact iteT (h1.here R1)
  | false => exact iteF ⟨Z, S1, rfl, R1, h1⟩
theorem PWv.t (h : PWv X W e mt) : PTv X W e mt := PW.pt h
/-! the same as values: the parts are told by values that are True or False -/
theorem ev_one {op} (h : PEv X W a m) : PEv X W (.BoolOp op [a] pos) m := pe_one h
theorem val_go {K : PySem.W.Frag} {β : Type} {f : Bool → M β} {Q0 : β → S8 → Prop} {Z : Addr → Prop} {σ : L2.St} {S : S8} {Qx : Exn → S8 → Prop} {P : V → Hp → Prop} (R : Rel K Z σ S) (hw : Wp K Z σ S (bnd (boolM m) f S.env S.st) Q0 Qx)
    (k : ∀ b S1, Rel K Z σ S1 → Tr S S1 → Wp K Z σ S1 (f b S1.env S1.st) Q0 Qx → P (.bl b) S1.H) : Wp K Z σ S (m S.env S.st) (fun d S' => ∀ v, rE K Z σ S S' d v → P v S'.H) Qx := by
  rw [bnd_app] at hw
  have e : boolM m S.env S.st = (m S.env S.st).andThen boolD := rfl
  rw [e] at hw
  cases q : m S.env S.st with
  | bad => rw [q] at hw; exact hw
  | exc x e' s' => rw [q] at hw; exact hw
  | ok d e' s' =>
    rw [q] at hw
    cases d with
    | bl b =>
      intro S1 h1 h2 R1 T1 v r1
      unfold rE Rp at r1
      subst r1
      refine k b S1 R1 T1 ?_
      have hw' : Wp K Z σ S (f b e' s') Q0 Qx := hw
      rw [h1, h2]
      exact hw'.from T1
    | _ => exact hw.elim
theorem ev_and {rest : List Expr} (ha : PEv X W a ma) (hb : PEv X W (.BoolOp .And (b :: rest) pos) mb) : PEv X W (.BoolOp .And (a :: b :: rest) pos) (andV (boolM ma) mb) := by
  refine PE.weak (pe_and ha hb) fun σ H Q q => ?_
  obtain ⟨Z, S, rfl, R, hw⟩ := q
  refine ⟨Z, S, rfl, R, val_go (P := fun x H1 => ∃ c, x = V.bl c ∧ if c = true then tG X.K X.mg W (rE X.K) mb σ H1 Q else Q (V.bl false) H1) R hw fun b S1 R1 T1 h1 => ⟨b, rfl, ?_⟩⟩
  cases b with
  | true => exact iteT ⟨Z, S1, rfl, R1, h1⟩
  | false => exact iteF (h1.here R1 _ rp_bl)
theorem ev_or {rest : List Expr} (ha : PEv X W a ma) (hb : PEv X W (.BoolOp .Or (b :: rest) pos) mb) : PEv X W (.BoolOp .Or (a :: b :: rest) pos) (orV (boolM ma) mb) := by
  refine PE.weak (pe_or ha hb) fun σ H Q q => ?_
  obtain ⟨Z, S, rfl, R, hw⟩ := q
  refine ⟨Z, S, rfl, R, val_go (P := fun x H1 => ∃ c, x = V.bl c ∧ if c = true then Q (V.bl true) H1 else tG X.K X.mg W (rE X.K) mb σ H1 Q) R hw fun b S1 R1 T1 h1 => ⟨b, rfl, ?_⟩⟩
  cases b with
  | true => exact iteT (h1.here R1 _ rp_bl)
  | false => exact iteF ⟨Z, S1, rfl, R1, h1⟩
theorem ev_not (ha : PEv X W a ma) : PEv X W (.UnaryOp .Not a pos) (notV (boolM ma)) := by
  refine PE.weak (pe_not ha) fun σ H Q q => ?_
  obtain ⟨Z, S, rfl, R, hw⟩ := q
  exact ⟨Z, S, rfl, R, val_go (P := fun x H1 => ∃ c, x = V.bl c ∧ Q (V.bl !c) H1) R hw fun b S1 R1 T1 h1 => ⟨b, rfl, h1.here R1 _ rp_bl⟩⟩
theorem gv_if {α : Type} {Rk : RK α} {c : Expr} {mc : M Bool} {ma mb : M α} (hr : ∀ {Z σ S S0 S1 a v}, Tr S S0 → Rk Z σ S0 S1 a v → Rk Z σ S S1 a v) (hc : PTv X W c mc) (ha : PE X a (tG X.K X.mg W Rk ma)) (hb : PE X b (tG X.K X.mg W Rk mb)) : PE X (.IfExp c a b pos) (tG X.K X.mg W Rk (ifM mc ma mb)) := by
  refine PE.weak (pe_ifExp hc ha hb) fun σ H Q q => ?_
  obtain ⟨Z, S, rfl, R, hw⟩ := q
  refine ⟨Z, S, rfl, R, Wp.bnd hw fun d S1 R1 T1 h1 => ?_⟩
  cases d with
  | true => exact iteT ⟨Z, S1, rfl, R1, h1.imp fun a S' _ _ k v r => k v (hr T1 r)⟩
  | false => exact iteF ⟨Z, S1, rfl, R1, h1.imp fun a S' _ _ k v r => k v (hr T1 r)⟩
theorem ev_if {c : Expr} {mc : M Bool} (hc : PTv X W c mc) (ha : PEv X W a ma) (hb : PEv X W b mb) : PEv X W (.IfExp c a b pos) (ifM mc ma mb) := gv_if (fun _ h => h) hc ha hb
theorem bv_if {c : Expr} {mc : M Bool} {ma mb : M Bv} (hc : PTv X W c mc) (ha : PBv X W a ma) (hb : PBv X W b mb) : PBv X W (.IfExp c a b pos) (ifM mc ma mb) := gv_if (fun {Z σ S S0 S1 a v} _ h => by cases a <;> exact h) hc ha hb
/-! ### one operand -/
def negD : D → Option D
  | .int i => some (.int (-i))
  | _ => none
def invD : D → Option D
  | .int i => some (.int (Builtin.bitNot i))
  | _ => none
theorem ev_un {op : UnaryOp} {g : Int → Int} {f : D → Option D} {ma : M Bv} (ho : UnR X (unaryOp op) (rU fun i => .int (g i))) (hf : ∀ d z, f d = some z → ∃ i, d = .int i ∧ z = .int (g i)) (ha : PBv X W a ma) : PEv X W (.UnaryOp op a pos) (op1M f ma) := by
  refine PE.weak (pe_un ho ha) fun σ H Q q => ?_
  obtain ⟨Z, S, rfl, R, hw⟩ := q
  refine ⟨Z, S, rfl, R, Wp.bnd hw fun x S1 R1 T1 h1 u r1 => ?_⟩
  obtain ⟨dx, t1, h3⟩ := R1.rd_ok (S0 := S) r1 h1
  obtain ⟨d, e, h5⟩ := Wp.opt h3
  obtain ⟨i, rfl, rfl⟩ := hf _ _ e
  exact ⟨i, t1, (Wp.fin R1 h5).now rp_int⟩
theorem ev_neg {ma : M Bv} (ha : PBv X W a ma) : PEv X W (.UnaryOp .USub a pos) (op1M negD ma) := ev_un un_neg (fun d z e => by cases d with
  | int i => cases e; exact ⟨i, rfl, rfl⟩
  | _ => cases e) ha
theorem ev_inv {ma : M Bv} (ha : PBv X W a ma) : PEv X W (.UnaryOp .Invert a pos) (op1M invD ma) := ev_un un_inv (fun d z e => by cases d with
  | int i => cases e; exact ⟨i, rfl, rfl⟩
  | _ => cases e) ha
end
end QB

/-! The pure layer, part 7: membership, identity, subscripts, slices, calls of built-ins. -/
namespace QB
open PySem PySem.Spec PyProof.Rows L2
section
variable {X : Cx}
/-! ### dicts -/
def keyOf : D → Option Key
  | .int i => some (.inl i)
  | .str s => some (.inr s)
  | _ => none
def dOf : Key → D
  | .inl i => .int i
  | .inr s => .str s
def valD (kvs : List (Key × D)) (k : Key) : Option D := (kvs.find? fun kv => decide (kv.1 = k)).map (·.2)
def putD (kvs : List (Key × D)) (k : Key) (v : D) : List (Key × D) :=
  if (kvs.any fun kv => decide (kv.1 = k)) = true then kvs.map (fun kv => if kv.1 = k then (kv.1, v) else kv) else kvs ++ [(k, v)]
section
variable {w : Wd}
theorem keyOf_v {d : D} {k : Key} {v : V} (e : keyOf d = some k) (r : Rt w d v) : v = kV k := by
  cases d with
  | int i => cases e; exact r
  | str s => cases e; exact r
  | _ => cases e
theorem RpK.of_cons {k : Key} {d : D} {ds : List (Key × D)} {vs : List (Key × V)} (h : RpK w ((k, d) :: ds) vs) : ∃ x xs, vs = (k, x) :: xs ∧ Rp w d x ∧ RpK w ds xs := by
  unfold RpK at h; exact h
theorem RpK.of_nil {vs : List (Key × V)} (h : RpK w [] vs) : vs = [] := by unfold RpK at h; exact h
theorem RpK.cons {k : Key} {d : D} {ds : List (Key × D)} {v : V} {vs : List (Key × V)} (h : Rp w d v) (h2 : RpK w ds vs) : RpK w ((k, d) :: ds) ((k, v) :: vs) := by
  unfold RpK; exact ⟨v, vs, rfl, h, h2⟩
theorem RpK.nil : RpK w [] [] := by unfold RpK; rfl
theorem RpK.length : ∀ {ds : List (Key × D)} {vs : List (Key × V)}, RpK w ds vs → vs.length = ds.length
  | [], _, h => by rw [h.of_nil]; rfl
  | (k, d) :: ds, _, h => by
    obtain ⟨x, xs, rfl, _, h2⟩ := h.of_cons
    simp [RpK.length h2]
theorem RpK.val : ∀ {ds : List (Key × D)} {vs : List (Key × V)} (k : Key), RpK w ds vs → (valD ds k = none ∧ valV vs k = none) ∨ ∃ d v, valD ds k = some d ∧ valV vs k = some v ∧ Rp w d v
  | [], _, k, h => by rw [h.of_nil]; exact .inl ⟨rfl, rfl⟩
  | (j, d) :: ds, _, k, h => by
    obtain ⟨x, xs, rfl, h1, h2⟩ := h.of_cons
    by_cases e : j = k
    · refine .inr ⟨d, x, ?_, valV_pos (p := (j, x)) e, h1⟩
      simp [valD, List.find?_cons, e]
    · have e1 : valD ((j, d) :: ds) k = valD ds k := by simp [valD, List.find?_cons, e]
      rw [e1, valV_neg (p := (j, x)) e]
      exact RpK.val k h2
theorem RpK.any : ∀ {ds : List (Key × D)} {vs : List (Key × V)} (k : Key), RpK w ds vs → (vs.any fun kv => decide (kv.1 = k)) = (ds.any fun kv => decide (kv.1 = k))
  | [], _, k, h => by rw [h.of_nil]; rfl
  | (j, d) :: ds, _, k, h => by
    obtain ⟨x, xs, rfl, h1, h2⟩ := h.of_cons
    rw [List.any_cons, List.any_cons, RpK.any k h2]
theorem RpK.append : ∀ {ds es : List (Key × D)} {vs ws : List (Key × V)}, RpK w ds vs → RpK w es ws → RpK w (ds ++ es) (vs ++ ws)
  | [], es, vs, ws, h, h2 => by rw [h.of_nil]; exact h2
  | (j, d) :: ds, es, vs, ws, h, h2 => by
    obtain ⟨x, xs, rfl, h3, h4⟩ := h.of_cons
    exact .cons h3 (RpK.append h4 h2)
theorem RpK.mapSet {k : Key} {d : D} {v : V} (r : Rp w d v) : ∀ {ds : List (Key × D)} {vs : List (Key × V)}, RpK w ds vs → RpK w (ds.map fun kv => if kv.1 = k then (kv.1, d) else kv) (vs.map fun kv => if kv.1 = k then (kv.1, v) else kv)
  | [], _, h => by rw [h.of_nil]; exact .nil
  | (j, d') :: ds, _, h => by
    obtain ⟨x, xs, rfl, h1, h2⟩ := h.of_cons
    rw [List.map_cons, List.map_cons]
    by_cases e : j = k
    · simp only [e, if_true]
      exact .cons r (RpK.mapSet r h2)
    · simp only [e, if_false]
      exact .cons h1 (RpK.mapSet r h2)
theorem RpK.put {ds : List (Key × D)} {vs : List (Key × V)} {k : Key} {d : D} {v : V} (h : RpK w ds vs) (r : Rp w d v) : RpK w (putD ds k d) (putK vs k v) := by
  unfold putD putK
  rw [h.any k]
  split
  · exact h.mapSet r
  · exact h.append (.cons r .nil)
end
/-! ### in -/
def inD (neg : Bool) : Op2 := fun x c => match c with
  | .lst ds => if (okD x && okD c) = true then some (.bl (neg != ds.any fun z => eqd z x)) else none
  | .wls ds => if (okD x && okD c) = true then some (.bl (neg != ds.any fun z => eqd z x)) else none
  | .tup ds => if (okD x && okD c) = true then some (.bl (neg != ds.any fun z => eqd z x)) else none
  | .dct kvs => match keyOf x with
    | some k => some (.bl (neg != (valD kvs k).isSome))
    | none => none
  | .str z => match x with
    | .str y => some (.bl (neg != !(Builtin.Str.occurrences z y 0 z.length 1).isEmpty))
    | _ => none
  | _ => none
def rInSeq (K : PySem.W.Frag) (neg : Bool) : R2 := fun x y H Q => ∃ d c ds, Dp K H x d ∧ Dp K H y c ∧ (c = .list ds ∨ c = .tuple ds) ∧ SeqAt.shaped d = true ∧ SeqAt.shaped c = true ∧ Q (.bl (neg != ds.any fun z => PyData.eqv z d)) H
def rInDct (neg : Bool) : R2 := fun x y H Q => ∃ a o, y = .ref a ∧ DGet H a x o ∧ Q (.bl (neg != o.isSome)) H
def rInStr (neg : Bool) : R2 := fun x y H Q => ∃ i j, x = .str i ∧ y = .str j ∧ Q (.bl (neg != !(Builtin.Str.occurrences j i 0 j.length 1).isEmpty)) H
def rInA (K : PySem.W.Frag) (neg : Bool) : R2 := fun x y H Q => (rInSeq K neg x y H Q ∨ rInDct neg x y H Q) ∨ rInStr neg x y H Q
theorem op_inSeq (hu : X.A.units + 65 < cLine) : OpR X (compareOp .In) (rInSeq X.K false) := by
  intro pins s σ H x y v u Q I rx ry h
  obtain ⟨d, c, ds, hd, he, hc, sd, se, q⟩ := h
  obtain ⟨as, r1⟩ := Dp.reads I d x v hd rx
  obtain ⟨bs, r2⟩ := Dp.reads I c y u he ry
  have q' : Q (.bl (ds.any fun z => PyData.eqv z d)) H := by rw [show (ds.any fun z => PyData.eqv z d) = (false != ds.any fun z => PyData.eqv z d) from (Bool.false_bne _).symm]; exact q
  rcases hc with e | e
  · subst e
    exact SeqAt.in_list_reads r2 r1 (SeqAt.canLay_of_shaped se) (SeqAt.canLay_of_shaped sd) (room_in_shaped sd hu) ⟨.bl _, H, I, rfl, q'⟩
  · subst e
    exact SeqAt.in_tuple_reads r2 r1 (SeqAt.canLay_of_shaped se) (SeqAt.canLay_of_shaped sd) (room_in_shaped sd hu) ⟨.bl _, H, I, rfl, q'⟩
theorem op_notInSeq (hu : X.A.units + 65 < cLine) : OpR X (compareOp .NotIn) (rInSeq X.K true) := by
  intro pins s σ H x y v u Q I rx ry h
  obtain ⟨d, c, ds, hd, he, hc, sd, se, q⟩ := h
  obtain ⟨as, r1⟩ := Dp.reads I d x v hd rx
  obtain ⟨bs, r2⟩ := Dp.reads I c y u he ry
  have q' : Q (.bl (!ds.any fun z => PyData.eqv z d)) H := by rw [show (!ds.any fun z => PyData.eqv z d) = (true != ds.any fun z => PyData.eqv z d) from (Bool.true_bne _).symm]; exact q
  rcases hc with e | e
  · subst e
    exact SeqAt.notIn_list_reads r2 r1 (SeqAt.canLay_of_shaped se) (SeqAt.canLay_of_shaped sd) (room_in_shaped sd hu) ⟨.bl _, H, I, rfl, q'⟩
  · subst e
    exact SeqAt.notIn_tuple_reads r2 r1 (SeqAt.canLay_of_shaped se) (SeqAt.canLay_of_shaped sd) (room_in_shaped sd hu) ⟨.bl _, H, I, rfl, q'⟩
theorem op_inDct (hu : X.A.units + 1 < cLine) : OpR X (compareOp .In) (rInDct false) := by
  intro pins s σ H x y v u Q I rx ry h
  obtain ⟨a, o, rfl, g, q⟩ := h
  obtain rfl : u = Value.ref a := ry
  rw [Bool.false_bne] at q
  exact d_in hu I g rx fun s3 I3 => ⟨.bl o.isSome, H, I3, rfl, q⟩
theorem op_notInDct (hu : X.A.units + 1 < cLine) : OpR X (compareOp .NotIn) (rInDct true) := by
  intro pins s σ H x y v u Q I rx ry h
  obtain ⟨a, o, rfl, g, q⟩ := h
  obtain rfl : u = Value.ref a := ry
  rw [Bool.true_bne] at q
  exact d_notIn hu I g rx fun s3 I3 => ⟨.bl (!o.isSome), H, I3, rfl, q⟩
theorem op_inStr : OpR X (compareOp .In) (rInStr false) := by
  intro pins s σ H x y v u Q I rx ry h
  obtain ⟨i, j, e1, e2, q⟩ := h
  rw [Bool.false_bne] at q
  exact op_in_str pins s σ H x y v u Q I rx ry ⟨i, j, e1, e2, q⟩
theorem op_notInStr : OpR X (compareOp .NotIn) (rInStr true) := by
  intro pins s σ H x y v u Q I rx ry h
  obtain ⟨i, j, e1, e2, q⟩ := h
  rw [Bool.true_bne] at q
  exact op_notin_str pins s σ H x y v u Q I rx ry ⟨i, j, e1, e2, q⟩
theorem op_inA (hu : X.A.units + 65 < cLine) : OpR X (compareOp .In) (rInA X.K false) := ((op_inSeq hu).or (op_inDct (by omega))).or op_inStr
theorem op_notInA (hu : X.A.units + 65 < cLine) : OpR X (compareOp .NotIn) (rInA X.K true) := ((op_notInSeq hu).or (op_notInDct (by omega))).or op_notInStr
theorem toPs_any (x : D) : ∀ ds : List D, (toPs ds).any (fun z => PyData.eqv z (toP x)) = ds.any fun z => eqd z x
  | [] => by unfold toPs; rfl
  | d :: ds => by unfold toPs; rw [List.any_cons, List.any_cons, toPs_any x ds]; rfl
theorem opB_in {neg : Bool} : OpB X (inD neg) (rInA X.K neg) := by
  intro Z σ S x y u v d Q R t1 t2 e
  unfold inD at e
  split at e
  · rename_i ds
    split at e
    · rename_i hh
      cases e
      simp only [Bool.and_eq_true] at hh
      refine ⟨_, rfl, fun q => .inl (.inl ⟨toP x, toP (.lst ds), toPs ds, dpt_of hh.1 t1, dpt_of hh.2 t2, .inl (by unfold toP; rfl), okD_shaped hh.1, okD_shaped hh.2, ?_⟩)⟩
      rw [toPs_any]; exact q
    · cases e
  · rename_i ds
    split at e
    · rename_i hh
      cases e
      simp only [Bool.and_eq_true] at hh
      refine ⟨_, rfl, fun q => .inl (.inl ⟨toP x, toP (.wls ds), toPs ds, dpt_of hh.1 t1, dpt_of hh.2 t2, .inl (by unfold toP; rfl), okD_shaped hh.1, okD_shaped hh.2, ?_⟩)⟩
      rw [toPs_any]; exact q
    · cases e
  · rename_i ds
    split at e
    · rename_i hh
      cases e
      simp only [Bool.and_eq_true] at hh
      refine ⟨_, rfl, fun q => .inl (.inl ⟨toP x, toP (.tup ds), toPs ds, dpt_of hh.1 t1, dpt_of hh.2 t2, .inr (by unfold toP; rfl), okD_shaped hh.1, okD_shaped hh.2, ?_⟩)⟩
      rw [toPs_any]; exact q
    · cases e
  · rename_i kvs
    split at e
    · rename_i k hk
      cases e
      obtain ⟨a, es, rfl, h1, r1⟩ := t2
      have ev := keyOf_v hk t1
      refine ⟨_, rfl, fun q => .inl (.inr ⟨a, valV es k, rfl, .inl ⟨es, k, h1, ev, rfl⟩, ?_⟩)⟩
      rcases r1.val k with ⟨e1, e2⟩ | ⟨d, v, e1, e2, _⟩
      · rw [e2]; rw [e1] at q; exact q
      · rw [e2]; rw [e1] at q; exact q
    · cases e
  · rename_i z
    split at e
    · rename_i y
      cases e
      exact ⟨_, rfl, fun q => .inr ⟨y, z, t1, t2, q⟩⟩
    · cases e
  · cases e
/-! ### is -/
def isNon : D → Bool
  | .non => true
  | _ => false
def isD (neg : Bool) : Op2 := fun x y => match y with
  | .non => some (.bl (neg != isNon x))
  | .bl b => match x with
    | .bl a => some (.bl (neg != decide (a = b)))
    | _ => none
  | _ => none
def rIsA (neg : Bool) : R2 := fun x y H Q => (y = .non ∧ Q (.bl (neg != decide (x = .non))) H) ∨ ∃ a b, x = .bl a ∧ y = .bl b ∧ Q (.bl (neg != decide (a = b))) H
theorem op_isA : OpR X (compareOp .Is) (rIsA false) := by
  intro pins s σ H x y v u Q I rx ry h
  rcases h with ⟨e, q⟩ | ⟨a, b, e1, e2, q⟩
  · rw [Bool.false_bne] at q; exact op_isN pins s σ H x y v u Q I rx ry ⟨e, q⟩
  · rw [Bool.false_bne] at q; exact op_is_bl pins s σ H x y v u Q I rx ry ⟨a, b, e1, e2, q⟩
theorem op_isNotA : OpR X (compareOp .IsNot) (rIsA true) := by
  intro pins s σ H x y v u Q I rx ry h
  rcases h with ⟨e, q⟩ | ⟨a, b, e1, e2, q⟩
  · rw [Bool.true_bne] at q; exact op_notN pins s σ H x y v u Q I rx ry ⟨e, q⟩
  · rw [Bool.true_bne] at q; exact op_isnot_bl pins s σ H x y v u Q I rx ry ⟨a, b, e1, e2, q⟩
theorem isNon_v {w : Wd} {d : D} {v : V} (r : Rt w d v) : decide (v = .non) = isNon d := by
  cases d with
  | non => cases r; rfl
  | bl b => cases r; rfl
  | int b => cases r; rfl
  | str b => cases r; rfl
  | ref b => exact r.elim
  | tup b => obtain ⟨a, xs, rfl, _⟩ := r; rfl
  | lst b => obtain ⟨a, xs, rfl, _⟩ := r; rfl
  | wls b => obtain ⟨a, xs, rfl, _⟩ := r; rfl
  | dct b => obtain ⟨a, xs, rfl, _⟩ := r; rfl
  | obj b c => obtain ⟨a, dx, xs, rfl, _⟩ := r; rfl
theorem opB_is {neg : Bool} : OpB X (isD neg) (rIsA neg) := by
  intro Z σ S x y u v d Q R t1 t2 e
  unfold isD at e
  split at e
  · cases e
    refine ⟨_, rfl, fun q => .inl ⟨t2, ?_⟩⟩
    rw [isNon_v t1]; exact q
  · split at e
    · cases e
      exact ⟨_, rfl, fun q => .inr ⟨_, _, t1, t2, q⟩⟩
    · cases e
  · cases e
/-! ### subscripts -/
def ixD : Op2 := fun x y => match x with
  | .lst ds => match y with
    | .int i => atI ds i
    | _ => none
  | .wls ds => match y with
    | .int i => atI ds i
    | _ => none
  | .tup ds => match y with
    | .int i => atI ds i
    | _ => none
  | .dct kvs => match keyOf y with
    | some k => valD kvs k
    | none => none
  | .str z => match y with
    | .int i => if szOk z.length = true then (atI z.cps.toList i).map fun c => .str ⟨#[c]⟩ else none
    | _ => none
  | _ => none
def rIxDct : R2 := fun x y H Q => ∃ a v, x = .ref a ∧ DGet H a y (some v) ∧ Q v H
theorem ix_dct (hu : X.A.units + 1 < cLine) : IxR X rIxDct := by
  intro value slice pins s σ H x y v u Q I rx ry h hs
  obtain ⟨a, r, rfl, g, q⟩ := h
  obtain rfl : v = Value.ref a := rx
  exact tail_any (dict_typeIs I g) PySem.F.slot_dict_getitem.lookup (d_getItem hu I g ry fun w' s3 I3 rw' => ⟨r, H, I3, rw', q⟩) hs
def rIxA (K : PySem.W.Frag) : R2 := fun x y H Q => rIx K x y H Q ∨ rIxDct x y H Q
theorem ix_A (hu : X.A.units + 1 < cLine) : IxR X (rIxA X.K) := ix_seq.or (ix_dct hu)
theorem atI_rp {w : Wd} {ds : List D} {vs : List V} {i : Int} {d : D} (r : RpL w ds vs) (e : atI ds i = some d) : ∃ v, atI vs i = some v ∧ Rp w d v := by
  unfold atI at *
  rw [r.length]
  cases q : ixN ds.length i with
  | none => rw [q] at e; cases e
  | some j =>
    rw [q] at e
    exact r.get (i := j) e
theorem opS_ix : OpS X ixD (rIxA X.K) := by
  intro Z σ S x y u v d Q R t1 t2 e k
  unfold ixD at e
  split at e
  · split at e
    · rename_i i
      obtain ⟨a, xs, rfl, h1, r1⟩ := t1
      obtain ⟨z, e1, r2⟩ := atI_rp r1 e
      exact .inl (.inl ⟨a, xs, i, z, rfl, t2, .inl (.inl h1), e1, k.now r2⟩)
    · cases e
  · split at e
    · rename_i i
      obtain ⟨a, xs, rfl, h1, r1⟩ := t1
      obtain ⟨z, e1, r2⟩ := atI_rp r1 e
      exact .inl (.inl ⟨a, xs, i, z, rfl, t2, h1.sq, e1, k.now r2⟩)
    · cases e
  · split at e
    · rename_i i
      obtain ⟨a, xs, rfl, h1, r1⟩ := t1
      obtain ⟨z, e1, r2⟩ := atI_rp r1 e
      exact .inl (.inr (.inl ⟨a, xs, i, z, rfl, t2, h1.sq, e1, k.now r2⟩))
    · cases e
  · split at e
    · rename_i kk hk
      obtain ⟨a, es, rfl, h1, r1⟩ := t1
      have ev := keyOf_v hk t2
      rcases r1.val kk with ⟨e1, e2⟩ | ⟨d', v', e1, e2, r2⟩
      · rw [e1] at e; cases e
      · rw [e1] at e; cases e
        exact .inr ⟨a, v', rfl, .inl ⟨es, kk, h1, ev, e2.symm⟩, k.now r2⟩
    · cases e
  · split at e
    · rename_i z _ i
      split at e
      · rename_i hz
        cases q : atI z.cps.toList i with
        | none => rw [q] at e; cases e
        | some c =>
          rw [q] at e; cases e
          exact .inl (.inr (.inr ⟨z, i, c, t1, t2, szOk_le hz, q, k.now rp_str⟩))
      · cases e
    · cases e
  · cases e
theorem ev_ix {W : WX} {a b : Expr} {ma mb : M Bv} {pos : Pos} (hu : X.A.units + 65 < cLine) (ha : PBv X W a ma) (hb : PBv X W b mb) (hs : PlainIx b := by exact fun _ _ => rfl) : PEv X W (.Subscript a b pos) (op2M ixD ma mb) :=
  PE.weak (pe_ix (ix_A (by omega)) ha hb hs) fun _ _ _ q => bin_go opS_ix q
end
end QB

/-! The pure layer, part 8: slices, calls of built-ins. -/
namespace QB
open PySem PySem.Spec PyProof.Rows L2
/-! ### slices -/
def tGO (K : PySem.W.Frag) (mg : Str → Option Value) (W : WX) (m : M (Option Int)) : TO := fun σ H Q =>
  ∃ Z S, S.H = H ∧ Rel K Z σ S ∧ Wp K Z σ S (m S.env S.st) (fun o S' => Q o S'.H) (Qx K mg W Z σ)
def POv (X : Cx) (W : WX) (e : Option Expr) (m : M (Option Int)) : Prop := PO X e (tGO X.K X.mg W m)
theorem PO.weak {X : Cx} {e : Option Expr} {t t' : TO} (h : PO X e t) (k : ∀ σ H Q, t' σ H Q → t σ H Q) : PO X e t' := ⟨fun pins s σ H Q I q => h.run pins s σ H Q I (k σ H Q q)⟩
def intD1 : D → M (Option Int)
  | .int i => rt (some i)
  | _ => fail
@[simp] theorem intD1_int {i : Int} : intD1 (.int i) = rt (some i) := rfl
def partM (m : M D) : M (Option Int) := bnd m intD1
def cutL (ds : List D) (lo hi : Option Int) : List D := (ds.drop (HT.sIx ds.length 0 lo)).take (HT.sIx ds.length ds.length hi - HT.sIx ds.length 0 lo)
theorem RpL.cut {w : Wd} {ds : List D} {vs : List V} (r : RpL w ds vs) (lo hi : Option Int) : RpL w (cutL ds lo hi) (cutV vs lo hi) := by
  unfold cutL cutV
  rw [r.length]
  exact (r.drop _).take _
def slD (x : D) (lo hi : Option Int) : Option D := match x with
  | .lst ds => some (.lst (cutL ds lo hi))
  | .wls ds => some (.lst (cutL ds lo hi))
  | .tup ds => some (.tup (cutL ds lo hi))
  | .str z => if szOk z.length = true then some (.str (cutS z lo hi)) else none
  | _ => none
def sliceM (ma : M Bv) (ml mh : M (Option Int)) : M D := bnd ma fun x => bnd ml fun l => bnd mh fun h => bnd (rd x) fun d => opt (slD d l h)
def rSlAll (K : PySem.W.Frag) : V → Option Int → Option Int → Hp → VK → Prop := fun x lo hi H Q => (rSlL K x lo hi H Q ∨ rSlA K x lo hi H Q) ∨ rSlS x lo hi H Q
section
variable {X : Cx} {W : WX} {a b e : Expr} {pos : Pos}
theorem ov_none : POv X W none (rt none) := by
  refine PO.weak po_none fun σ H Q q => ?_
  obtain ⟨Z, S, rfl, R, hw⟩ := q
  exact hw.here R
theorem ov_some {m : M D} (h : PEv X W e m) : POv X W (some e) (partM m) := by
  refine PO.weak (po_some h) fun σ H Q q => ?_
  obtain ⟨Z, S, rfl, R, hw⟩ := q
  refine ⟨Z, S, rfl, R, Wp.bnd hw fun d S1 R1 T1 h1 v r1 => ?_⟩
  cases d with
  | int i => unfold rE Rp at r1; exact ⟨i, r1, h1.here R1⟩
  | _ => exact h1.elim
theorem sl_all : SlR X (rSlAll X.K) := (sl_list.or sl_tupA).or sl_str
theorem sIx_whole {ds : List D} {lo hi : Option Int} (h : HT.sIx ds.length 0 lo = 0 ∧ HT.sIx ds.length ds.length hi = ds.length) : cutL ds lo hi = ds := by
  unfold cutL
  rw [h.1, h.2]
  simp
theorem ev_slice {ma : M Bv} {ml mh : M (Option Int)} {lo hi : Option Expr} {p2 : Pos} (ha : PBv X W a ma) (hl : POv X W lo ml) (hh : POv X W hi mh) : PEv X W (.Subscript a (.Slice lo hi none p2) pos) (sliceM ma ml mh) := by
  refine PE.weak (pe_slice sl_all ha hl hh) fun σ H Q q => ?_
  obtain ⟨Z, S, rfl, R, hw⟩ := q
  refine ⟨Z, S, rfl, R, Wp.bnd hw fun x S1 R1 T1 h1 u r1 => ?_⟩
  refine ⟨Z, S1, rfl, R1, Wp.bnd h1 fun l S2 R2 T2 h2 => ?_⟩
  refine ⟨Z, S2, rfl, R2, Wp.bnd h2 fun h S3 R3 T3 h3 => ?_⟩
  obtain ⟨d, t1, h4⟩ := R3.rd_ok (S0 := S) (rB_tr T3 (rB_tr T2 r1)) h3
  obtain ⟨z, e, h5⟩ := Wp.opt h4
  have k := Wp.fin R3 h5
  unfold slD at e
  split at e
  · rename_i ds
    cases e
    obtain ⟨p, xs, rfl, q1, q2⟩ := t1
    exact .inl (.inl ⟨p, xs, rfl, .inl (.inl q1), k.lst R3 (q2.cut l h)⟩)
  · rename_i ds
    cases e
    obtain ⟨p, xs, rfl, q1, q2⟩ := t1
    exact .inl (.inl ⟨p, xs, rfl, q1.sq, k.lst R3 (q2.cut l h)⟩)
  · rename_i ds
    cases e
    obtain ⟨p, xs, rfl, q1, q2⟩ := t1
    refine .inl (.inr ⟨p, xs, rfl, q1.sq, fun c => ?_, fun c => k.tup R3 (q2.cut l h)⟩)
    rw [q2.length] at c
    refine k.now ?_
    rw [sIx_whole c]
    unfold Rp
    exact ⟨p, xs, rfl, q1, q2⟩
  · rename_i z0
    split at e
    · rename_i hz
      cases e
      exact .inr ⟨z0, t1, szOk_le hz, k.now rp_str⟩
    · cases e
  · cases e
/-! ### a call of one, of two -/
def C1S (X : Cx) (f : D → Option D) (r : List V → Hp → VK → Prop) : Prop := ∀ (Z : Addr → Prop) (σ : L2.St) (S : S8) (x : D) (u : V) (d : D) (Q : VK), Rel X.K Z σ S → Rt (S.wd X.K Z) x u → f x = some d → Fin X.K Z S d Q → r [u] S.H Q
def C2S (X : Cx) (f : Op2) (r : List V → Hp → VK → Prop) : Prop := ∀ (Z : Addr → Prop) (σ : L2.St) (S : S8) (x y : D) (u v : V) (d : D) (Q : VK), Rel X.K Z σ S → Rt (S.wd X.K Z) x u → Rt (S.wd X.K Z) y v → f x y = some d → Fin X.K Z S d Q → r [u, v] S.H Q
theorem call1_go {f : D → Option D} {r : List V → Hp → VK → Prop} {ma : M Bv} (hf : C1S X f r) {σ : L2.St} {H : Hp} {Q : VK} (q : tG X.K X.mg W (rE X.K) (op1M f ma) σ H Q) : tCB r (tCons (tG X.K X.mg W (rB X.K) ma) tNil) σ H Q := by
  obtain ⟨Z, S, rfl, R, hw⟩ := q
  refine ⟨Z, S, rfl, R, Wp.bnd hw fun x S1 R1 T1 h1 u r1 => ?_⟩
  obtain ⟨d, t1, h2⟩ := R1.rd_ok (S0 := S) r1 h1
  obtain ⟨z, e, h3⟩ := Wp.opt h2
  exact hf Z σ S1 d u z Q R1 t1 e (Wp.fin R1 h3)
theorem call2_go {f : Op2} {r : List V → Hp → VK → Prop} {ma mb : M Bv} (hf : C2S X f r) {σ : L2.St} {H : Hp} {Q : VK} (q : tG X.K X.mg W (rE X.K) (op2M f ma mb) σ H Q) : tCB r (tCons (tG X.K X.mg W (rB X.K) ma) (tCons (tG X.K X.mg W (rB X.K) mb) tNil)) σ H Q := by
  obtain ⟨Z, S, rfl, R, hw⟩ := q
  refine ⟨Z, S, rfl, R, Wp.bnd hw fun x S1 R1 T1 h1 u r1 => ?_⟩
  refine ⟨Z, S1, rfl, R1, Wp.bnd h1 fun y S2 R2 T2 h2 v r2 => ?_⟩
  obtain ⟨dx, t1, h3⟩ := R2.rd_ok (S0 := S) (rB_tr T2 r1) h2
  obtain ⟨dy, t2, h4⟩ := R2.rd_ok (S0 := S1) r2 h3
  obtain ⟨d, e, h5⟩ := Wp.opt h4
  exact hf Z σ S2 dx dy u v d Q R2 t1 t2 e (Wp.fin R2 h5)
theorem ev_b1 {x : Str} {id : String} {p : Pos} {r : List V → Hp → VK → Prop} {f : D → Option D} {ma : M Bv} (hc : CallR X (.builtin id) r) (hf : C1S X f r) (hm : X.mg x = none) (hv : bootBuiltins x = some (.builtin id)) (ha : PBv X W a ma) (hg : Gl X x := by rfl)
    (hst : starEach [a] X.env = (false, eval a X.env) :: starEach [] X.env := by rfl) (hpl : (backTo pos (starEach [] X.env)).any (·.1) = false := by rfl) (hdb : (x == ("__debug__" : Str)) = false := by decide) (hn : x ≠ "__name__" := by decide) : PEv X W (.Call (.Name x p) [a] [] pos) (op1M f ma) :=
  PE.weak (pe_callB hc hg hm hv (pa_cons ha pa_nil hst) (by assumption) (by assumption) hst hpl) fun _ _ _ q => call1_go hf q
theorem ev_t1 {x : Str} {T : String} {p : Pos} {r : List V → Hp → VK → Prop} {f : D → Option D} {ma : M Bv} (hc : CallR X (.type T) r) (hf : C1S X f r) (hm : X.mg x = none) (hv : bootBuiltins x = some (.type T)) (ha : PBv X W a ma) (hg : Gl X x := by rfl)
    (hst : starEach [a] X.env = (false, eval a X.env) :: starEach [] X.env := by rfl) (hpl : (backTo pos (starEach [] X.env)).any (·.1) = false := by rfl) (hdb : (x == ("__debug__" : Str)) = false := by decide) (hn : x ≠ "__name__" := by decide) : PEv X W (.Call (.Name x p) [a] [] pos) (op1M f ma) :=
  PE.weak (pe_callTy hc hg hm hv (pa_cons ha pa_nil hst) (by assumption) (by assumption) hst hpl) fun _ _ _ q => call1_go hf q
theorem ev_b2 {x : Str} {id : String} {p : Pos} {r : List V → Hp → VK → Prop} {f : Op2} {ma mb : M Bv} (hc : CallR X (.builtin id) r) (hf : C2S X f r) (hm : X.mg x = none) (hv : bootBuiltins x = some (.builtin id)) (ha : PBv X W a ma) (hb : PBv X W b mb) (hg : Gl X x := by rfl)
    (hst : starEach [a, b] X.env = (false, eval a X.env) :: starEach [b] X.env := by rfl) (hst2 : starEach [b] X.env = (false, eval b X.env) :: starEach [] X.env := by rfl) (hpl : (backTo pos (starEach [b] X.env)).any (·.1) = false := by rfl) (hdb : (x == ("__debug__" : Str)) = false := by decide) (hn : x ≠ "__name__" := by decide) :
    PEv X W (.Call (.Name x p) [a, b] [] pos) (op2M f ma mb) :=
  PE.weak (pe_callB hc hg hm hv (pa_cons ha (pa_cons hb pa_nil hst2) hst) (by assumption) (by assumption) hst hpl) fun _ _ _ q => call2_go hf q
end
end QB

/-! The pure layer, part 9: len, sum, min, max, all, any, abs, int, list, tuple, sorted, isinstance. -/
namespace QB
open PySem PySem.Spec PyProof.Rows L2
section
variable {X : Cx}
/-! ### len -/
def lenD : D → Option D
  | .lst ds => some (.int ds.length)
  | .wls ds => some (.int ds.length)
  | .tup ds => some (.int ds.length)
  | .dct kvs => some (.int kvs.length)
  | .str z => if szOk z.length = true then some (.int z.length) else none
  | _ => none
def rLenA (K : PySem.W.Frag) : List V → Hp → VK → Prop := fun xs H Q => (∃ x n, xs = [x] ∧ LenV K x H n ∧ Q (.int n) H) ∨ ∃ a kvs, xs = [V.ref a] ∧ Rd H a (.dK kvs) ∧ Q (.int kvs.length) H
theorem call_lenA : CallR X (.builtin "len") (rLenA X.K) := by
  intro pins s σ H xs us Q I r h
  rcases h with h | ⟨a, kvs, rfl, ha, q⟩
  · exact call_len pins s σ H xs us Q I r h
  · obtain ⟨u, rfl, ru⟩ := vals1 r
    cases ru
    exact d_len I ha fun t s' I' => ⟨.int kvs.length, H, I', ⟨t, rfl⟩, q⟩
theorem c1_len : C1S X lenD (rLenA X.K) := by
  intro Z σ S x u d Q R t e k
  cases x with
  | lst ds =>
    cases e
    obtain ⟨a, xs, rfl, h1, r1⟩ := t
    exact .inl ⟨_, _, rfl, .inl ⟨xs, .inl (.inl h1), rfl⟩, by rw [r1.length]; exact k.now rp_int⟩
  | wls ds =>
    cases e
    obtain ⟨a, xs, rfl, h1, r1⟩ := t
    exact .inl ⟨_, _, rfl, .inl ⟨xs, h1.sq, rfl⟩, by rw [r1.length]; exact k.now rp_int⟩
  | tup ds =>
    cases e
    obtain ⟨a, xs, rfl, h1, r1⟩ := t
    exact .inl ⟨_, _, rfl, .inr ⟨xs, h1.sq, rfl⟩, by rw [r1.length]; exact k.now rp_int⟩
  | dct ds =>
    cases e
    obtain ⟨a, xs, rfl, h1, r1⟩ := t
    exact .inr ⟨a, xs, rfl, h1, by rw [r1.length]; exact k.now rp_int⟩
  | str z =>
    have e : (if szOk z.length = true then some (D.int z.length) else none) = some d := e
    split at e
    · rename_i hz
      cases e
      cases (show u = .str z from t)
      exact .inl ⟨_, _, rfl, ⟨szOk_le hz, rfl⟩, k.now rp_int⟩
    · cases e
  | _ => cases e
/-! ### abs, int -/
def absD : D → Option D
  | .int i => some (.int (if i < 0 then -i else i))
  | _ => none
theorem c1_abs : C1S X absD (fun xs H Q => ∃ i, xs = [.int i] ∧ Q (.int (if i < 0 then -i else i)) H) := by
  intro Z σ S x u d Q R t e k
  cases x with
  | int i => cases e; exact ⟨i, by rw [show u = .int i from t], k.now rp_int⟩
  | _ => cases e
def toIntD : D → Option D
  | .int i => some (.int i)
  | .bl b => some (.int (if b then 1 else 0))
  | _ => none
theorem c1_int : C1S X toIntD (fun xs H Q => (∃ i, xs = [.int i] ∧ Q (.int i) H) ∨ ∃ k, xs = [.bl k] ∧ Q (.int (if k then 1 else 0)) H) := by
  intro Z σ S x u d Q R t e k
  cases x with
  | int i => cases e; exact .inl ⟨i, by rw [show u = .int i from t], k.now rp_int⟩
  | bl i => cases e; exact .inr ⟨i, by rw [show u = .bl i from t], k.now rp_int⟩
  | _ => cases e
/-! ### sum, all, any -/
def sumD : D → Option D
  | .lst ds => (intsOf ds).map fun ns => .int ns.sum
  | .wls ds => (intsOf ds).map fun ns => .int ns.sum
  | .tup ds => (intsOf ds).map fun ns => .int ns.sum
  | _ => none
def rSumA (K : PySem.W.Frag) : List V → Hp → VK → Prop := fun vs H Q => ∃ (a : Addr) (ns : List Int), vs = [V.ref a] ∧ (SqL K H a (ns.map V.int) ∨ SqT K H a (ns.map V.int)) ∧ Q (.int ns.sum) H
theorem cr_sumA (hc : X.calm = true) : CallR X (.builtin "sum") (rSumA X.K) := by
  intro pins s σ H vs us Q I r h
  obtain ⟨a, ns, rfl, hs, q⟩ := h
  rcases hs with hs | hs
  · exact cr_sum hc pins s σ H _ us Q I r ⟨a, ns, rfl, hs, q⟩
  · obtain ⟨its, rv, hl, _⟩ := I.tuple hs
    rw [Vals.ref1 r]
    have hi := rv.ints
    obtain ⟨xs, hx⟩ := hi.allInts.items
    have hn : numsOf its.toArray.toList = ns := by rw [show its.toArray.toList = its from rfl, hi.numsOf]
    rw [hx] at hl hn
    rw [nums_intItems] at hn
    refine PySem.W.ktm_sumG (I.ok.hd hc) hl fun h' tk t' hk => ?_
    rw [preSum_eq, List.take_of_length_le (by simp), hn]
    exact ⟨.int _, H, I.kept hk, ⟨_, rfl⟩, q⟩
theorem c1_sum : C1S X sumD (rSumA X.K) := by
  intro Z σ S x u d Q R t e k
  cases x with
  | lst ds =>
    have e : (intsOf ds).map (fun ns => D.int ns.sum) = some d := e
    cases q : intsOf ds with
    | none => rw [q] at e; cases e
    | some ns =>
      rw [q] at e; cases e
      obtain ⟨a, xs, rfl, h1, r1⟩ := t
      rw [intsOf_map q] at r1
      exact ⟨a, ns, rfl, .inl (by rw [← r1.of_ints]; exact .inl (.inl h1)), k.now rp_int⟩
  | wls ds =>
    have e : (intsOf ds).map (fun ns => D.int ns.sum) = some d := e
    cases q : intsOf ds with
    | none => rw [q] at e; cases e
    | some ns =>
      rw [q] at e; cases e
      obtain ⟨a, xs, rfl, h1, r1⟩ := t
      rw [intsOf_map q] at r1
      exact ⟨a, ns, rfl, .inl (by rw [← r1.of_ints]; exact h1.sq), k.now rp_int⟩
  | tup ds =>
    have e : (intsOf ds).map (fun ns => D.int ns.sum) = some d := e
    cases q : intsOf ds with
    | none => rw [q] at e; cases e
    | some ns =>
      rw [q] at e; cases e
      obtain ⟨a, xs, rfl, h1, r1⟩ := t
      rw [intsOf_map q] at r1
      exact ⟨a, ns, rfl, .inr (by rw [← r1.of_ints]; exact h1.sq), k.now rp_int⟩
  | _ => cases e
def blsOf : List D → Option (List Bool)
  | [] => some []
  | .bl i :: r => (blsOf r).map (i :: ·)
  | _ => none
theorem blsOf_map : ∀ {ds : List D} {ns : List Bool}, blsOf ds = some ns → ds = ns.map D.bl
  | [], ns, h => by cases h; rfl
  | d :: ds, ns, h => by
    cases d with
    | bl i =>
      unfold blsOf at h
      cases e : blsOf ds with
      | none => rw [e] at h; cases h
      | some l => rw [e] at h; cases h; rw [blsOf_map e]; rfl
    | _ => cases h
theorem blsOf_bls : ∀ ns : List Bool, blsOf (ns.map D.bl) = some ns
  | [] => rfl
  | n :: ns => by
    show (blsOf (ns.map D.bl)).map (n :: ·) = _
    rw [blsOf_bls ns]; rfl
theorem RpL.of_bls {w : Wd} : ∀ {ns : List Bool} {vs : List V}, RpL w (ns.map D.bl) vs → vs = ns.map V.bl
  | [], _, h => h.of_nil
  | n :: ns, _, h => by
    obtain ⟨x, xs, rfl, h3, h4⟩ := RpL.of_cons (d := .bl n) (ds := ns.map D.bl) h
    unfold Rp at h3
    rw [h3, RpL.of_bls h4]; rfl
def allD : D → Option D
  | .lst ds => (blsOf ds).map fun ns => .bl (ns.all id)
  | _ => none
def anyD : D → Option D
  | .lst ds => (blsOf ds).map fun ns => .bl (ns.any id)
  | _ => none
theorem c1_all : C1S X allD (rAll X.K) := by
  intro Z σ S x u d Q R t e k
  cases x with
  | lst ds =>
    have e : (blsOf ds).map (fun ns => D.bl (ns.all id)) = some d := e
    cases q : blsOf ds with
    | none => rw [q] at e; cases e
    | some ns =>
      rw [q] at e; cases e
      obtain ⟨a, xs, rfl, h1, r1⟩ := t
      rw [blsOf_map q] at r1
      exact ⟨a, ns, rfl, by rw [← r1.of_bls]; exact .inl (.inl h1), k.now rp_bl⟩
  | _ => cases e
theorem c1_any : C1S X anyD (rAny X.K) := by
  intro Z σ S x u d Q R t e k
  cases x with
  | lst ds =>
    have e : (blsOf ds).map (fun ns => D.bl (ns.any id)) = some d := e
    cases q : blsOf ds with
    | none => rw [q] at e; cases e
    | some ns =>
      rw [q] at e; cases e
      obtain ⟨a, xs, rfl, h1, r1⟩ := t
      rw [blsOf_map q] at r1
      exact ⟨a, ns, rfl, by rw [← r1.of_bls]; exact .inl (.inl h1), k.now rp_bl⟩
  | _ => cases e
/-! ### max(a, b), min(a, b) -/
def max2D : Op2
  | .int i, .int j => some (.int (if j > i then j else i))
  | _, _ => none
def min2D : Op2
  | .int i, .int j => some (.int (if j < i then j else i))
  | _, _ => none
theorem c2_max : C2S X max2D (fun xs H Q => ∃ i j, xs = [.int i, .int j] ∧ Q (.int (if j > i then j else i)) H) := by
  intro Z σ S x y u v d Q R t1 t2 e k
  unfold max2D at e
  split at e
  · rename_i i j
    cases e
    exact ⟨i, j, by rw [show u = .int i from t1, show v = .int j from t2], k.now rp_int⟩
  · cases e
theorem c2_min : C2S X min2D (fun xs H Q => ∃ i j, xs = [.int i, .int j] ∧ Q (.int (if j < i then j else i)) H) := by
  intro Z σ S x y u v d Q R t1 t2 e k
  unfold min2D at e
  split at e
  · rename_i i j
    cases e
    exact ⟨i, j, by rw [show u = .int i from t1, show v = .int j from t2], k.now rp_int⟩
  · cases e
/-! ### tuple(..), list(..) -/
def tupleD : D → Option D
  | .lst ds => some (.tup ds)
  | .wls ds => some (.tup ds)
  | .tup ds => some (.tup ds)
  | _ => none
theorem c1_tuple : C1S X tupleD (fun xs H Q => ∃ p ys, xs = [.ref p] ∧ ((SqL X.K H p ys ∧ ∀ l, H l = none → Q (.ref l) (upd H l (.tup ys))) ∨ (SqT X.K H p ys ∧ Q (.ref p) H))) := by
  intro Z σ S x u d Q R t e k
  cases x with
  | lst ds =>
    cases e
    obtain ⟨a, xs, rfl, h1, r1⟩ := t
    exact ⟨a, xs, rfl, .inl ⟨.inl (.inl h1), k.tup R r1⟩⟩
  | wls ds =>
    cases e
    obtain ⟨a, xs, rfl, h1, r1⟩ := t
    exact ⟨a, xs, rfl, .inl ⟨h1.sq, k.tup R r1⟩⟩
  | tup ds =>
    cases e
    obtain ⟨a, xs, rfl, h1, r1⟩ := t
    exact ⟨a, xs, rfl, .inr ⟨h1.sq, k.now (by unfold Rp; exact ⟨a, xs, rfl, h1, r1⟩)⟩⟩
  | _ => cases e
end
/-! ### calls that make a new mutable object -/
def FinF (K : PySem.W.Frag) (Z : Addr → Prop) (S : S8) (c : Cell) (Q : VK) : Prop := ∀ p o, S.H p = none → CellAt ((S.up (upd S.H p o)).wd K (addZ Z p)) c p → Q (.ref p) (upd S.H p o)
theorem Wp.finF {K : PySem.W.Frag} {mg : Str → Option Value} {W : WX} {Z : Addr → Prop} {σ : L2.St} {S S0 : S8} {c : Cell} {Q : VK} (R : Rel K Z σ S) (T : Tr S0 S) (h : Wp K Z σ S (rt c S.env S.st) (fun a S' => ∀ v, rF K Z σ S0 S' a v → Q v S'.H) (Qx K mg W Z σ)) : FinF K Z S c Q := fun p o hp hc => by
  refine h (S.up (upd S.H p o)) rfl rfl (R.up (ext_new hp)) (Tr.up (ext_new hp)) _ ⟨p, rfl, ?_, fun z => R.zt p z hp, R.addNew hp, hc⟩
  cases e : S0.H p with
  | none => rfl
  | some o => exact absurd hp (T.dom p (by rw [e]; intro z; cases z))
theorem FinF.lst {K : PySem.W.Frag} {Z : Addr → Prop} {σ : L2.St} {S : S8} {ds : List D} {Q : VK} (h : FinF K Z S (.lst ds) Q) (R : Rel K Z σ S) {xs : List V} (r : RpL (S.wd K Z) ds xs) : ∀ p, S.H p = none → Q (.ref p) (upd S.H p (.lst xs)) := fun p hp =>
  h p _ hp ⟨xs, upd_same, (le_new R hp).rpL _ _ r⟩
def C1F (X : Cx) (f : D → Option Cell) (r : List V → Hp → VK → Prop) : Prop := ∀ (Z : Addr → Prop) (σ : L2.St) (S : S8) (x : D) (u : V) (c : Cell) (Q : VK), Rel X.K Z σ S → Rt (S.wd X.K Z) x u → f x = some c → FinF X.K Z S c Q → r [u] S.H Q
def op1F (f : D → Option Cell) (ma : M Bv) : M Cell := bnd ma fun x => bnd (rd x) fun dx => opt (f dx)
section
variable {X : Cx} {W : WX} {a b e : Expr} {pos : Pos}
theorem call1F_go {f : D → Option Cell} {r : List V → Hp → VK → Prop} {ma : M Bv} (hf : C1F X f r) {σ : L2.St} {H : Hp} {Q : VK} (q : tG X.K X.mg W (rF X.K) (op1F f ma) σ H Q) : tCB r (tCons (tG X.K X.mg W (rB X.K) ma) tNil) σ H Q := by
  obtain ⟨Z, S, rfl, R, hw⟩ := q
  refine ⟨Z, S, rfl, R, Wp.bnd hw fun x S1 R1 T1 h1 u r1 => ?_⟩
  obtain ⟨d, t1, h2⟩ := R1.rd_ok (S0 := S) r1 h1
  obtain ⟨z, e, h3⟩ := Wp.opt h2
  exact hf Z σ S1 d u z Q R1 t1 e (Wp.finF R1 T1 h3)
theorem fr_b1 {x : Str} {id : String} {p : Pos} {r : List V → Hp → VK → Prop} {f : D → Option Cell} {ma : M Bv} (hc : CallR X (.builtin id) r) (hf : C1F X f r) (hm : X.mg x = none) (hv : bootBuiltins x = some (.builtin id)) (ha : PBv X W a ma) (hg : Gl X x := by rfl)
    (hst : starEach [a] X.env = (false, eval a X.env) :: starEach [] X.env := by rfl) (hpl : (backTo pos (starEach [] X.env)).any (·.1) = false := by rfl) (hdb : (x == ("__debug__" : Str)) = false := by decide) (hn : x ≠ "__name__" := by decide) : PFr X W (.Call (.Name x p) [a] [] pos) (op1F f ma) :=
  PE.weak (pe_callB hc hg hm hv (pa_cons ha pa_nil hst) (by assumption) (by assumption) hst hpl) fun _ _ _ q => call1F_go hf q
theorem fr_t1 {x : Str} {T : String} {p : Pos} {r : List V → Hp → VK → Prop} {f : D → Option Cell} {ma : M Bv} (hc : CallR X (.type T) r) (hf : C1F X f r) (hm : X.mg x = none) (hv : bootBuiltins x = some (.type T)) (ha : PBv X W a ma) (hg : Gl X x := by rfl)
    (hst : starEach [a] X.env = (false, eval a X.env) :: starEach [] X.env := by rfl) (hpl : (backTo pos (starEach [] X.env)).any (·.1) = false := by rfl) (hdb : (x == ("__debug__" : Str)) = false := by decide) (hn : x ≠ "__name__" := by decide) : PFr X W (.Call (.Name x p) [a] [] pos) (op1F f ma) :=
  PE.weak (pe_callTy hc hg hm hv (pa_cons ha pa_nil hst) (by assumption) (by assumption) hst hpl) fun _ _ _ q => call1F_go hf q
def listD : D → Option Cell
  | .lst ds => some (.lst ds)
  | .wls ds => some (.lst ds)
  | .tup ds => some (.lst ds)
  | .dct kvs => some (.lst (kvs.map fun kv => dOf kv.1))
  | _ => none
def rListA (K : PySem.W.Frag) : List V → Hp → VK → Prop := fun xs H Q => (∃ p ys, xs = [.ref p] ∧ (SqL K H p ys ∨ SqT K H p ys) ∧ ∀ l, H l = none → Q (.ref l) (upd H l (.lst ys))) ∨
  ∃ (a : Addr) (kvs : List (Key × V)), xs = [.ref a] ∧ Rd H a (.dK kvs) ∧ ∀ p, H p = none → Q (.ref p) (upd H p (.lst (kvs.map fun kv => kV kv.1)))
theorem call_listA (hc : X.calm = true) : CallR X (.type "list") (rListA X.K) := CallR.or call_list_of (call_listD hc)
theorem rpL_keys {w : Wd} : ∀ {ds : List (Key × D)} {vs : List (Key × V)}, RpK w ds vs → RpL w (ds.map fun kv => dOf kv.1) (vs.map fun kv => kV kv.1)
  | [], _, h => by rw [h.of_nil]; exact .nil
  | (k, d) :: ds, _, h => by
    obtain ⟨x, xs, rfl, h1, h2⟩ := h.of_cons
    refine .cons ?_ (rpL_keys h2)
    cases k with
    | inl i => exact rp_int
    | inr s => exact rp_str
theorem c1_list : C1F X listD (rListA X.K) := by
  intro Z σ S x u c Q R t e k
  cases x with
  | lst ds =>
    cases e
    obtain ⟨a, xs, rfl, h1, r1⟩ := t
    exact .inl ⟨a, xs, rfl, .inl (.inl (.inl h1)), k.lst R r1⟩
  | wls ds =>
    cases e
    obtain ⟨a, xs, rfl, h1, r1⟩ := t
    exact .inl ⟨a, xs, rfl, .inl h1.sq, k.lst R r1⟩
  | tup ds =>
    cases e
    obtain ⟨a, xs, rfl, h1, r1⟩ := t
    exact .inl ⟨a, xs, rfl, .inr h1.sq, k.lst R r1⟩
  | dct kvs =>
    cases e
    obtain ⟨a, xs, rfl, h1, r1⟩ := t
    exact .inr ⟨a, xs, rfl, h1, k.lst R (rpL_keys r1)⟩
  | _ => cases e
/-! ### list(range(..)), tuple(range(..)) -/
def rgL (a b : Int) : List D := (List.range (b - a).toNat).map fun i => D.int (a + (i : Nat))
theorem rpL_rg {w : Wd} (a b : Int) : RpL w (rgL a b) (rgV a b) := by
  unfold rgL rgV
  have h : ∀ l : List Nat, RpL w (l.map fun i => D.int (a + (i : Nat))) (l.map fun i => V.int (a + (i : Nat))) := by
    intro l
    induction l with
    | nil => exact .nil
    | cons x xs ih => exact .cons rp_int ih
  exact h _
def rgOk (a b : Int) : Bool := decide (-(2 ^ 40) ≤ a) && decide (a ≤ 2 ^ 40) && decide (b ≤ a + 2 ^ 24) && decide (-(2 ^ 40) ≤ b)
theorem rgOk_ok {a b : Int} (h : rgOk a b = true) : RgOk a b := by
  unfold rgOk at h
  simp only [Bool.and_eq_true, decide_eq_true_eq] at h
  refine ⟨?_, ?_, ?_, ?_, ?_⟩ <;> omega
def rangeD : D → D → Option (Int × Int)
  | .int a, .int b => if rgOk a b = true then some (a, b) else none
  | _, _ => none
theorem rangeD_int (a b : Int) : rangeD (.int a) (.int b) = if rgOk a b = true then some (a, b) else none := rfl
def rg1M (mb : M Bv) : M (Int × Int) := bnd mb fun y => bnd (rd y) fun dy => opt (rangeD (.int 0) dy)
def rg2M (ma mb : M Bv) : M (Int × Int) := bnd ma fun x => bnd mb fun y => bnd (rd x) fun dx => bnd (rd y) fun dy => opt (rangeD dx dy)
theorem fr_listRg1 {p p2 pos2 : Pos} {ma : M Bv} (hc : X.calm = true) (hm1 : X.mg "list" = none) (hm2 : X.mg "range" = none) (ha : PBv X W a ma) (hg1 : Gl X "list" := by rfl) (hg2 : Gl X "range" := by rfl)
    (n1 : starEach [a] X.env = (false, eval a X.env) :: starEach [] X.env := by rfl) (n2 : starEach [.Call (.Name "range" p2) [a] [] pos2] X.env = (false, eval (.Call (.Name "range" p2) [a] [] pos2) X.env) :: starEach [] X.env := by rfl) :
    PFr X W (.Call (.Name "list" p) [.Call (.Name "range" p2) [a] [] pos2] [] pos) (bnd (rg1M ma) fun r => rt (.lst (rgL r.1 r.2))) := by
  refine PE.weak (pe_listRg hc hg1 hm1 (prg_1 hg2 hm2 ha n1) n2) fun σ H Q q => ?_
  obtain ⟨Z, S, rfl, R, hw⟩ := q
  refine ⟨Z, S, rfl, R, ?_⟩
  have hw' : Wp X.K Z σ S (bnd ma (fun y => bnd (rd y) fun dy => bnd (opt (rangeD (.int 0) dy)) fun r => rt (Cell.lst (rgL r.1 r.2))) S.env S.st) (fun a S' => ∀ v, rF X.K Z σ S S' a v → Q v S'.H) (Qx X.K X.mg W Z σ) := by
    have e : (bnd (rg1M ma) fun r => rt (Cell.lst (rgL r.1 r.2))) S.env S.st = bnd ma (fun y => bnd (rd y) fun dy => bnd (opt (rangeD (.int 0) dy)) fun r => rt (Cell.lst (rgL r.1 r.2))) S.env S.st := by
      show ((ma S.env S.st).andThen _).andThen _ = (ma S.env S.st).andThen _
      cases ma S.env S.st with
      | ok a e s =>
        show ((rd a e s).andThen _).andThen _ = (rd a e s).andThen _
        cases rd a e s <;> rfl
      | exc x e s => rfl
      | bad => rfl
    rw [← e]; exact hw
  refine Wp.bnd hw' fun x S1 R1 T1 h1 u r1 => ?_
  obtain ⟨d, t1, h2⟩ := R1.rd_ok (S0 := S) r1 h1
  rw [bnd_app] at h2
  cases d with
  | int n =>
    cases q : rgOk 0 n with
    | false =>
      have : rangeD (.int 0) (.int n) = none := by
        rw [rangeD_int, q]; rfl
      rw [this] at h2; exact h2.elim
    | true =>
      have : rangeD (.int 0) (.int n) = some (0, n) := by
        rw [rangeD_int, q]; rfl
      rw [this] at h2
      exact ⟨n, t1, rgOk_ok q, (Wp.finF R1 T1 h2).lst R1 (rpL_rg 0 n)⟩
  | _ => exact h2.elim
theorem ev_tupRg {p p2 pos2 : Pos} {ma : M Bv} (hc : X.calm = true) (hm1 : X.mg "tuple" = none) (hm2 : X.mg "range" = none) (ha : PBv X W a ma) (hg1 : Gl X "tuple" := by rfl) (hg2 : Gl X "range" := by rfl)
    (n1 : starEach [a] X.env = (false, eval a X.env) :: starEach [] X.env := by rfl) (n2 : starEach [.Call (.Name "range" p2) [a] [] pos2] X.env = (false, eval (.Call (.Name "range" p2) [a] [] pos2) X.env) :: starEach [] X.env := by rfl) :
    PEv X W (.Call (.Name "tuple" p) [.Call (.Name "range" p2) [a] [] pos2] [] pos) (bnd ma fun y => bnd (rd y) fun dy => bnd (opt (rangeD (.int 0) dy)) fun r => rt (.tup (rgL r.1 r.2))) := by
  refine PE.weak (pe_tupRg hc hg1 hm1 (prg_1 hg2 hm2 ha n1) n2) fun σ H Q q => ?_
  obtain ⟨Z, S, rfl, R, hw⟩ := q
  refine ⟨Z, S, rfl, R, Wp.bnd hw fun x S1 R1 T1 h1 u r1 => ?_⟩
  obtain ⟨d, t1, h2⟩ := R1.rd_ok (S0 := S) r1 h1
  rw [bnd_app] at h2
  cases d with
  | int n =>
    cases q : rgOk 0 n with
    | false =>
      have : rangeD (.int 0) (.int n) = none := by
        rw [rangeD_int, q]; rfl
      rw [this] at h2; exact h2.elim
    | true =>
      have : rangeD (.int 0) (.int n) = some (0, n) := by
        rw [rangeD_int, q]; rfl
      rw [this] at h2
      exact ⟨n, t1, rgOk_ok q, (Wp.fin R1 h2).tup R1 (rpL_rg 0 n)⟩
  | _ => exact h2.elim
end
end QB

/-! The pure layer, part 10: sources walked, statements. -/
namespace QB
open PySem PySem.Spec PyProof.Rows L2

/-! ### sources -/
inductive Src where
  | seq (d : D) | rng (a : Int) (n : Nat) | enum (d : D) | zip (d e : D) | keys (kvs : List (Key × D))
  | dn (a : Int) (n : Nat)
/-- is it a tuple, its items -/
def isTup : D → Bool
  | .tup _ => true
  | _ => false
def topD : D → Store → Option (List D)
  | .lst ds, _ => some ds
  | .wls ds, _ => some ds
  | .tup ds, _ => some ds
  | .ref k, s => match s[k]? with
    | some (.lst ds) => some ds
    | _ => none
  | _, _ => none
def enumL : Nat → List D → List D
  | _, [] => []
  | i, d :: ds => .tup [.int (i : Nat), d] :: enumL (i + 1) ds
def zipL (xs ys : List D) : List D := List.zipWith (fun x y => .tup [x, y]) xs ys
def rngL (a : Int) (n : Nat) : List D := (List.range n).map fun i => D.int (a + (i : Nat))
def Src.items : Src → Store → Option (List D)
  | .seq d, s => topD d s
  | .rng a n, _ => some (rngL a n)
  | .enum d, s => (topD d s).map (enumL 0)
  | .zip d e, s => (topD d s).bind fun xs => (topD e s).map fun ys => zipL xs ys
  | .keys kvs, _ => some (kvs.map fun kv => dOf kv.1)
  | .dn a n, _ => some ((List.range n).map fun i => D.int (a - (i : Nat)))
theorem enumL_get : ∀ (ds : List D) (j i : Nat), (enumL j ds)[i]? = (ds[i]?).map fun d => .tup [.int ((j + i : Nat) : Int), d]
  | [], j, i => by simp [enumL]
  | d :: ds, j, 0 => by simp [enumL]
  | d :: ds, j, i + 1 => by
    show (enumL (j + 1) ds)[i]? = ds[i]?.map _
    rw [enumL_get ds (j + 1) i, show j + 1 + i = j + (i + 1) by omega]
/-- what the iterator J yields is what the source's items say, in any later state -/
def ItOk (K : PySem.W.Frag) (Z : Addr → Prop) (sr : Src) (S : S8) (J : It) : Prop :=
  ∀ (Z' : Addr → Prop) (σ : L2.St) (S2 : S8), (S.wd K Z).Le (S2.wd K Z') → Rel K Z' σ S2 → ∀ (l : List D), sr.items S2.st = some l → ∀ i : Nat,
    (l[i]? = none → J.stop i S2.H) ∧ ∀ d, l[i]? = some d → J.go i S2.H ∧ ∀ x H', J.yld i S2.H x H' → (∀ a o, S2.H a = some o → H' a = some o) ∧ Rp ((S2.up H').wd K Z') d x
def tGI (K : PySem.W.Frag) (mg : Str → Option Value) (W : WX) (m : M Src) : TI := fun σ H R => ∃ Z S, S.H = H ∧ Rel K Z σ S ∧
  Wp K Z σ S (m S.env S.st) (fun sr S' => ∀ J, ItOk K Z sr S' J → R J S'.H) (Qx K mg W Z σ)
def PIt (X : Cx) (W : WX) (tg it : Expr) (m : M Src) : Prop := PI X tg it (tGI X.K X.mg W m)
theorem PI.weak {X : Cx} {tg e : Expr} {t t' : TI} (h : PI X tg e t) (k : ∀ σ H Q, t' σ H Q → t σ H Q) : PI X tg e t' := ⟨fun pins s σ H Q I q => h.run pins s σ H Q I (k σ H Q q)⟩
section
variable {K : PySem.W.Frag} {Z : Addr → Prop} {σ : L2.St} {S : S8}
theorem SqL.uniq {H : Hp} {X : Cx} {pins} {s : Shared} (I : Inv X pins σ H s) {a : Addr} {xs ys : List V} (h : SqL X.K H a xs) (h' : SqL X.K H a ys) : xs = ys := I.list_inj h h'
/-- a sequence read at its top -/
theorem Rel.top (R : Rel K Z σ S) {d : D} {v : V} {ds : List D} (r : Rp (S.wd K Z) d v) (h : topD d S.st = some ds) :
    ∃ a xs, v = .ref a ∧ RpL (S.wd K Z) ds xs ∧ (isTup d = true → SqT K S.H a xs) ∧ (isTup d = false → SqL K S.H a xs) := by
  cases d with
  | lst l =>
    cases h; unfold Rp at r; obtain ⟨a, xs, e, h1, h2⟩ := r
    exact ⟨a, xs, e, h2, (fun z => by cases z), fun _ => h1.sq⟩
  | wls l =>
    cases h; unfold Rp at r; obtain ⟨a, xs, e, h1, h2⟩ := r
    exact ⟨a, xs, e, h2, (fun z => by cases z), fun _ => h1.sq⟩
  | tup l =>
    cases h; unfold Rp at r; obtain ⟨a, xs, e, h1, h2⟩ := r
    exact ⟨a, xs, e, h2, (fun _ => h1.sq), fun z => by cases z⟩
  | ref k =>
    have h' : (match S.st[k]? with | some (.lst ds) => some ds | _ => none) = some ds := h
    cases e1 : S.st[k]? with
    | none => rw [e1] at h'; cases h'
    | some c =>
      rw [e1] at h'
      cases c with
      | dct _ => cases h'
      | obj _ _ => cases h'
      | fdc _ => cases h'
      | lst l =>
        cases h'
        unfold Rp at r
        obtain ⟨xs, e2, r2⟩ := R.cell (.inr k) _ e1
        exact ⟨_, xs, r.2, r2, (fun z => by cases z), fun _ => .inl (.inl e2)⟩
  | _ => cases h
end
theorem RpL.get_of {w : Wd} {ds : List D} {xs : List V} {i : Nat} {d : D} {x : V} (r : RpL w ds xs) (h : ds[i]? = some d) (hx : xs[i]? = some x) : Rp w d x := by
  obtain ⟨v, e, q⟩ := r.get h
  rw [hx] at e; cases e; exact q
section
variable {K : PySem.W.Frag} {Z : Addr → Prop} {σ : L2.St} {S : S8}
theorem it_lst {d : D} {a : Addr} (r : Rp (S.wd K Z) d (.ref a)) (ht : isTup d = false) : ItOk K Z (.seq d) S (Itl K a) := by
  intro Z' σ2 S2 le R2 l hl i
  obtain ⟨a', xs, e, rl, _, h2⟩ := R2.top (le.rp _ _ r) hl
  cases e
  have sq := h2 ht
  refine ⟨fun hn => ⟨xs, sq, by rw [rl.length]; exact List.getElem?_eq_none_iff.mp hn⟩, fun x hx => ?_⟩
  obtain ⟨v, hv, _⟩ := rl.get hx
  refine ⟨⟨xs, v, sq, hv⟩, ?_⟩
  rintro y H' ⟨rfl, hy⟩
  exact ⟨fun _ _ e => e, rl.get_of hx (hy xs sq)⟩
theorem it_tup {d : D} {a : Addr} (r : Rp (S.wd K Z) d (.ref a)) (ht : isTup d = true) : ItOk K Z (.seq d) S (Itt K a) := by
  intro Z' σ2 S2 le R2 l hl i
  obtain ⟨a', xs, e, rl, h2, _⟩ := R2.top (le.rp _ _ r) hl
  cases e
  have sq := h2 ht
  refine ⟨fun hn => ⟨xs, sq, by rw [rl.length]; exact List.getElem?_eq_none_iff.mp hn⟩, fun x hx => ?_⟩
  obtain ⟨v, hv, _⟩ := rl.get hx
  refine ⟨⟨xs, v, sq, hv⟩, ?_⟩
  rintro y H' ⟨rfl, hy⟩
  exact ⟨fun _ _ e => e, rl.get_of hx (hy xs sq)⟩
theorem rngL_get (a : Int) (n i : Nat) : (rngL a n)[i]? = if i < n then some (.int (a + (i : Nat))) else none := by
  unfold rngL
  by_cases h : i < n
  · rw [if_pos h]; simp [h]
  · rw [if_neg h]; simp; omega
theorem it_rng {lo : Int} {n : Nat} : ItOk K Z (.rng lo n) S (Itr lo n) := by
  intro Z' σ2 S2 le R2 l hl i
  cases hl
  rw [rngL_get]
  by_cases h : i < n
  · rw [if_pos h]
    refine ⟨(fun z => by cases z), fun d hd => ⟨h, ?_⟩⟩
    cases hd
    rintro y H' ⟨rfl, rfl⟩
    exact ⟨fun _ _ e => e, rp_int⟩
  · rw [if_neg h]
    exact ⟨fun _ => Nat.le_of_not_lt h, fun d hd => by cases hd⟩
theorem it_enum {d : D} {a : Addr} (r : Rp (S.wd K Z) d (.ref a)) (ht : isTup d = false) : ItOk K Z (.enum d) S (Ite K a) := by
  intro Z' σ2 S2 le R2 l hl i
  have hl' : (topD d S2.st).map (enumL 0) = some l := hl
  cases e0 : topD d S2.st with
  | none => rw [e0] at hl'; cases hl'
  | some ds =>
    rw [e0] at hl'; cases hl'
    obtain ⟨a', xs, e, rl, _, h2⟩ := R2.top (le.rp _ _ r) e0
    cases e
    have sq := h2 ht
    rw [enumL_get]
    cases e1 : ds[i]? with
    | none => exact ⟨fun _ => ⟨xs, sq, by rw [rl.length]; exact List.getElem?_eq_none_iff.mp e1⟩, fun x hx => by cases hx⟩
    | some y =>
      refine ⟨(fun z => by cases z), fun x hx => ?_⟩
      obtain ⟨v, hv, _⟩ := rl.get e1
      refine ⟨⟨xs, v, sq, hv⟩, ?_⟩
      cases hx
      rintro y H' ⟨T, x, rfl, hT, rfl, hy⟩
      refine ⟨ext_new hT, R2.newTup hT (.cons ?_ (.cons (rl.get_of e1 (hy xs sq)) .nil))⟩
      rw [Nat.zero_add]; exact rp_int
theorem zipL_get (xs ys : List D) (i : Nat) : (zipL xs ys)[i]? = match xs[i]?, ys[i]? with
    | some x, some y => some (.tup [x, y])
    | _, _ => none := by
  unfold zipL
  rw [List.getElem?_zipWith]
  cases xs[i]? <;> cases ys[i]? <;> rfl
theorem it_zip {d e : D} {a b : Addr} (r : Rp (S.wd K Z) d (.ref a)) (r' : Rp (S.wd K Z) e (.ref b)) (ht : isTup d = false) (ht' : isTup e = false) : ItOk K Z (.zip d e) S (Itz K a b) := by
  intro Z' σ2 S2 le R2 l hl i
  have hl' : ((topD d S2.st).bind fun xs => (topD e S2.st).map fun ys => zipL xs ys) = some l := hl
  cases e0 : topD d S2.st with
  | none => rw [e0] at hl'; cases hl'
  | some ds =>
    cases e1 : topD e S2.st with
    | none => rw [e0, e1] at hl'; cases hl'
    | some es =>
      rw [e0, e1] at hl'; cases hl'
      obtain ⟨a', xs, ea, rl, _, h2⟩ := R2.top (le.rp _ _ r) e0
      cases ea
      obtain ⟨b', ys, eb, rl', _, h3⟩ := R2.top (le.rp _ _ r') e1
      cases eb
      have sq := h2 ht
      have sq' := h3 ht'
      rw [zipL_get]
      cases e2 : ds[i]? with
      | none => exact ⟨fun _ => ⟨xs, ys, sq, sq', .inl (by rw [rl.length]; exact List.getElem?_eq_none_iff.mp e2)⟩, fun x hx => by cases hx⟩
      | some x =>
        cases e3 : es[i]? with
        | none => exact ⟨fun _ => ⟨xs, ys, sq, sq', .inr (by rw [rl'.length]; exact List.getElem?_eq_none_iff.mp e3)⟩, fun x hx => by cases hx⟩
        | some y =>
          refine ⟨(fun z => by cases z), fun x hx => ?_⟩
          obtain ⟨v, hv, _⟩ := rl.get e2
          obtain ⟨v', hv', _⟩ := rl'.get e3
          refine ⟨⟨xs, ys, v, v', sq, sq', hv, hv'⟩, ?_⟩
          cases hx
          rintro y H' ⟨T, x, z, rfl, hT, rfl, hx, hy⟩
          exact ⟨ext_new hT, R2.newTup hT (.cons (rl.get_of e2 (hx xs sq)) (.cons (rl'.get_of e3 (hy ys sq')) .nil))⟩
theorem it_zipT {d e : D} {a b : Addr} (r : Rp (S.wd K Z) d (.ref a)) (r' : Rp (S.wd K Z) e (.ref b)) (ht : isTup d = true) (ht' : isTup e = true) : ItOk K Z (.zip d e) S (RZ.ItzT K a b) := by
  intro Z' σ2 S2 le R2 l hl i
  have hl' : ((topD d S2.st).bind fun xs => (topD e S2.st).map fun ys => zipL xs ys) = some l := hl
  cases e0 : topD d S2.st with
  | none => rw [e0] at hl'; cases hl'
  | some ds =>
    cases e1 : topD e S2.st with
    | none => rw [e0, e1] at hl'; cases hl'
    | some es =>
      rw [e0, e1] at hl'; cases hl'
      obtain ⟨a', xs, ea, rl, h2, _⟩ := R2.top (le.rp _ _ r) e0
      cases ea
      obtain ⟨b', ys, eb, rl', h3, _⟩ := R2.top (le.rp _ _ r') e1
      cases eb
      have sq := h2 ht
      have sq' := h3 ht'
      rw [zipL_get]
      cases e2 : ds[i]? with
      | none => exact ⟨fun _ => ⟨xs, ys, sq, sq', .inl (by rw [rl.length]; exact List.getElem?_eq_none_iff.mp e2)⟩, fun x hx => by cases hx⟩
      | some x =>
        cases e3 : es[i]? with
        | none => exact ⟨fun _ => ⟨xs, ys, sq, sq', .inr (by rw [rl'.length]; exact List.getElem?_eq_none_iff.mp e3)⟩, fun x hx => by cases hx⟩
        | some y =>
          refine ⟨(fun z => by cases z), fun x hx => ?_⟩
          obtain ⟨v, hv, _⟩ := rl.get e2
          obtain ⟨v', hv', _⟩ := rl'.get e3
          refine ⟨⟨xs, ys, v, v', sq, sq', hv, hv'⟩, ?_⟩
          cases hx
          rintro y H' ⟨T, x, z, rfl, hT, rfl, hx, hy⟩
          exact ⟨ext_new hT, R2.newTup hT (.cons (rl.get_of e2 (hx xs sq)) (.cons (rl'.get_of e3 (hy ys sq')) .nil))⟩
theorem rpK_get {w : Wd} : ∀ {ds : List (Key × D)} {vs : List (Key × V)} {i : Nat}, RpK w ds vs → vs.length = ds.length ∧ ∀ kd, ds[i]? = some kd → ∃ v, vs[i]? = some (kd.1, v)
  | [], _, i, h => by rw [h.of_nil]; exact ⟨rfl, fun kd q => by simp at q⟩
  | (k, d) :: ds, _, 0, h => by
    obtain ⟨x, xs, rfl, h1, h2⟩ := h.of_cons
    exact ⟨by simp [(rpK_get (i := 0) h2).1], fun kd q => by simp at q; subst q; exact ⟨x, rfl⟩⟩
  | (k, d) :: ds, _, i + 1, h => by
    obtain ⟨x, xs, rfl, h1, h2⟩ := h.of_cons
    obtain ⟨l, g⟩ := rpK_get (i := i) h2
    exact ⟨by simp [l], fun kd q => by
      obtain ⟨v, e⟩ := g kd (by simpa using q)
      exact ⟨v, by simpa using e⟩⟩
theorem it_keys {kvs : List (Key × D)} {a : Addr} {o : Obj} {es : List (Key × V)} (h : S.H a = some (.frz o (.dK es))) (r : RpK (S.wd K Z) kvs es) : ItOk K Z (.keys kvs) S (Itk a o es) := by
  intro Z' σ2 S2 le R2 l hl i
  cases hl
  have h2 : S2.H a = some (.frz o (.dK es)) := le.frz a _ _ h
  obtain ⟨hlen, g⟩ := rpK_get (i := i) r
  rw [List.getElem?_map]
  cases e1 : kvs[i]? with
  | none => exact ⟨fun _ => ⟨h2, by rw [hlen]; exact List.getElem?_eq_none_iff.mp e1⟩, fun x hx => by cases hx⟩
  | some kd =>
    obtain ⟨v, hv⟩ := g kd e1
    refine ⟨(fun z => by cases z), fun x hx => ⟨⟨h2, ?_⟩, ?_⟩⟩
    · exact (List.getElem?_eq_some_iff.mp hv).1
    · cases hx
      rintro y H' ⟨rfl, k, u, hk, rfl⟩
      rw [hv] at hk; cases hk
      refine ⟨fun _ _ e => e, ?_⟩
      show Rp _ (dOf kd.1) (kV kd.1)
      cases kd.1 with
      | inl i => exact rp_int
      | inr z => exact rp_str
end
/-! ### the sources' rules -/
section
variable {X : Cx} {W : WX} {tg a b : Expr} {pos p : Pos}
theorem pi_any {l : Expr} {tl : TE} (hl : PE X l tl) : PI X tg l (fun σ H R => tl σ H fun x H1 => ∃ a, x = .ref a ∧ (((∃ xs, SqL X.K H1 a xs) ∧ R (Itl X.K a) H1) ∨ ((∃ xs, SqT X.K H1 a xs) ∧ R (Itt X.K a) H1))) := by
  refine ⟨fun pins s σ H R I h => ?_⟩
  refine thn (hl.run pins s σ H _ I h) fun v s1 ⟨x, H1, I1, r1, q1⟩ => ?_
  obtain ⟨a, e, q⟩ := q1
  subst e
  cases r1
  rcases q with ⟨⟨xs, hq⟩, q⟩ | ⟨⟨xs, hq⟩, q⟩
  · obtain ⟨its, rv, p, hz⟩ := I1.list hq
    refine wpAny_pyIter_list p.isList ?_
    refine ⟨s1.heap.objs.size, [s1.heap.objs.size], _, _, H1, rfl, I1.kept (t' := s1.toks) fun b o e => Heap.get?_push_of_some _ e, turn_list a _, ⟨_, Heap.get?_push_size _ rfl, rfl, rfl⟩, fun b hb => ?_, q⟩
    have e : b = s1.heap.objs.size := by simpa using hb
    subst e
    exact I1.fpOk (Nat.le_refl _) (I1.hok.fresh (Nat.le_refl _))
  · obtain ⟨its, rv, p, hz⟩ := I1.tuple hq
    refine wpAny_pyIter_tuple (show s1.heap.IsTuple a its.toArray from p) ?_
    refine ⟨s1.heap.objs.size, [s1.heap.objs.size], _, _, H1, rfl, I1.kept (t' := s1.toks) fun b o e => Heap.get?_push_of_some _ e, turn_tuple a _, ⟨_, Heap.get?_push_size _ rfl, rfl, rfl⟩, fun b hb => ?_, q⟩
    have e : b = s1.heap.objs.size := by simpa using hb
    subst e
    exact I1.fpOk (Nat.le_refl _) (I1.hok.fresh (Nat.le_refl _))
def seqM (m : M D) : M Src := bnd m fun d => fun e s => match topD d s with
  | some _ => .ok (.seq d) e s
  | none => .bad
theorem it_seq {m : M D} (h : PEv X W a m) : PIt X W tg a (seqM m) := by
  refine PI.weak (pi_any h) fun σ H Q q => ?_
  obtain ⟨Z, S, rfl, R, hw⟩ := q
  refine ⟨Z, S, rfl, R, Wp.bnd hw fun d S1 R1 T1 h1 v r1 => ?_⟩
  cases e1 : topD d S1.st with
  | none => rw [e1] at h1; exact h1.elim
  | some ds =>
    rw [e1] at h1
    obtain ⟨a, xs, e, rl, ht, hl⟩ := R1.top r1 e1
    subst e
    refine ⟨a, rfl, ?_⟩
    cases e2 : isTup d with
    | false => exact .inl ⟨⟨xs, hl e2⟩, h1.here R1 _ (it_lst r1 e2)⟩
    | true => exact .inr ⟨⟨xs, ht e2⟩, h1.here R1 _ (it_tup r1 e2)⟩
/-- told so that the kernel stops at once where the number is not known -/
def rngOk (n : Int) : Bool := Nat.ble n.toNat 4611686018427387903 && Nat.ble (-n).toNat 4611686018427387903
theorem rngOk_ok {n : Int} (h : rngOk n = true) : -(2 ^ 62) ≤ n ∧ n < 2 ^ 62 := by
  unfold rngOk at h
  rw [Bool.and_eq_true] at h
  have h1 := Nat.le_of_ble_eq_true h.1
  have h2 := Nat.le_of_ble_eq_true h.2
  omega
def rg1S (m : M (List D)) : M Src := bnd m fun ds => match ds with
  | [.int n] => chk (rngOk n) (rt (.rng 0 n.toNat))
  | _ => fail
theorem it_rg1 {m : M (List D)} (hg : Gl X "range") (hm : X.mg "range" = none) (h : PAv X W [a] m) (hs : starEach [a] X.env = [(false, eval a X.env)] := by rfl) : PIt X W tg (.Call (.Name "range" p) [a] [] pos) (rg1S m) := by
  refine PI.weak (pi_range1 hg hm h hs) fun σ H Q q => ?_
  obtain ⟨Z, S, rfl, R, hw⟩ := q
  refine ⟨Z, S, rfl, R, Wp.bnd hw fun ds S1 R1 T1 h1 vs r1 => ?_⟩
  split at h1
  · rename_i n
    obtain ⟨hb, h2⟩ := h1.chk
    have hb' := rngOk_ok hb
    exact ⟨n, r1.of_ints (ns := [n]), hb'.1, hb'.2, h2.here R1 _ it_rng⟩
  · exact h1.elim
def rg2S (m : M (List D)) : M Src := bnd m fun ds => match ds with
  | [.int i, .int j] => chk (rngOk i && rngOk j) (rt (.rng i (j - i).toNat))
  | _ => fail
theorem it_rg2 {m : M (List D)} (hg : Gl X "range") (hm : X.mg "range" = none) (h : PAv X W [a, b] m) (hs : starEach [a, b] X.env = [(false, eval a X.env), (false, eval b X.env)] := by rfl) (hs2 : starEach [b] X.env = [(false, eval b X.env)] := by rfl) : PIt X W tg (.Call (.Name "range" p) [a, b] [] pos) (rg2S m) := by
  refine PI.weak (pi_range2 hg hm h hs hs2) fun σ H Q q => ?_
  obtain ⟨Z, S, rfl, R, hw⟩ := q
  refine ⟨Z, S, rfl, R, Wp.bnd hw fun ds S1 R1 T1 h1 vs r1 => ?_⟩
  split at h1
  · rename_i i j
    obtain ⟨hb, h2⟩ := h1.chk
    have hb1 := rngOk_ok (Bool.and_eq_true_iff.mp hb).1
    have hb2 := rngOk_ok (Bool.and_eq_true_iff.mp hb).2
    have hb' := (⟨hb1.1, hb1.2, hb2.1, hb2.2⟩ : -(2 ^ 62) ≤ i ∧ i < 2 ^ 62 ∧ -(2 ^ 62) ≤ j ∧ j < 2 ^ 62)
    exact ⟨i, j, r1.of_ints (ns := [i, j]), hb', h2.here R1 _ it_rng⟩
  · exact h1.elim
def enumM (m : M (List D)) : M Src := bnd m fun ds => fun e s => match ds with
  | [d] => match isTup d, topD d s with
    | false, some _ => .ok (.enum d) e s
    | _, _ => .bad
  | _ => .bad
theorem it_enumr {m : M (List D)} {tpos : Pos} {elts : List Expr} {kk : Nat} (hg : Gl X "enumerate") (hm : X.mg "enumerate" = none) (h : PAv X W [a] m) (hs : starEach [a] X.env = [(false, eval a X.env)] := by rfl) : PIt X W (.Tuple elts kk tpos) (.Call (.Name "enumerate" p) [a] [] pos) (enumM m) := by
  refine PI.weak (pi_enum hg hm h hs) fun σ H Q q => ?_
  obtain ⟨Z, S, rfl, R, hw⟩ := q
  refine ⟨Z, S, rfl, R, Wp.bnd hw fun ds S1 R1 T1 h1 vs r1 => ?_⟩
  match ds, h1, r1 with
  | [d], h1, r1 =>
    obtain ⟨v, vs', rfl, r2, r3⟩ := r1.of_cons
    rw [r3.of_nil]
    cases e2 : isTup d with
    | true => dsimp only at h1; rw [e2] at h1; exact h1.elim
    | false =>
      dsimp only at h1
      rw [e2] at h1
      cases e1 : topD d S1.st with
      | none => rw [e1] at h1; exact h1.elim
      | some ds =>
        rw [e1] at h1
        obtain ⟨a, xs, e, rl, ht, hl⟩ := R1.top r2 e1
        subst e
        exact ⟨a, xs, rfl, hl e2, h1.here R1 _ (it_enum r2 e2)⟩
  | [], h1, _ => exact h1.elim
  | _ :: _ :: _, h1, _ => exact h1.elim
def zipM (m : M (List D)) : M Src := bnd m fun ds => fun e s => match ds with
  | [x, y] => match (isTup x == isTup y), topD x s, topD y s with
    | true, some _, some _ => .ok (.zip x y) e s
    | _, _, _ => .bad
  | _ => .bad
theorem it_zipr {m : M (List D)} {tpos : Pos} {elts : List Expr} {kk : Nat} (hg : Gl X "zip") (hm : X.mg "zip" = none) (h : PAv X W [a, b] m)
    (hs : starEach [a, b] X.env = (false, eval a X.env) :: starEach [b] X.env := by rfl) (hpl : (backTo pos (starEach [b] X.env)).any (·.1) = false := by rfl) : PIt X W (.Tuple elts kk tpos) (.Call (.Name "zip" p) [a, b] [] pos) (zipM m) := by
  refine PI.weak (RZ.pi_zipA hg hm h hs hpl) fun σ H Q q => ?_
  obtain ⟨Z, S, rfl, R, hw⟩ := q
  refine ⟨Z, S, rfl, R, Wp.bnd hw fun ds S1 R1 T1 h1 vs r1 => ?_⟩
  match ds, h1, r1 with
  | [x, y], h1, r1 =>
    obtain ⟨v, vs', rfl, r2, r3⟩ := r1.of_cons
    obtain ⟨v2, vs2, rfl, r4, r5⟩ := r3.of_cons
    rw [r5.of_nil]
    dsimp only at h1
    cases e1 : topD x S1.st with
    | none => rw [e1] at h1; split at h1 <;> first | contradiction | exact h1.elim
    | some ds =>
      cases e2 : topD y S1.st with
      | none => rw [e1, e2] at h1; split at h1 <;> first | contradiction | exact h1.elim
      | some es =>
        rw [e1, e2] at h1
        obtain ⟨a, xs, e, rl, ht, hl⟩ := R1.top r2 e1
        subst e
        obtain ⟨b, ys, e, rl', ht', hl'⟩ := R1.top r4 e2
        subst e
        cases t1 : isTup x <;> cases t2 : isTup y <;> rw [t1, t2] at h1
        · exact ⟨a, b, xs, ys, rfl, .inl ⟨hl t1, hl' t2, h1.here R1 _ (it_zip r2 r4 t1 t2)⟩⟩
        · exact h1.elim
        · exact h1.elim
        · exact ⟨a, b, xs, ys, rfl, .inr ⟨ht t1, ht' t2, h1.here R1 _ (it_zipT r2 r4 t1 t2)⟩⟩
  | [], h1, _ => exact h1.elim
  | [_], h1, _ => exact h1.elim
  | _ :: _ :: _ :: _, h1, _ => exact h1.elim
def keysM (m : M D) : M Src := bnd m fun d => match d with
  | .dct kvs => rt (.keys kvs)
  | _ => fail
theorem it_keysr {m : M D} (h : PEv X W a m) : PIt X W tg a (keysM m) := by
  refine PI.weak (pi_keys h) fun σ H Q q => ?_
  obtain ⟨Z, S, rfl, R, hw⟩ := q
  refine ⟨Z, S, rfl, R, Wp.bnd hw fun d S1 R1 T1 h1 v r1 => ?_⟩
  split at h1
  · rename_i kvs
    have r1' : Rp (S1.wd X.K Z) (.dct kvs) v := r1
    unfold Rp at r1'
    obtain ⟨a, es, rfl, ⟨o, ho⟩, rk⟩ := r1'
    exact ⟨a, o, rfl, .inl ⟨es, ho, h1.here R1 _ (it_keys ho rk)⟩⟩
  · exact h1.elim
end
end QB

/-! The pure layer, part 11: statements. -/
namespace QB
open PySem PySem.Spec PyProof.Rows L2

inductive SR where
  | nx (e : PEnv) (s : Store) | ret (d : D) (e : PEnv) (s : Store) | bk (e : PEnv) (s : Store) | ct (e : PEnv) (s : Store) | exc (x : Exn) (e : PEnv) (s : Store) | bad
abbrev SM := PEnv → Store → SR
def Res.toS {α : Type} (r : Res α) (f : α → SM) : SR := match r with
  | .ok a e s => f a e s
  | .exc x e s => .exc x e s
  | .bad => .bad
def SR.andThen (r : SR) (f : SM) : SR := match r with
  | .nx e s => f e s
  | r => r
section
variable {α : Type} {f : α → SM} {g : SM} {a : α} {e : PEnv} {s : Store} {x : Exn} {d : D}
@[simp] theorem toS_ok : (Res.ok a e s).toS f = f a e s := rfl
@[simp] theorem toS_exc : (Res.exc x e s : Res α).toS f = .exc x e s := rfl
@[simp] theorem toS_bad : (Res.bad : Res α).toS f = .bad := rfl
@[simp] theorem then_nx : (SR.nx e s).andThen g = g e s := rfl
@[simp] theorem then_ret : (SR.ret d e s).andThen g = .ret d e s := rfl
@[simp] theorem then_bk : (SR.bk e s).andThen g = .bk e s := rfl
@[simp] theorem then_ct : (SR.ct e s).andThen g = .ct e s := rfl
@[simp] theorem then_exc : (SR.exc x e s).andThen g = .exc x e s := rfl
@[simp] theorem then_bad : SR.bad.andThen g = .bad := rfl
end
def WpS (K : PySem.W.Frag) (mg : Str → Option Value) (W : WX) (Z : Addr → Prop) (S : S8) (r : SR) (D : Ends) : Prop := match r with
  | .nx e s => ∀ (σ' : L2.St) (S' : S8), S'.env = e → S'.st = s → Rel K Z σ' S' → Tr S S' → D.nx σ' S'.H
  | .bk e s => ∀ (σ' : L2.St) (S' : S8), S'.env = e → S'.st = s → Rel K Z σ' S' → Tr S S' → D.bk σ' S'.H
  | .ct e s => ∀ (σ' : L2.St) (S' : S8), S'.env = e → S'.st = s → Rel K Z σ' S' → Tr S S' → D.ct σ' S'.H
  | .ret d e s => ∀ (σ' : L2.St) (S' : S8), S'.env = e → S'.st = s → Rel K Z σ' S' → Tr S S' → ∀ v, Rp (S'.wd K Z) d v → D.rt v S'.H
  | .exc x e s => ∀ (σ' : L2.St) (S' : S8), S'.env = e → S'.st = s → Rel K Z σ' S' → Tr S S' → Qx K mg W Z σ' x S'
  | .bad => False
section
variable {K : PySem.W.Frag} {mg : Str → Option Value} {W : WX} {Z : Addr → Prop} {σ : L2.St} {S S1 : S8} {α : Type}
theorem WpS.from {r : SR} {D : Ends} (h : WpS K mg W Z S r D) (t : Tr S S1) : WpS K mg W Z S1 r D := by
  cases r with
  | nx e s => exact fun σ' S' h1 h2 R T => h σ' S' h1 h2 R (t.trans T)
  | bk e s => exact fun σ' S' h1 h2 R T => h σ' S' h1 h2 R (t.trans T)
  | ct e s => exact fun σ' S' h1 h2 R T => h σ' S' h1 h2 R (t.trans T)
  | ret d e s => exact fun σ' S' h1 h2 R T => h σ' S' h1 h2 R (t.trans T)
  | exc x e s => exact fun σ' S' h1 h2 R T => h σ' S' h1 h2 R (t.trans T)
  | bad => exact h
theorem WpS.bnd {m : M α} {f : α → SM} {D : Ends} {Q' : α → S8 → Prop} (h : WpS K mg W Z S ((m S.env S.st).toS f) D)
    (k : ∀ a S', Rel K Z σ S' → Tr S S' → WpS K mg W Z S' (f a S'.env S'.st) D → Q' a S') : Wp K Z σ S (m S.env S.st) Q' (Qx K mg W Z σ) := by
  cases e : m S.env S.st with
  | ok a e' s' =>
    rw [e] at h
    intro S' h1 h2 R T
    refine k a S' R T ?_
    rw [h1, h2]
    exact WpS.from h T
  | exc x e' s' => rw [e] at h; exact h σ
  | bad => rw [e] at h; exact h
end
def tS (K : PySem.W.Frag) (mg : Str → Option Value) (W : WX) (m : SM) : TS := fun D σ H => ∃ Z S, S.H = H ∧ Rel K Z σ S ∧ WpS K mg W Z S (m S.env S.st) D
def PSv (X : Cx) (W : WX) (st : Stmt) (m : SM) : Prop := PS X st (tS X.K X.mg W m)
def PSsv (X : Cx) (W : WX) (st : List Stmt) (m : SM) : Prop := PSs X st (tS X.K X.mg W m)
/-- what is assigned to -/
def WpU (K : PySem.W.Frag) (mg : Str → Option Value) (W : WX) (Z : Addr → Prop) (S : S8) (r : Res Unit) (Q : L2.St → Hp → Prop) : Prop := match r with
  | .ok _ e s => ∀ (σ' : L2.St) (S' : S8), S'.env = e → S'.st = s → Rel K Z σ' S' → Tr S S' → Q σ' S'.H
  | .exc x e s => ∀ (σ' : L2.St) (S' : S8), S'.env = e → S'.st = s → Rel K Z σ' S' → Tr S S' → Qx K mg W Z σ' x S'
  | .bad => False
section
variable {K : PySem.W.Frag} {mg : Str → Option Value} {W : WX} {Z : Addr → Prop} {σ : L2.St} {S S1 : S8} {α : Type}
theorem WpU.from {r : Res Unit} {Q : L2.St → Hp → Prop} (h : WpU K mg W Z S r Q) (t : Tr S S1) : WpU K mg W Z S1 r Q := by
  cases r with
  | ok _ e s => exact fun σ' S' h1 h2 R T => h σ' S' h1 h2 R (t.trans T)
  | exc x e s => exact fun σ' S' h1 h2 R T => h σ' S' h1 h2 R (t.trans T)
  | bad => exact h
theorem WpU.bnd {m : M α} {f : α → M Unit} {Q : L2.St → Hp → Prop} {Q' : α → S8 → Prop} (h : WpU K mg W Z S ((m S.env S.st).andThen f) Q)
    (k : ∀ a S', Rel K Z σ S' → Tr S S' → WpU K mg W Z S' (f a S'.env S'.st) Q → Q' a S') : Wp K Z σ S (m S.env S.st) Q' (Qx K mg W Z σ) := by
  cases e : m S.env S.st with
  | ok a e' s' =>
    rw [e] at h
    intro S' h1 h2 R T
    refine k a S' R T ?_
    rw [h1, h2]
    exact WpU.from h T
  | exc x e' s' => rw [e] at h; exact h σ
  | bad => rw [e] at h; exact h
/-- a target, then the rest -/
theorem WpS.ofU {r : Res Unit} {f : Unit → SM} {D : Ends} (h : WpS K mg W Z S (r.toS f) D) : WpU K mg W Z S r (fun σ' H' => ∃ S', S'.H = H' ∧ Rel K Z σ' S' ∧ WpS K mg W Z S' (f () S'.env S'.st) D) := by
  cases r with
  | ok a e s =>
    intro σ' S' h1 h2 R T
    refine ⟨S', rfl, R, ?_⟩
    rw [h1, h2]; exact WpS.from h T
  | exc x e s => exact h
  | bad => exact h
theorem WpU.imp {r : Res Unit} {Q Q' : L2.St → Hp → Prop} (h : WpU K mg W Z S r Q) (k : ∀ σ' H', Q σ' H' → Q' σ' H') : WpU K mg W Z S r Q' := by
  cases r with
  | ok _ e s => exact fun σ' S' h1 h2 R T => k _ _ (h σ' S' h1 h2 R T)
  | exc x e s => exact h
  | bad => exact h
end
/-- only slots in ts differ -/
def Agr (ts : List Nat) (σ σ' : L2.St) : Prop := σ'.length = σ.length ∧ ∀ j, j ∉ ts → σ'[j]? = σ[j]?
theorem Agr.refl (σ : L2.St) : Agr [] σ σ := ⟨rfl, fun _ _ => rfl⟩
theorem Agr.trans {ts us : List Nat} {σ σ1 σ2 : L2.St} (a : Agr ts σ σ1) (b : Agr us σ1 σ2) : Agr (ts ++ us) σ σ2 :=
  ⟨b.1.trans a.1, fun j h => (b.2 j fun z => h (List.mem_append_right _ z)).trans (a.2 j fun z => h (List.mem_append_left _ z))⟩
theorem Agr.set {σ : L2.St} {i : Nat} {v : Option V} : Agr [i] σ (σ.set i v) := ⟨List.length_set, fun j h => List.getElem?_set_ne fun e => h (by rw [e]; simp)⟩
def tTg (K : PySem.W.Frag) (mg : Str → Option Value) (W : WX) (ts : List Nat) (f : D → M Unit) : TG := fun v σ H Q => ∃ Z S d, S.H = H ∧ Rel K Z σ S ∧ Rp (S.wd K Z) d v ∧ WpU K mg W Z S (f d S.env S.st) (fun σ' H' => Agr ts σ σ' → Q σ' H')
def PTg (X : Cx) (W : WX) (tg : Expr) (ts : List Nat) (f : D → M Unit) : Prop := PG X tg (tTg X.K X.mg W ts f)
def tTgs (K : PySem.W.Frag) (mg : Str → Option Value) (W : WX) (ts : List Nat) (f : List D → M Unit) : TGs := fun vs σ H Q => ∃ Z S ds, S.H = H ∧ Rel K Z σ S ∧ RpL (S.wd K Z) ds vs ∧ WpU K mg W Z S (f ds S.env S.st) (fun σ' H' => Agr ts σ σ' → Q σ' H')
def PTgs (X : Cx) (W : WX) (tg : List Expr) (ts : List Nat) (f : List D → M Unit) : Prop := PGs X tg (tTgs X.K X.mg W ts f)
theorem PG.weak {X : Cx} {e : Expr} {t t' : TG} (h : PG X e t) (k : ∀ v σ H Q, t' v σ H Q → t v σ H Q) : PG X e t' := ⟨fun pins s σ H v u Q I r q => h.run pins s σ H v u Q I r (k v σ H Q q)⟩
theorem PGs.weak {X : Cx} {e : List Expr} {t t' : TGs} (h : PGs X e t) (k : ∀ v σ H Q, t' v σ H Q → t v σ H Q) : PGs X e t' := ⟨fun pins s σ H v u Q I r q => h.run pins s σ H v u Q I r (k v σ H Q q)⟩

/-! ### a slot set -/
section
variable {K : PySem.W.Frag} {Z : Addr → Prop} {σ : L2.St} {S : S8}
abbrev S8.putSlot (S : S8) (i : Nat) (d : D) : S8 := { S with env := S.env.set i (.val d) }
theorem cont_slot {i : Nat} {d : D} : ∀ {p : Pl} {c : Cell}, (S.putSlot i d).cont p = some c → S.cont p = some c ∧ p ≠ .inl i
  | .inr k, c, h => ⟨h, fun z => by cases z⟩
  | .inl j, c, h => by
    have h' : (match (S.env.set i (.val d))[j]? with | some (.own c) => some c | _ => none) = some c := h
    by_cases e : i = j
    · subst e
      by_cases l : i < S.env.length
      · rw [List.getElem?_set_self l] at h'; cases h'
      · rw [List.getElem?_eq_none (by simp; omega)] at h'; cases h'
    · rw [List.getElem?_set_ne e] at h'
      exact ⟨h', fun z => by cases z; exact e rfl⟩
theorem le_slot {i : Nat} {d : D} : (S.wd K Z).Le ((S.putSlot i d).wd K Z) := by
  refine ⟨rfl, fun a o e m => ⟨e, ?_⟩, Nat.le_refl _, fun _ _ => rfl, fun _ _ _ h => h⟩
  rintro (z | ⟨q, c, hq, eq⟩)
  · exact m (.inl z)
  · exact m (.inr ⟨q, c, (cont_slot hq).1, eq⟩)
theorem Tr.slot {i : Nat} {d : D} : Tr S (S.putSlot i d) where
  dom := fun _ h => h
  keep := fun _ _ h _ => h
  fresh := fun p c h => .inl ⟨p, c, (cont_slot h).1, rfl⟩
  n := Nat.le_refl _
  c := fun _ _ => rfl
  frz := fun _ _ _ h => h
  o := fun i c h => ⟨⟨c, (cont_slot h).1⟩, rfl⟩
theorem Rel.slot (R : Rel K Z σ S) {i : Nat} {d : D} {v : V} (r : Rp (S.wd K Z) d v) : Rel K Z (σ.set i (some v)) (S.putSlot i d) where
  len := by simp [R.len]
  val := fun j e h => by
    have h' : (S.env.set i (.val d))[j]? = some (.val e) := h
    by_cases ij : i = j
    · subst ij
      by_cases l : i < S.env.length
      · rw [List.getElem?_set_self l] at h'
        cases h'
        exact ⟨v, List.getElem?_set_self (by rw [← R.len]; exact l), le_slot.rp _ _ r⟩
      · rw [List.getElem?_eq_none (by simp; omega)] at h'; cases h'
    · rw [List.getElem?_set_ne ij] at h'
      obtain ⟨u, e1, r1⟩ := R.val j e h'
      exact ⟨u, by rw [List.getElem?_set_ne ij]; exact e1, le_slot.rp _ _ r1⟩
  own := fun j c h => by
    have h' : (S.env.set i (.val d))[j]? = some (.own c) := h
    by_cases ij : i = j
    · subst ij
      by_cases l : i < S.env.length
      · rw [List.getElem?_set_self l] at h'; cases h'
      · rw [List.getElem?_eq_none (by simp; omega)] at h'; cases h'
    · rw [List.getElem?_set_ne ij] at h'
      rw [List.getElem?_set_ne ij]; exact R.own j c h'
  cell := fun p c h => le_slot.cell rfl (R.cell p c (cont_slot h).1)
  inj := fun p q c d hp hq e => R.inj p q c d (cont_slot hp).1 (cont_slot hq).1 e
  zf := fun p c h => R.zf p c (cont_slot h).1
  zt := R.zt
end
/-! ### a cell set -/
section
variable {K : PySem.W.Frag} {Z : Addr → Prop} {σ : L2.St} {S : S8}
abbrev S8.putCell (S : S8) (k : Nat) (c : Cell) (o : HO) : S8 := ⟨S.env, S.st.set k c, S.ad, upd S.H (S.ad (.inr k)) o⟩
theorem cont_put {k : Nat} {c0 c : Cell} {o : HO} (h0 : S.st[k]? = some c0) : ∀ {p : Pl} {d : Cell}, (S.putCell k c o).cont p = some d → (p = .inr k ∧ d = c) ∨ (p ≠ .inr k ∧ S.cont p = some d)
  | .inl j, d, h => .inr ⟨(fun z => by cases z), h⟩
  | .inr j, d, h => by
    have h' : (S.st.set k c)[j]? = some d := h
    have l : k < S.st.length := (List.getElem?_eq_some_iff.mp h0).1
    by_cases e : k = j
    · subst e
      rw [List.getElem?_set_self l] at h'
      exact .inl ⟨rfl, (by cases h'; rfl)⟩
    · rw [List.getElem?_set_ne e] at h'
      exact .inr ⟨(fun z => by cases z; exact e rfl), h'⟩
/-- the cell is no locked one -/
def Cell.open : Cell → Bool
  | .fdc _ => false
  | _ => true
theorem Rel.nofrz (R : Rel K Z σ S) {k : Nat} {c0 : Cell} (h0 : S.st[k]? = some c0) (hc : c0.open = true) : ∀ ob u, S.H (S.ad (.inr k)) ≠ some (.frz ob u) := by
  intro ob u z
  have q := R.cell (.inr k) c0 h0
  cases c0 with
  | lst ds => obtain ⟨xs, e, _⟩ := q; have e' : S.H (S.ad (.inr k)) = some (.lst xs) := e; rw [e'] at z; cases z
  | dct ds => obtain ⟨xs, e, _⟩ := q; have e' : S.H (S.ad (.inr k)) = some (.dK xs) := e; rw [e'] at z; cases z
  | obj cn fs => obtain ⟨dx, xs, e, _⟩ := q; have e' : S.H (S.ad (.inr k)) = some (.ins _ dx xs) := e; rw [e'] at z; cases z
  | fdc kvs => cases hc
theorem le_put {k : Nat} {c0 c : Cell} {o : HO} (h0 : S.st[k]? = some c0) (nf : ∀ ob u, S.H (S.ad (.inr k)) ≠ some (.frz ob u)) : (S.wd K Z).Le ((S.putCell k c o).wd K Z) := by
  refine ⟨rfl, fun a u e m => ⟨?_, ?_⟩, by show S.st.length ≤ (S.st.set k c).length; simp, fun _ _ => rfl, fun a ob u e => by
      have n : a ≠ S.ad (.inr k) := fun z => nf ob u (by rw [← z]; exact e)
      show upd S.H (S.ad (.inr k)) o a = some _
      rw [upd_ne n]; exact e⟩
  · have n : a ≠ S.ad (.inr k) := fun z => m (.inr ⟨.inr k, c0, h0, z.symm⟩)
    show upd S.H (S.ad (.inr k)) o a = some u
    rw [upd_ne n]; exact e
  · rintro (z | ⟨q, d, hq, eq⟩)
    · exact m (.inl z)
    · rcases cont_put h0 hq with ⟨rfl, _⟩ | ⟨_, h2⟩
      · exact m (.inr ⟨.inr k, c0, h0, eq⟩)
      · exact m (.inr ⟨q, d, h2, eq⟩)
theorem Tr.put {k : Nat} {c0 c : Cell} {o : HO} (h0 : S.st[k]? = some c0) (nf : ∀ ob u, S.H (S.ad (.inr k)) ≠ some (.frz ob u)) : Tr S (S.putCell k c o) where
  dom := fun a h => by
    by_cases e : a = S.ad (.inr k)
    · subst e; show upd S.H _ o _ ≠ none; rw [upd_same]; intro z; cases z
    · show upd S.H _ o a ≠ none; rw [upd_ne e]; exact h
  keep := fun a u h n => by
    have e : a ≠ S.ad (.inr k) := fun z => n (.inr k) c0 h0 z.symm
    show upd S.H _ o a = some u
    rw [upd_ne e]; exact h
  fresh := fun p d h => by
    rcases cont_put h0 h with ⟨rfl, _⟩ | ⟨_, h2⟩
    · exact .inl ⟨.inr k, c0, h0, rfl⟩
    · exact .inl ⟨p, d, h2, rfl⟩
  n := by show S.st.length ≤ (S.st.set k c).length; simp
  c := fun _ _ => rfl
  frz := fun a ob u e => by
    have n : a ≠ S.ad (.inr k) := fun z => nf ob u (by rw [← z]; exact e)
    show upd S.H (S.ad (.inr k)) o a = some _
    rw [upd_ne n]; exact e
  o := fun i c h => ⟨⟨c, h⟩, rfl⟩
theorem Rel.put (R : Rel K Z σ S) {k : Nat} {c0 c : Cell} {o : HO} (h0 : S.st[k]? = some c0) (nf : ∀ ob u, S.H (S.ad (.inr k)) ≠ some (.frz ob u)) (hc : ∀ w' : Wd, (S.wd K Z).Le w' → w'.H (S.ad (.inr k)) = some o → CellAt w' c (S.ad (.inr k))) : Rel K Z σ (S.putCell k c o) where
  len := R.len
  val := fun i d h => let ⟨v, e, r⟩ := R.val i d h; ⟨v, e, (le_put h0 nf).rp d v r⟩
  own := R.own
  cell := fun p d h => by
    rcases cont_put h0 h with ⟨rfl, rfl⟩ | ⟨hn, h2⟩
    · exact hc _ (le_put h0 nf) upd_same
    · refine (le_put h0 nf).cell ?_ (R.cell p d h2)
      have : S.ad p ≠ S.ad (.inr k) := fun e => hn (R.inj p (.inr k) d c0 h2 h0 e)
      show upd S.H _ o (S.ad p) = S.H (S.ad p)
      exact upd_ne this
  inj := fun p q c1 c2 hp hq e => by
    rcases cont_put h0 hp with ⟨rfl, _⟩ | ⟨_, h1⟩ <;> rcases cont_put h0 hq with ⟨rfl, _⟩ | ⟨_, h2⟩
    · rfl
    · exact R.inj _ _ _ _ h0 h2 e
    · exact R.inj _ _ _ _ h1 h0 e
    · exact R.inj _ _ _ _ h1 h2 e
  zf := fun p d h => by
    rcases cont_put h0 h with ⟨rfl, _⟩ | ⟨_, h2⟩
    · exact R.zf _ _ h0
    · exact R.zf p d h2
  zt := fun a z => (Tr.put h0 nf).dom a (R.zt a z)
end

section
variable {X : Cx} {W : WX} {pos : Pos} {e a : Expr}
/-! ### targets -/
def setM (i : Nat) (d : D) : M Unit := fun e s => .ok () (e.set i (.val d)) s
theorem tg_name {x : Str} (i : Nat) (hN : X.N.Nodup) (hi : X.N[i]? = some x) (hx : Loc X.env.scope x) (hf : X.fn x = true ∨ X.env.scope.names.lookup x = some .local := by first | exact .inl rfl | exact .inr rfl | assumption) : PTg X W (.Name x pos) [i] (setM i) := by
  refine PG.weak (pg_name hN hi hx hf) fun v σ H Q q => ?_
  obtain ⟨Z, S, d, rfl, R, r, hw⟩ := q
  exact hw _ (S.putSlot i d) rfl rfl (R.slot r) Tr.slot Agr.set
def consT (f : D → M Unit) (g : List D → M Unit) : List D → M Unit
  | d :: ds => bnd (f d) fun _ => g ds
  | [] => fail
def nilT : List D → M Unit
  | [] => rt ()
  | _ :: _ => fail
theorem tgs_nil : PTgs X W [] [] nilT := by
  refine PGs.weak pgs_nil fun vs σ H Q q => ?_
  obtain ⟨Z, S, ds, rfl, R, r, hw⟩ := q
  cases ds with
  | cons _ _ => exact hw.elim
  | nil => exact ⟨r.of_nil, hw σ S rfl rfl R (Tr.refl S) (Agr.refl σ)⟩
theorem tgs_cons {es : List Expr} {ts us : List Nat} {f : D → M Unit} {g : List D → M Unit} (h : PTg X W e ts f) (h' : PTgs X W es us g)
    (ha : (assignEach (e :: es) X.env).map (·.2) = assign e X.env :: (assignEach es X.env).map (·.2) := by rfl) : PTgs X W (e :: es) (ts ++ us) (consT f g) := by
  refine PGs.weak (pgs_cons h h' ha) fun vs σ H Q q => ?_
  obtain ⟨Z, S, ds, rfl, R, r, hw⟩ := q
  cases ds with
  | nil => exact hw.elim
  | cons d ds =>
    obtain ⟨v, vs', rfl, r1, r2⟩ := r.of_cons
    refine ⟨v, vs', rfl, Z, S, d, rfl, R, r1, ?_⟩
    have hw' : WpU X.K X.mg W Z S ((f d S.env S.st).andThen fun _ => g ds) (fun σ' H' => Agr (ts ++ us) σ σ' → Q σ' H') := hw
    cases e1 : f d S.env S.st with
    | ok u e' s' =>
      rw [e1] at hw'
      intro σ' S' h1 h2 R' T ag
      refine ⟨Z, S', ds, rfl, R', T.rpL r2, ?_⟩
      rw [h1, h2]; exact WpU.imp (WpU.from hw' T) fun σ2 H2 q ag2 => q (ag.trans ag2)
    | exc x e' s' => rw [e1] at hw'; exact hw'
    | bad => rw [e1] at hw'; exact hw'
def tupT (n : Nat) (g : List D → M Unit) : D → M Unit
  | .tup ds => if ds.length = n then g ds else fail
  | _ => fail
theorem tg_tup {es : List Expr} {k n : Nat} {ts : List Nat} {g : List D → M Unit} (hc : X.calm = true) (h : PTgs X W es ts g) (h1 : (assignEach es X.env).length = n := by rfl) (h2 : (assignEach es X.env).findIdx? (·.1) = none := by rfl) :
    PTg X W (.Tuple es k pos) ts (tupT n g) := by
  refine PG.weak (pg_tup hc h h1 h2) fun v σ H Q q => ?_
  obtain ⟨Z, S, d, rfl, R, r, hw⟩ := q
  cases d with
  | tup ds =>
    have hw' : WpU X.K X.mg W Z S ((if ds.length = n then g ds else fail) S.env S.st) (fun σ' H' => Agr ts σ σ' → Q σ' H') := hw
    by_cases hl : ds.length = n
    · rw [if_pos hl] at hw'
      unfold Rp at r
      obtain ⟨a, xs, rfl, h1, h2⟩ := r
      exact ⟨a, xs, rfl, h1.sq, h2.length.trans hl, Z, S, ds, rfl, R, h2, hw'⟩
    · rw [if_neg hl] at hw'; exact hw'.elim
  | _ => exact hw.elim
/-- o[i] = d, o a cell -/
def putC (c : Cell) (i d : D) : Option Cell := match c with
  | .lst ds => match i with
    | .int j => (ixN ds.length j).map fun n => .lst (ds.set n d)
    | _ => none
  | .dct kvs => (keyOf i).bind fun kk => if szOk (kvs.length + 1) = true then some (.dct (putD kvs kk d)) else none
  | _ => none
/-- a cell changed -/
def updM (o : D) (f : Cell → Option Cell) : M Unit := fun e s => match o with
  | .ref k => match s[k]? with
    | some c => match f c with
      | some c' => .ok () e (s.set k c')
      | none => .bad
    | none => .bad
  | _ => .bad
theorem updM_ref {k : Nat} {f : Cell → Option Cell} {e : PEnv} {s : Store} : updM (.ref k) f e s = match s[k]? with
    | some c => match f c with
      | some c' => .ok () e (s.set k c')
      | none => .bad
    | none => .bad := rfl
def putS (o i d : D) : M Unit := updM o fun c => putC c i d
def rSetA : TSet := fun o i v H Q => rSetL o i v H Q ∨ L2.rSetD o i v H Q
theorem set_any (hu : X.A.units + 1 < cLine) : PSet X rSetA := fun pins s σ H o i v ov iv u Q I r1 r2 r3 q => q.elim (set_list pins s σ H o i v ov iv u Q I r1 r2 r3) (L2.set_dict hu pins s σ H o i v ov iv u Q I r1 r2 r3)
theorem szOk_lt {n : Nat} (h : szOk (n + 1) = true) : n < sizeLine := szOk_le h
theorem keyOf_rp {w : Wd} {d : D} {k : Key} {v : V} (e : keyOf d = some k) (r : Rp w d v) : v = kV k := by
  cases d with
  | int i => cases e; unfold Rp at r; exact r
  | str s => cases e; unfold Rp at r; exact r
  | _ => cases e
theorem put_go {Z : Addr → Prop} {σ : L2.St} {S : S8} {o i d : D} {ov iv v : V} {Q : L2.St → Hp → Prop} (R : Rel X.K Z σ S) (ro : Rp (S.wd X.K Z) o ov) (ri : Rp (S.wd X.K Z) i iv) (rv : Rp (S.wd X.K Z) d v)
    (hw : WpU X.K X.mg W Z S (putS o i d S.env S.st) Q) : rSetA ov iv v S.H fun H' => Q σ H' := by
  cases o with
  | ref k =>
    unfold Rp at ro
    obtain ⟨hk, rfl⟩ := ro
    unfold putS at hw
    rw [updM_ref] at hw
    cases e1 : S.st[k]? with
    | none => rw [e1] at hw; exact hw.elim
    | some c =>
      rw [e1] at hw
      dsimp only at hw
      cases e5 : putC c i d with
      | none => rw [e5] at hw; exact hw.elim
      | some c' =>
        rw [e5] at hw
        dsimp only at hw
        cases c with
        | lst ds =>
          cases i with
          | int j =>
            have e6 : (ixN ds.length j).map (fun n => Cell.lst (ds.set n d)) = some c' := e5
            obtain ⟨xs, e2, r2⟩ := R.cell (.inr k) _ e1
            unfold Rp at ri
            cases e3 : ixN ds.length j with
            | none => rw [e3] at e6; cases e6
            | some n =>
              rw [e3] at e6; cases e6
              refine .inl ⟨_, xs, j, n, rfl, ri, e2, by rw [r2.length]; exact e3, ?_⟩
              exact hw σ (S.putCell k (.lst (ds.set n d)) (.lst (xs.set n v))) rfl rfl (R.put e1 (R.nofrz e1 rfl) fun w' le e => ⟨_, e, (le.rpL _ _ r2).set (le.rp _ _ rv) n⟩) (Tr.put e1 (R.nofrz e1 rfl))
          | _ => cases e5
        | dct kvs =>
          have e6 : ((keyOf i).bind fun kk => if szOk (kvs.length + 1) = true then some (Cell.dct (putD kvs kk d)) else none) = some c' := e5
          cases e3 : keyOf i with
          | none => rw [e3] at e6; cases e6
          | some kk =>
            rw [e3] at e6
            simp only [Option.bind] at e6
            split at e6
            · rename_i e4
              cases e6
              obtain ⟨es, e2, r2⟩ := R.cell (.inr k) _ e1
              refine .inr ⟨_, _, rfl, .inl ⟨es, kk, e2, keyOf_rp e3 ri, by rw [r2.length]; exact szOk_lt e4, rfl⟩, ?_⟩
              exact hw σ (S.putCell k (.dct (putD kvs kk d)) (.dK (putK es kk v))) rfl rfl (R.put e1 (R.nofrz e1 rfl) fun w' le e => ⟨_, e, (le.rpK _ _ r2).put (le.rp _ _ rv)⟩) (Tr.put e1 (R.nofrz e1 rfl))
            · cases e6
        | _ => cases e5
  | _ => exact hw.elim
def subT (mo mi : M D) (d : D) : M Unit := bnd mo fun o => bnd mi fun i => putS o i d
theorem tg_sub {o i : Expr} {mo mi : M D} (hu : X.A.units + 1 < cLine) (ho : PEv X W o mo) (hi : PEv X W i mi)
    (ha : ∀ (v : Value), assign (.Subscript o i pos) X.env v = (do
      let ov ← holding [v] (eval o X.env)
      let iv ← holding [v, ov] (eval i X.env)
      standAt pos
      holding [v, ov, iv] (setItem ov iv v)
      release [v, ov, iv] []) := by intros; rfl) : PTg X W (.Subscript o i pos) [] (subT mo mi) := by
  refine PG.weak (pg_sub ho hi (set_any hu) ha) fun v σ H Q q => ?_
  obtain ⟨Z, S, d, rfl, R, r, hw⟩ := q
  refine ⟨Z, S, rfl, R, WpU.bnd hw fun od S1 R1 T1 h1 ov r1 => ?_⟩
  refine ⟨Z, S1, rfl, R1, WpU.bnd h1 fun id S2 R2 T2 h2 iv r2 => ?_⟩
  have q := put_go R2 (T2.rp r1) r2 (T2.rp (T1.rp r)) h2
  rcases q with ⟨p, xs, k, j, e1, e2, e3, e4, q⟩ | ⟨a, H', e1, e2, q⟩
  · exact .inl ⟨p, xs, k, j, e1, e2, e3, e4, q (Agr.refl σ)⟩
  · exact .inr ⟨a, H', e1, e2, q (Agr.refl σ)⟩
/-! ### statements -/
def nxS : Unit → SM := fun _ e s => .nx e s
def asgS (m : M D) (f : D → M Unit) : SM := fun e s => (bnd m f e s).toS nxS
theorem WpS.nx {K : PySem.W.Frag} {mg : Str → Option Value} {Z : Addr → Prop} {S : S8} {r : Res Unit} {D : Ends} (h : WpS K mg W Z S (r.toS nxS) D) : WpU K mg W Z S r D.nx := by
  cases r with
  | ok a e s => exact h
  | exc x e s => exact h
  | bad => exact h
theorem st_asg {tg : Expr} {ts : List Nat} {m : M D} {f : D → M Unit} (he : PEv X W e m) (hg : PTg X W tg ts f) (h1 : swapsWithSole [tg] e pos.line X.env = pure false := by rfl) (h2 : swappedStores [tg] e X.env = pure none := by rfl)
    (h3 : (assignEach [tg] X.env).map (·.2) = [assign tg X.env] := by rfl) : PSv X W (.Assign [tg] e pos) (asgS m f) := by
  refine PS.weak (ps_asg he hg h1 h2 h3) fun D σ H q => ?_
  obtain ⟨Z, S, rfl, R, hw⟩ := q
  exact ⟨Z, S, rfl, R, WpU.bnd (WpS.nx hw) fun d S1 R1 T1 h1 v r1 => ⟨Z, S1, d, rfl, R1, r1, WpU.imp h1 fun _ _ q _ => q⟩⟩
def exprS (m : M D) : SM := fun e s => (m e s).toS fun _ => .nx
theorem st_expr {m : M D} (he : PEv X W e m) (h : swapsWith e none pos.line X.env = pure false := by rfl) : PSv X W (.Expr e pos) (exprS m) := by
  refine PS.weak (ps_expr he h) fun D σ H q => ?_
  obtain ⟨Z, S, rfl, R, hw⟩ := q
  exact ⟨Z, S, rfl, R, WpS.bnd hw fun d S1 R1 T1 h1 v r1 => h1 σ S1 rfl rfl R1 (Tr.refl S1)⟩
def retS (m : M D) : SM := fun e s => (m e s).toS fun d => .ret d
theorem st_ret {m : M D} (he : PEv X W e m) : PSv X W (.Return (some e) pos) (retS m) := by
  refine PS.weak (ps_ret he) fun D σ H q => ?_
  obtain ⟨Z, S, rfl, R, hw⟩ := q
  exact ⟨Z, S, rfl, R, WpS.bnd hw fun d S1 R1 T1 h1 v r1 => h1 σ S1 rfl rfl R1 (Tr.refl S1) v r1⟩
theorem st_retN : PSv X W (.Return none pos) (.ret .non) := by
  refine PS.weak ps_retN fun D σ H q => ?_
  obtain ⟨Z, S, rfl, R, hw⟩ := q
  exact hw σ S rfl rfl R (Tr.refl S) .non (by unfold Rp; rfl)
theorem st_pass : PSv X W (.Pass pos) .nx := by
  refine PS.weak ps_pass fun D σ H q => ?_
  obtain ⟨Z, S, rfl, R, hw⟩ := q
  exact hw σ S rfl rfl R (Tr.refl S)
theorem st_break : PSv X W (.Break pos) .bk := by
  refine PS.weak ps_break fun D σ H q => ?_
  obtain ⟨Z, S, rfl, R, hw⟩ := q
  exact hw σ S rfl rfl R (Tr.refl S)
theorem st_cont : PSv X W (.Continue pos) .ct := by
  refine PS.weak ps_continue fun D σ H q => ?_
  obtain ⟨Z, S, rfl, R, hw⟩ := q
  exact hw σ S rfl rfl R (Tr.refl S)
def badS : SM := fun _ _ => .bad
theorem st_never {st : Stmt} : PSv X W st badS := PS.weak ps_never fun D σ H q => by
  obtain ⟨Z, S, rfl, R, hw⟩ := q
  exact hw
def seqS (m n : SM) : SM := fun e s => (m e s).andThen n
theorem ss_nil : PSsv X W [] .nx := by
  refine PSs.weak pss_nil fun D σ H q => ?_
  obtain ⟨Z, S, rfl, R, hw⟩ := q
  exact hw σ S rfl rfl R (Tr.refl S)
theorem WpS.andThen {K : PySem.W.Frag} {mg : Str → Option Value} {Z : Addr → Prop} {S : S8} {r : SR} {n : SM} {D : Ends} (h : WpS K mg W Z S (r.andThen n) D) : WpS K mg W Z S r { D with nx := tS K mg W n D } := by
  cases r with
  | nx e s =>
    intro σ' S' h1 h2 R T
    refine ⟨Z, S', rfl, R, ?_⟩
    rw [h1, h2]; exact WpS.from h T
  | _ => exact h
theorem ss_cons {st : Stmt} {rest : List Stmt} {m n : SM} (h : PSv X W st m) (h' : PSsv X W rest n) : PSsv X W (st :: rest) (seqS m n) := by
  refine PSs.weak (pss_cons h h') fun D σ H q => ?_
  obtain ⟨Z, S, rfl, R, hw⟩ := q
  exact ⟨Z, S, rfl, R, WpS.andThen hw⟩
theorem ss_one {st : Stmt} {m : SM} (h : PSv X W st m) : PSsv X W [st] m := by
  refine PSs.weak (pss_one h) fun D σ H q => q
def ifS (c : M Bool) (a b : SM) : SM := fun e s => (c e s).toS fun t => match t with
  | true => a
  | false => b
theorem st_if {c : Expr} {a b : List Stmt} {mc : M Bool} {ma mb : SM} (hc : PTv X W c mc) (ha : PSsv X W a ma) (hb : PSsv X W b mb) : PSv X W (.If c a b pos) (ifS mc ma mb) := by
  refine PS.weak (ps_if hc ha hb) fun D σ H q => ?_
  obtain ⟨Z, S, rfl, R, hw⟩ := q
  refine ⟨Z, S, rfl, R, WpS.bnd hw fun t S1 R1 T1 h1 => ?_⟩
  cases t with
  | true => exact iteT ⟨Z, S1, rfl, R1, h1⟩
  | false => exact iteF ⟨Z, S1, rfl, R1, h1⟩
end
end QB

/-! The pure layer, part 12: loops, parallel and augmented assignments. -/
namespace QB
open PySem PySem.Spec PyProof.Rows L2

/-- behind a turn -/
def turnS (r : SR) (k : SM) : SR := match r with
  | .nx e s => k e s
  | .ct e s => k e s
  | .bk e s => .nx e s
  | .ret d e s => .ret d e s
  | .exc x e s => .exc x e s
  | .bad => .bad
section
variable {e : PEnv} {s : Store} {k : SM} {d : D} {x : Exn}
@[simp] theorem turn_nx : turnS (.nx e s) k = k e s := rfl
@[simp] theorem turn_ct : turnS (.ct e s) k = k e s := rfl
@[simp] theorem turn_bk : turnS (.bk e s) k = .nx e s := rfl
@[simp] theorem turn_ret : turnS (.ret d e s) k = .ret d e s := rfl
@[simp] theorem turn_exc : turnS (.exc x e s) k = .exc x e s := rfl
@[simp] theorem turn_bad : turnS .bad k = .bad := rfl
end
def forGo (f : D → M Unit) (body : SM) (sr : Src) : Nat → Nat → SM
  | 0, i => fun e s => match sr.items s with
    | some l => match l[i]? with
      | none => .nx e s
      | some _ => .bad
    | none => .bad
  | n + 1, i => fun e s => match sr.items s with
    | some l => match l[i]? with
      | none => .nx e s
      | some d => turnS ((f d e s).toS fun _ => body) (forGo f body sr n (i + 1))
    | none => .bad
def forS (src : M Src) (f : D → M Unit) (body : SM) : SM := fun e s => (src e s).toS fun sr => fun e s => match sr.items s with
  | some l => forGo f body sr l.length 0 e s
  | none => .bad
def whileGo (c : M Bool) (body : SM) : Nat → SM
  | 0 => fun _ _ => .bad
  | n + 1 => fun e s => (c e s).toS fun t => match t with
    | true => fun e s => turnS (body e s) (whileGo c body n)
    | false => fun e s => .nx e s
section
variable {K : PySem.W.Frag} {mg : Str → Option Value} {W : WX} {Z : Addr → Prop} {σ : L2.St} {S S1 : S8}
/-- the next turn's entry -/
def Nxt (K : PySem.W.Frag) (mg : Str → Option Value) (W : WX) (Z : Addr → Prop) (S : S8) (k : SM) (D : Ends) : L2.St → Hp → Prop := fun σ' H' => ∃ S', S'.H = H' ∧ Rel K Z σ' S' ∧ Tr S S' ∧ WpS K mg W Z S' (k S'.env S'.st) D
theorem WpS.turn {r : SR} {k : SM} {D : Ends} (h : WpS K mg W Z S (turnS r k) D) : WpS K mg W Z S r { nx := Nxt K mg W Z S k D, rt := D.rt, bk := D.nx, ct := Nxt K mg W Z S k D } := by
  cases r with
  | nx e s => exact fun σ' S' h1 h2 R T => ⟨S', rfl, R, T, by rw [h1, h2]; exact WpS.from h T⟩
  | ct e s => exact fun σ' S' h1 h2 R T => ⟨S', rfl, R, T, by rw [h1, h2]; exact WpS.from h T⟩
  | bk e s => exact h
  | ret d e s => exact h
  | exc x e s => exact h
  | bad => exact h
theorem WpS.turnU {r : Res Unit} {body k : SM} {D : Ends} (h : WpS K mg W Z S (turnS (r.toS fun _ => body) k) D) :
    WpU K mg W Z S r (fun σ' H' => tS K mg W body { nx := Nxt K mg W Z S k D, rt := D.rt, bk := D.nx, ct := Nxt K mg W Z S k D } σ' H') := by
  cases r with
  | ok a e s =>
    intro σ' S' h1 h2 R T
    refine ⟨Z, S', rfl, R, ?_⟩
    rw [h1, h2]
    exact WpS.from (WpS.turn h) T
  | exc x e s => exact h
  | bad => exact h
end
section
variable {X : Cx} {W : WX} {pos : Pos} {e a : Expr}
theorem for_go {Z : Addr → Prop} {sr : Src} {J : It} {S1 : S8} {ts : List Nat} {f : D → M Unit} {body : SM} {D : Ends} (ok : ItOk X.K Z sr S1 J) :
    ∀ (i m : Nat) (σ : L2.St) (H : Hp), (∃ S2, S2.H = H ∧ Rel X.K Z σ S2 ∧ Tr S1 S2 ∧ WpS X.K X.mg W Z S2 (forGo f body sr m i S2.env S2.st) D) →
    (J.stop i H ∧ D.nx σ H) ∨ (J.go i H ∧ ∃ N : L2.St → Hp → Prop, (∀ σ' H', N σ' H' → ∃ m', m' < m ∧ ∃ S2, S2.H = H' ∧ Rel X.K Z σ' S2 ∧ Tr S1 S2 ∧ WpS X.K X.mg W Z S2 (forGo f body sr m' (i + 1) S2.env S2.st) D) ∧
      ∀ x H', J.yld i H x H' → tTg X.K X.mg W ts f x σ H' fun σ2 H2 => tS X.K X.mg W body { nx := N, rt := D.rt, bk := D.nx, ct := N } σ2 H2) := by
  intro i m σ H ⟨S2, e2, R2, T2, hw⟩
  subst e2
  have le := T2.le (K := X.K) (Z := Z)
  cases m with
  | zero =>
    have hw' : WpS X.K X.mg W Z S2 (match sr.items S2.st with | some l => (match l[i]? with | none => SR.nx S2.env S2.st | some _ => .bad) | none => .bad) D := hw
    cases e1 : sr.items S2.st with
    | none => rw [e1] at hw'; exact hw'.elim
    | some l =>
      rw [e1] at hw'
      dsimp only at hw'
      cases e3 : l[i]? with
      | none => rw [e3] at hw'; exact .inl ⟨(ok Z σ S2 le R2 l e1 i).1 e3, hw' σ S2 rfl rfl R2 (Tr.refl S2)⟩
      | some d => rw [e3] at hw'; exact hw'.elim
  | succ n =>
    have hw' : WpS X.K X.mg W Z S2 (match sr.items S2.st with | some l => (match l[i]? with | none => SR.nx S2.env S2.st | some d => turnS ((f d S2.env S2.st).toS fun _ => body) (forGo f body sr n (i + 1))) | none => .bad) D := hw
    cases e1 : sr.items S2.st with
    | none => rw [e1] at hw'; exact hw'.elim
    | some l =>
      rw [e1] at hw'
      dsimp only at hw'
      cases e3 : l[i]? with
      | none => rw [e3] at hw'; exact .inl ⟨(ok Z σ S2 le R2 l e1 i).1 e3, hw' σ S2 rfl rfl R2 (Tr.refl S2)⟩
      | some d =>
        rw [e3] at hw'
        dsimp only at hw'
        obtain ⟨hgo, hy⟩ := (ok Z σ S2 le R2 l e1 i).2 d e3
        refine .inr ⟨hgo, Nxt X.K X.mg W Z S2 (forGo f body sr n (i + 1)) D, ?_, ?_⟩
        · rintro σ' H' ⟨S3, e4, R3, T3, h3⟩
          exact ⟨n, Nat.lt_succ_self n, S3, e4, R3, T2.trans T3, h3⟩
        · intro x H' q
          obtain ⟨hx, hr⟩ := hy x H' q
          refine ⟨Z, S2.up H', d, rfl, R2.up hx, hr, ?_⟩
          refine WpU.imp (WpU.from (WpS.turnU hw') (Tr.up hx)) fun σ' H2 q _ => q
theorem st_for {tg it : Expr} {body : List Stmt} {ms : M Src} {ts : List Nat} {f : D → M Unit} {mb : SM} (po : PassesOwn (model X.prog X.w) X.A X.env X.xe) (hc : X.calm = true) (hi : PIt X W tg it ms) (hg : PTg X W tg ts f) (hb : PSsv X W body mb)
    (hs : ∀ x, foldedSetIterable it X.env x = pure x := by intro _; rfl) : PSv X W (.For tg it body [] pos) (forS ms f mb) := by
  refine PS.weak (ps_for po hc hi hg hb hs) fun D σ H q => ?_
  obtain ⟨Z, S, rfl, R, hw⟩ := q
  refine ⟨Z, S, rfl, R, WpS.bnd hw fun sr S1 R1 T1 h1 J ok => ?_⟩
  cases e1 : sr.items S1.st with
  | none => rw [e1] at h1; exact h1.elim
  | some l =>
    rw [e1] at h1
    exact ⟨fun i m σ H => ∃ S2, S2.H = H ∧ Rel X.K Z σ S2 ∧ Tr S1 S2 ∧ WpS X.K X.mg W Z S2 (forGo f mb sr m i S2.env S2.st) D, ⟨l.length, S1, rfl, R1, Tr.refl S1, h1⟩, for_go ok⟩
theorem st_while {c : Expr} {body : List Stmt} {mc : M Bool} {mb : SM} (n : Nat) (po : PassesOwn (model X.prog X.w) X.A X.env X.xe) (hc : PTv X W c mc) (hb : PSsv X W body mb) : PSv X W (.While c body [] pos) (whileGo mc mb n) := by
  refine PS.weak (ps_while po hc hb) fun D σ H q => ?_
  obtain ⟨Z, S, rfl, R, hw⟩ := q
  refine ⟨fun m σ H => ∃ S2, S2.H = H ∧ Rel X.K Z σ S2 ∧ WpS X.K X.mg W Z S2 (whileGo mc mb m S2.env S2.st) D, ⟨n, S, rfl, R, hw⟩, ?_⟩
  rintro m σ H ⟨S2, rfl, R2, h2⟩
  cases m with
  | zero => exact h2.elim
  | succ m =>
    refine ⟨Z, S2, rfl, R2, WpS.bnd h2 fun t S3 R3 T3 h3 => ?_⟩
    cases t with
    | false => exact iteF (h3 σ S3 rfl rfl R3 (Tr.refl S3))
    | true =>
      refine iteT ⟨Nxt X.K X.mg W Z S3 (whileGo mc mb m) D, ?_, Z, S3, rfl, R3, WpS.turn h3⟩
      rintro σ' H' ⟨S4, e4, R4, T4, h4⟩
      exact ⟨m, Nat.lt_succ_self m, S4, e4, R4, h4⟩
/-! ### x += e, on integers -/
def augD (f : Int → Int → Int) (a : D) (b : D) : Option D := match a, b with
  | .int i, .int j => some (.int (f i j))
  | _, _ => none
def augS (i : Nat) (g : Int → Int → Int) (m : M D) : SM := fun e s => (bnd (varM i) (fun a => bnd m fun b => bnd (opt (augD g a b)) fun d => setM i d) e s).toS nxS
theorem st_aug {x : Str} {i : Nat} {op : Operator} {g : Int → Int → Int} {m : M D} {pos' : Pos} (hN : X.N.Nodup) (hi : X.N[i]? = some x) (hx : Loc X.env.scope x) (he : PEv X W e m) (ho : PIp X op (ipI g)) (hf : X.fn x = true ∨ X.env.scope.names.lookup x = some .local := by first | exact .inl rfl | exact .inr rfl | assumption) :
    PSv X W (.AugAssign (.Name x pos') op e pos) (augS i g m) := by
  refine PS.weak (ps_aug hN hi hx he ho hf) fun D σ H q => ?_
  obtain ⟨Z, S, rfl, R, hw⟩ := q
  have hw := WpS.nx hw
  rw [bnd_app] at hw
  unfold varM at hw
  split at hw
  · rename_i d ed
    obtain ⟨v, e1, r1⟩ := R.val i d ed
    refine ⟨v, e1, Z, S, rfl, R, WpU.bnd hw fun b S1 R1 T1 h1 y r2 => ?_⟩
    rw [bnd_app] at h1
    cases e2 : augD g d b with
    | none => rw [e2] at h1; exact h1.elim
    | some z =>
      rw [e2] at h1
      unfold augD at e2
      split at e2
      · rename_i p q
        cases e2
        unfold Rp at r1
        have r2' : Rp (S1.wd X.K Z) (.int q) y := r2
        unfold Rp at r2'
        exact ⟨p, q, r1, r2', h1 _ (S1.putSlot i _) rfl rfl (R1.slot rp_int) Tr.slot⟩
      · cases e2
  · exact hw.elim
/-! ### x, y = a, b without a tuple -/
def par2 (i j : Nat) : List D → M Unit
  | [a, b] => bnd (setM i a) fun _ => setM j b
  | _ => fail
def par3 (i j l : Nat) : List D → M Unit
  | [a, b, c] => bnd (setM i a) fun _ => bnd (setM j b) fun _ => setM l c
  | _ => fail
def parS (ms : M (List D)) (f : List D → M Unit) : SM := fun e s => (bnd ms f e s).toS nxS
theorem st_par2 {i j : Nat} {x y : Str} {a b : Expr} {ms : M (List D)} {px py pt pt2 : Pos} {kt k2 : Nat} (hc : X.calm = true) (hN : X.N.Nodup) (hi : X.N[i]? = some x) (hj : X.N[j]? = some y) (hij : i ≠ j) (hx : X.env.scope.names.lookup x = some .local) (hy : X.env.scope.names.lookup y = some .local)
    (ha : PAv X W [a, b] ms) (hw : swappedStores [.Tuple [.Name x px, .Name y py] kt pt] (.Tuple [a, b] k2 pt2) X.env = pure (some [x, y]))
    (h2 : swapsWithSole [.Tuple [.Name x px, .Name y py] kt pt] (.Tuple [a, b] k2 pt2) pos.line X.env = pure false := by rfl) : PSv X W (.Assign [.Tuple [.Name x px, .Name y py] kt pt] (.Tuple [a, b] k2 pt2) pos) (parS ms (par2 i j)) := by
  refine PS.weak (ps_par hc hN hi hj hij hx hy ha hw h2) fun D σ H q => ?_
  obtain ⟨Z, S, rfl, R, hw⟩ := q
  refine ⟨Z, S, rfl, R, WpU.bnd (WpS.nx hw) fun ds S1 R1 T1 h1 vs r1 => ?_⟩
  match ds, h1, r1 with
  | [d, d2], h1, r1 =>
    obtain ⟨v, vs', rfl, r2, r3⟩ := r1.of_cons
    obtain ⟨v2, vs2, rfl, r4, r5⟩ := r3.of_cons
    rw [r5.of_nil]
    exact ⟨v, v2, rfl, h1 _ ((S1.putSlot i d).putSlot j d2) rfl rfl ((R1.slot r2).slot (Tr.slot.rp r4)) (Tr.slot.trans Tr.slot)⟩
  | [], h1, _ => exact h1.elim
  | [_], h1, _ => exact h1.elim
  | _ :: _ :: _ :: _, h1, _ => exact h1.elim
theorem st_par3 {i j l : Nat} {x y z : Str} {a b c : Expr} {ms : M (List D)} {px py pz pt pt2 : Pos} {kt k2 : Nat} (hc : X.calm = true) (hN : X.N.Nodup) (hi : X.N[i]? = some x) (hj : X.N[j]? = some y) (hl : X.N[l]? = some z) (hij : i ≠ j) (hil : i ≠ l) (hjl : j ≠ l)
    (hx : X.env.scope.names.lookup x = some .local) (hy : X.env.scope.names.lookup y = some .local) (hz : X.env.scope.names.lookup z = some .local)
    (ha : PAv X W [a, b, c] ms) (hw : swappedStores [.Tuple [.Name x px, .Name y py, .Name z pz] kt pt] (.Tuple [a, b, c] k2 pt2) X.env = pure (some [x, y, z]))
    (h2 : swapsWithSole [.Tuple [.Name x px, .Name y py, .Name z pz] kt pt] (.Tuple [a, b, c] k2 pt2) pos.line X.env = pure false := by rfl) : PSv X W (.Assign [.Tuple [.Name x px, .Name y py, .Name z pz] kt pt] (.Tuple [a, b, c] k2 pt2) pos) (parS ms (par3 i j l)) := by
  refine PS.weak (ps_par3 hc hN hi hj hl hij hil hjl hx hy hz ha hw h2) fun D σ H q => ?_
  obtain ⟨Z, S, rfl, R, hw⟩ := q
  refine ⟨Z, S, rfl, R, WpU.bnd (WpS.nx hw) fun ds S1 R1 T1 h1 vs r1 => ?_⟩
  match ds, h1, r1 with
  | [d, d2, d3], h1, r1 =>
    obtain ⟨v, vs', rfl, r2, r3⟩ := r1.of_cons
    obtain ⟨v2, vs2, rfl, r4, r5⟩ := r3.of_cons
    obtain ⟨v3, vs3, rfl, r6, r7⟩ := r5.of_cons
    rw [r7.of_nil]
    exact ⟨v, v2, v3, rfl, h1 _ (((S1.putSlot i d).putSlot j d2).putSlot l d3) rfl rfl (((R1.slot r2).slot (Tr.slot.rp r4)).slot ((Tr.slot.trans Tr.slot).rp r6)) ((Tr.slot.trans Tr.slot).trans Tr.slot)⟩
  | [], h1, _ => exact h1.elim
  | [_], h1, _ => exact h1.elim
  | [_, _], h1, _ => exact h1.elim
  | _ :: _ :: _ :: _ :: _, h1, _ => exact h1.elim
end
end QB

/-! The pure layer, part 13: comprehensions. -/
namespace QB
open PySem PySem.Spec PyProof.Rows L2

def wipeE (e : PEnv) : List Nat → PEnv
  | [] => e
  | v :: vs => (wipeE e vs).set v .no
def noOwn (e : PEnv) (vs : List Nat) : Bool := vs.all fun i => match e[i]? with
  | some (.own _) => false
  | _ => true
/-- the slots vs as e0 has them -/
def unE (e0 e' : PEnv) : List Nat → PEnv
  | [] => e'
  | v :: vs => match e0[v]? with
    | some sl => (unE e0 e' vs).set v sl
    | none => unE e0 e' vs
theorem unE_length (e0 e' : PEnv) : ∀ vs : List Nat, (unE e0 e' vs).length = e'.length
  | [] => rfl
  | v :: vs => by
    unfold unE
    cases e0[v]? with
    | none => exact unE_length e0 e' vs
    | some sl => dsimp only; rw [List.length_set, unE_length e0 e' vs]
theorem wipeE_length (e : PEnv) : ∀ vs : List Nat, (wipeE e vs).length = e.length
  | [] => rfl
  | v :: vs => by unfold wipeE; rw [List.length_set, wipeE_length e vs]
theorem unE_get {e0 e' : PEnv} (hl : e0.length = e'.length) {j : Nat} : ∀ vs : List Nat, (unE e0 e' vs)[j]? = if j ∈ vs then e0[j]? else e'[j]?
  | [] => by simp [unE]
  | v :: vs => by
    have ih := unE_get hl (j := j) vs
    unfold unE
    by_cases ej : v = j
    · subst ej
      rw [if_pos List.mem_cons_self]
      cases e1 : e0[v]? with
      | none =>
        dsimp only
        rw [ih]
        have : e'[v]? = none := by
          rw [List.getElem?_eq_none_iff] at e1 ⊢; omega
        rw [this, e1]; split <;> rfl
      | some sl =>
        dsimp only
        have : v < e0.length := (List.getElem?_eq_some_iff.mp e1).1
        rw [List.getElem?_set_self (by rw [unE_length]; omega)]
    · have hm : (j ∈ v :: vs) ↔ j ∈ vs := by
        constructor
        · intro h; rcases List.mem_cons.mp h with h | h
          · exact absurd h.symm ej
          · exact h
        · exact List.mem_cons_of_mem _
      cases e1 : e0[v]? with
      | none => dsimp only; rw [ih]; simp only [hm]
      | some sl => dsimp only; rw [List.getElem?_set_ne ej, ih]; simp only [hm]
theorem wipeE_get {e : PEnv} {j : Nat} {sl : Slot} (hn : sl ≠ .no) : ∀ {vs : List Nat}, (wipeE e vs)[j]? = some sl → e[j]? = some sl ∧ j ∉ vs
  | [], h => ⟨h, by simp⟩
  | v :: vs, h => by
    unfold wipeE at h
    by_cases ej : v = j
    · subst ej
      by_cases l : v < (wipeE e vs).length
      · rw [List.getElem?_set_self l] at h; cases h; exact absurd rfl hn
      · rw [List.getElem?_eq_none (by simp; omega)] at h; cases h
    · rw [List.getElem?_set_ne ej] at h
      obtain ⟨h1, h2⟩ := wipeE_get hn h
      exact ⟨h1, fun m => by rcases List.mem_cons.mp m with m | m
                             · exact ej m.symm
                             · exact h2 m⟩
section
variable {K : PySem.W.Frag} {Z : Addr → Prop} {σ : L2.St} {S S1 S0 : S8}
abbrev S8.wip (S : S8) (vs : List Nat) : S8 := { S with env := wipeE S.env vs }
theorem cont_wip {vs : List Nat} : ∀ {p : Pl} {c : Cell}, (S.wip vs).cont p = some c → S.cont p = some c
  | .inr k, c, h => h
  | .inl j, c, h => by
    have h' : (match (wipeE S.env vs)[j]? with | some (.own c) => some c | _ => none) = some c := h
    cases e : (wipeE S.env vs)[j]? with
    | none => rw [e] at h'; cases h'
    | some sl =>
      rw [e] at h'
      cases sl with
      | own c' =>
        cases h'
        have := (wipeE_get (by intro z; cases z) e).1
        show (match S.env[j]? with | some (.own c) => some c | _ => none) = some c
        rw [this]
      | _ => cases h'
theorem le_sub {S' : S8} (hH : S'.H = S.H) (hst : S'.st = S.st) (had : S'.ad = S.ad) (hc : ∀ p c, S'.cont p = some c → S.cont p = some c) : (S.wd K Z).Le (S'.wd K Z) := by
  refine ⟨rfl, fun a o e m => ⟨?_, ?_⟩, ?_, (fun k h => by show S'.ad _ = S.ad _; rw [had]), fun a o u h => by show S'.H a = _; rw [hH]; exact h⟩
  · show S'.H a = some o
    rw [hH]; exact e
  · rintro (z | ⟨q, c, hq, eq⟩)
    · exact m (.inl z)
    · exact m (.inr ⟨q, c, hc q c hq, by rw [← had]; exact eq⟩)
  · show S.st.length ≤ S'.st.length
    rw [hst]; exact Nat.le_refl _
theorem Tr.sub {S' : S8} (hH : S'.H = S.H) (hst : S'.st = S.st) (had : S'.ad = S.ad) (hc : ∀ p c, S'.cont p = some c → S.cont p = some c) : Tr S S' where
  dom := fun a h => by rw [hH]; exact h
  keep := fun a o h _ => by rw [hH]; exact h
  fresh := fun p c h => .inl ⟨p, c, hc p c h, by rw [had]⟩
  n := by rw [hst]; exact Nat.le_refl _
  c := fun k _ => by rw [had]
  frz := fun a o u h => by rw [hH]; exact h
  o := fun i c h => ⟨⟨c, hc _ _ h⟩, by rw [had]⟩
theorem Rel.wip (R : Rel K Z σ S) (vs : List Nat) : Rel K Z (wipe σ vs) (S.wip vs) := by
  have le : (S.wd K Z).Le ((S.wip vs).wd K Z) := le_sub rfl rfl rfl fun p c h => cont_wip h
  refine ⟨?_, fun i d h => ?_, fun i c h => ?_, fun p c h => le.cell rfl (R.cell p c (cont_wip h)), fun p q c d hp hq e => R.inj p q c d (cont_wip hp) (cont_wip hq) e, fun p c h => R.zf p c (cont_wip h), R.zt⟩
  · show (wipeE S.env vs).length = _
    rw [wipeE_length, wipe_length]; exact R.len
  · have h' : (wipeE S.env vs)[i]? = some (.val d) := h
    obtain ⟨h1, h2⟩ := wipeE_get (by intro z; cases z) h'
    obtain ⟨v, e, r⟩ := R.val i d h1
    exact ⟨v, by rw [wipe_out h2]; exact e, le.rp d v r⟩
  · have h' : (wipeE S.env vs)[i]? = some (.own c) := h
    obtain ⟨h1, h2⟩ := wipeE_get (by intro z; cases z) h'
    rw [wipe_out h2]; exact R.own i c h1
/-- the slots vs as they were in S0 -/
abbrev S8.unw (S : S8) (e0 : PEnv) (vs : List Nat) : S8 := { S with env := unE e0 S.env vs }
theorem cont_unw {e0 : PEnv} {vs : List Nat} (hl : e0.length = S.env.length) (hn : noOwn e0 vs = true) : ∀ {p : Pl} {c : Cell}, (S.unw e0 vs).cont p = some c → S.cont p = some c
  | .inr k, c, h => h
  | .inl j, c, h => by
    have h' : (match (unE e0 S.env vs)[j]? with | some (.own c) => some c | _ => none) = some c := h
    rw [unE_get hl] at h'
    by_cases m : j ∈ vs
    · rw [if_pos m] at h'
      have q := List.all_eq_true.mp hn j m
      split at h'
      · rename_i e; rw [e] at q; cases q
      · cases h'
    · rw [if_neg m] at h'; exact h'
theorem Rel.unw {Z0 : Addr → Prop} {vs : List Nat} (R0 : Rel K Z0 σ S0) (R : Rel K Z (wipe σ vs) S) (le0 : (S0.wd K Z0).Le (S.wd K Z)) (hn : noOwn S0.env vs = true) : Rel K Z σ (S.unw S0.env vs) := by
  have hl : S0.env.length = S.env.length := by rw [R0.len, R.len, wipe_length]
  have hc := fun p c => cont_unw (p := p) (c := c) hl hn
  have le : (S.wd K Z).Le ((S.unw S0.env vs).wd K Z) := le_sub rfl rfl rfl hc
  refine ⟨?_, fun i d h => ?_, fun i c h => ?_, fun p c h => le.cell rfl (R.cell p c (hc p c h)), fun p q c d hp hq e => R.inj p q c d (hc _ _ hp) (hc _ _ hq) e, fun p c h => R.zf p c (hc p c h), R.zt⟩
  · show (unE S0.env S.env vs).length = _
    rw [unE_length, ← hl]; exact R0.len
  · have h' : (unE S0.env S.env vs)[i]? = some (.val d) := h
    rw [unE_get hl] at h'
    by_cases m : i ∈ vs
    · rw [if_pos m] at h'
      obtain ⟨v, e, r⟩ := R0.val i d h'
      exact ⟨v, e, le.rp d v (le0.rp d v r)⟩
    · rw [if_neg m] at h'
      obtain ⟨v, e, r⟩ := R.val i d h'
      exact ⟨v, by rw [wipe_out m] at e; exact e, le.rp d v r⟩
  · have h' : (unE S0.env S.env vs)[i]? = some (.own c) := h
    rw [unE_get hl] at h'
    by_cases m : i ∈ vs
    · rw [if_pos m] at h'
      have q := List.all_eq_true.mp hn i m
      rw [h'] at q; cases q
    · rw [if_neg m] at h'
      have := R.own i c h'
      rw [wipe_out m] at this; exact this
theorem le_addZ {D : Addr} (T : Tr S1 S) (hD : S1.H D = none) : (S1.wd K Z).Le (S.wd K (addZ Z D)) := by
  have l := T.le (K := K) (Z := Z)
  refine ⟨rfl, fun a o e m => ?_, l.n, l.c, l.frz⟩
  obtain ⟨h1, h2⟩ := l.still a o e m
  refine ⟨h1, ?_⟩
  have e' : S1.H a = some o := e
  rintro ((z | z) | z)
  · exact h2 (.inl z)
  · rw [z, hD] at e'; cases e'
  · exact h2 (.inr z)
end
theorem wipe_agr {ts vs : List Nat} {σ σ2 : L2.St} (h : ∀ i ∈ ts, i ∈ vs) (a : Agr ts (wipe σ vs) σ2) : wipe σ2 vs = wipe σ vs := by
  have hl : σ2.length = σ.length := a.1.trans (wipe_length σ vs)
  apply List.ext_getElem?
  intro j
  by_cases m : j ∈ vs
  · have key : ∀ (τ : L2.St) (us : List Nat), j ∈ us → (wipe τ us)[j]? = if j < τ.length then some none else none := by
      intro τ us
      induction us with
      | nil => intro h; cases h
      | cons v us ih =>
        intro h
        unfold wipe
        by_cases e : v = j
        · subst e
          by_cases l : v < τ.length
          · rw [if_pos l, List.getElem?_set_self (by rw [wipe_length]; exact l)]
          · rw [if_neg l, List.getElem?_eq_none (by rw [List.length_set, wipe_length]; omega)]
        · rw [List.getElem?_set_ne e]
          rcases List.mem_cons.mp h with h | h
          · exact absurd h.symm e
          · exact ih h
    rw [key _ _ m, key _ _ m, hl]
  · rw [wipe_out m, a.2 j (fun z => m (h j z))]
/-! ### the loop -/
def compTail (cond : M Bool) (step : Cell → M Cell) (acc : Cell) (k : Cell → M Cell) : M Cell := fun e1 s1 => match cond e1 s1 with
  | .ok false e2 s2 => k acc e2 s2
  | .ok true e2 s2 => (match step acc e2 s2 with
    | .ok acc' e3 s3 => k acc' e3 s3
    | _ => .bad)
  | _ => .bad
def compGo (f : D → M Unit) (cond : M Bool) (step : Cell → M Cell) (vs : List Nat) (sr : Src) : Nat → Nat → Cell → M Cell
  | 0, i, acc => fun e s => match sr.items s with
    | some l => match l[i]? with
      | none => .ok acc e s
      | some _ => .bad
    | none => .bad
  | n + 1, i, acc => fun e s => match sr.items s with
    | some l => match l[i]? with
      | none => .ok acc e s
      | some d => match f d e s with
        | .ok _ e1 s1 => compTail cond step acc (fun a e s => compGo f cond step vs sr n (i + 1) a (wipeE e vs) s) e1 s1
        | _ => .bad
    | none => .bad
def compM (init : Cell) (src : M Src) (f : D → M Unit) (cond : M Bool) (step : Cell → M Cell) (vs : List Nat) : M Cell := bnd src fun sr => fun e s => match noOwn e vs, sr.items s with
  | true, some l => match compGo f cond step vs sr l.length 0 init (wipeE e vs) s with
    | .ok c e' s' => .ok c (unE e e' vs) s'
    | _ => .bad
  | _, _ => .bad
def stepL (elt : M D) (c : Cell) : M Cell := bnd elt fun y => match c with
  | .lst acc => chk (szOk (acc.length + 1)) (rt (.lst (acc ++ [y])))
  | _ => fail
def stepD (kx vx : M D) (c : Cell) : M Cell := bnd kx fun k => bnd vx fun z => match c with
  | .dct kvs => match keyOf k with
    | some kk => chk (szOk (kvs.length + 1)) (rt (.dct (putD kvs kk z)))
    | none => fail
  | _ => fail
/-- nothing may be raised -/
def WF : WX := fun _ _ _ _ => False
section
variable {K : PySem.W.Frag} {mg : Str → Option Value} {W : WX} {Z : Addr → Prop} {σ : L2.St} {S S1 : S8}
/-- what stands at the turn i -/
def CW (K : PySem.W.Frag) (Z : Addr → Prop) (σ : L2.St) (vs : List Nat) (Dd : Addr) (S1 : S8) (go : Nat → Nat → Cell → M Cell) (Q : Cell → S8 → Prop) (i m : Nat) (H : Hp) : Prop :=
  ∃ S2 acc, S2.H = H ∧ Rel K (addZ Z Dd) (wipe σ vs) S2 ∧ Tr S1 S2 ∧ CellAt (S2.wd K (addZ Z Dd)) acc Dd ∧
    ∃ c e s, go m i acc S2.env S2.st = .ok c e s ∧ ∀ S', S'.env = e → S'.st = s → Rel K (addZ Z Dd) (wipe σ vs) S' → Tr S1 S' → CellAt (S'.wd K (addZ Z Dd)) c Dd → Q c S'
end
theorem Rel.rewip {K : PySem.W.Frag} {Z : Addr → Prop} {σ σ2 : L2.St} {S : S8} {vs : List Nat} (R : Rel K Z σ2 S) (h : wipe σ2 vs = wipe σ vs) : Rel K Z (wipe σ vs) (S.wip vs) := by rw [← h]; exact R.wip vs
theorem Tr.wip {S : S8} {vs : List Nat} : Tr S (S.wip vs) := Tr.sub rfl rfl rfl fun p c h => cont_wip h
section
variable {X : Cx} {W : WX} {pos : Pos}
def PTsv (X : Cx) (W : WX) (ifs : List Expr) (m : M Bool) : Prop := PTs X ifs (tT X.K X.mg W m)
theorem PTs.weak {X : Cx} {e : List Expr} {t t' : TT} (h : PTs X e t) (k : ∀ σ H Q, t' σ H Q → t σ H Q) : PTs X e t' := ⟨fun pins s σ H Q I q => h.run pins s σ H Q I (k σ H Q q)⟩
theorem ts_nil : PTsv X W [] (rt true) := PTs.weak pts_nil fun σ H Q q => by
  obtain ⟨Z, S, rfl, R, hw⟩ := q
  exact hw.here R
theorem ts_one {c : Expr} {m : M Bool} (h : PTv X W c m) : PTsv X W [c] m := pts_one h
/-- a foreign object that no one touched -/
theorem Tr.cellZ {K : PySem.W.Frag} {Z : Addr → Prop} {σ : L2.St} {S S' : S8} {Dd : Addr} {c : Cell} (T : Tr S S') (R : Rel K (addZ Z Dd) σ S) (hc : CellAt (S.wd K (addZ Z Dd)) c Dd) : CellAt (S'.wd K (addZ Z Dd)) c Dd := by
  refine (T.le (K := K) (Z := addZ Z Dd)).cell ?_ hc
  have hnz : ∀ p c, S.cont p = some c → S.ad p ≠ Dd := fun p c hp e => R.zf p c hp (.inr e)
  have hne := hc.ne
  cases e6 : S.H Dd with
  | none => exact absurd e6 hne
  | some o => exact (T.keep Dd o e6 hnz).trans e6.symm
/-- one turn: what the test and the step ask -/
theorem comp_turn {K : PySem.W.Frag} {mg : Str → Option Value} {Z : Addr → Prop} {σ : L2.St} {S1 : S8} {Dd : Addr} {ts vs : List Nat} {f : D → M Unit} {cond : M Bool} {step : Cell → M Cell} {sr : Src} {J : It} {Qc : Cell → S8 → Prop} {te : L2.St → Hp → (Hp → Prop) → Prop}
    (hD : S1.H Dd = none) (ok : ItOk K Z sr S1 J) (hts : ∀ i ∈ ts, i ∈ vs)
    (hstep : ∀ (σ2 : L2.St) (S3 : S8) (acc : Cell) (Nx : Hp → Prop), Rel K (addZ Z Dd) σ2 S3 → Tr S1 S3 → CellAt (S3.wd K (addZ Z Dd)) acc Dd →
      (∃ acc' e3 s3, step acc S3.env S3.st = .ok acc' e3 s3 ∧ ∀ S4, S4.env = e3 → S4.st = s3 → Rel K (addZ Z Dd) σ2 S4 → Tr S1 S4 → CellAt (S4.wd K (addZ Z Dd)) acc' Dd → Nx S4.H) → te σ2 S3.H Nx)
    (i m : Nat) (H : Hp) (h : CW K Z σ vs Dd S1 (compGo f cond step vs sr) Qc i m H) :
    (J.stop i H ∧ ∃ S' c, S'.H = H ∧ Qc c S') ∨ (J.go i H ∧ ∃ Nx : Hp → Prop, (∀ H', Nx H' → ∃ m', m' < m ∧ CW K Z σ vs Dd S1 (compGo f cond step vs sr) Qc (i + 1) m' H') ∧
      ∀ x H', J.yld i H x H' → tTg K mg WF ts f x (wipe σ vs) H' fun σ2 H2 => wipe σ2 vs = wipe σ vs ∧ tT K mg WF cond σ2 H2 fun b H3 => if b = true then te σ2 H3 Nx else Nx H3) := by
  obtain ⟨S2, acc, rfl, R2, T2, hc, c, e, s, hgo, hq⟩ := h
  have le := le_addZ (K := K) (Z := Z) T2 hD
  cases m with
  | zero =>
    unfold compGo at hgo
    cases e1 : sr.items S2.st with
    | none => rw [e1] at hgo; cases hgo
    | some l =>
      rw [e1] at hgo
      dsimp only at hgo
      cases e3 : l[i]? with
      | none => rw [e3] at hgo; cases hgo; exact .inl ⟨(ok _ _ S2 le R2 l e1 i).1 e3, S2, _, rfl, hq S2 rfl rfl R2 T2 hc⟩
      | some d => rw [e3] at hgo; cases hgo
  | succ n =>
    unfold compGo at hgo
    cases e1 : sr.items S2.st with
    | none => rw [e1] at hgo; cases hgo
    | some l =>
      rw [e1] at hgo
      dsimp only at hgo
      cases e3 : l[i]? with
      | none => rw [e3] at hgo; cases hgo; exact .inl ⟨(ok _ _ S2 le R2 l e1 i).1 e3, S2, _, rfl, hq S2 rfl rfl R2 T2 hc⟩
      | some d =>
        rw [e3] at hgo
        dsimp only at hgo
        obtain ⟨hg, hy⟩ := (ok _ _ S2 le R2 l e1 i).2 d e3
        refine .inr ⟨hg, fun H' => CW K Z σ vs Dd S1 (compGo f cond step vs sr) Qc (i + 1) n H', fun H' h => ⟨n, Nat.lt_succ_self n, h⟩, fun x H' q => ?_⟩
        obtain ⟨hx, hr⟩ := hy x H' q
        refine ⟨addZ Z Dd, S2.up H', d, rfl, R2.up hx, hr, ?_⟩
        cases e4 : f d S2.env S2.st with
        | bad => rw [e4] at hgo; cases hgo
        | exc _ _ _ => rw [e4] at hgo; cases hgo
        | ok u ee ss =>
          rw [e4] at hgo
          dsimp only at hgo
          intro σ3 S3 h1 h2 R3 T3 ag
          have hwp := wipe_agr hts ag
          refine ⟨hwp, addZ Z Dd, S3, rfl, R3, ?_⟩
          have T23 : Tr S2 S3 := (Tr.up hx).trans T3
          have T13 : Tr S1 S3 := T2.trans T23
          have hc3 := T23.cellZ R2 hc
          rw [h1, h2]
          unfold compTail at hgo
          cases e5 : cond ee ss with
          | bad => rw [e5] at hgo; cases hgo
          | exc _ _ _ => rw [e5] at hgo; cases hgo
          | ok b e2 s2 =>
            rw [e5] at hgo
            intro S4 h3 h4 R4 T4
            have T14 : Tr S1 S4 := T13.trans T4
            have hc4 := T4.cellZ R3 hc3
            have lw : ∀ (SS : S8), (SS.wd K (addZ Z Dd)).Le ((SS.wip vs).wd K (addZ Z Dd)) := fun SS => Tr.wip.le
            cases b with
            | false =>
              refine iteF ?_
              dsimp only at hgo
              exact ⟨S4.wip vs, acc, rfl, R4.rewip hwp, T14.trans Tr.wip, (lw S4).cell rfl hc4, c, e, s, by show compGo f cond step vs sr n (i + 1) acc (wipeE S4.env vs) S4.st = _; rw [h3, h4]; exact hgo, hq⟩
            | true =>
              refine iteT ?_
              dsimp only at hgo
              cases e7 : step acc e2 s2 with
              | bad => rw [e7] at hgo; cases hgo
              | exc _ _ _ => rw [e7] at hgo; cases hgo
              | ok acc' e3 s3 =>
                rw [e7] at hgo
                dsimp only at hgo
                refine hstep σ3 S4 acc _ R4 T14 hc4 ⟨acc', e3, s3, by rw [h3, h4]; exact e7, ?_⟩
                intro S5 h5 h6 R5 T5 hc5
                exact ⟨S5.wip vs, acc', rfl, R5.rewip hwp, T5.trans Tr.wip, (lw S5).cell rfl hc5, c, e, s, by show compGo f cond step vs sr n (i + 1) acc' (wipeE S5.env vs) S5.st = _; rw [h5, h6]; exact hgo, hq⟩
/-- a value got with nothing raised -/
theorem Wp.okd {K : PySem.W.Frag} {Z : Addr → Prop} {σ : L2.St} {S : S8} {α : Type} {r : Res α} {a : α} {e : PEnv} {s : Store} {Q : α → S8 → Prop} {Qx : Exn → S8 → Prop} (h : r = .ok a e s) (k : ∀ S', S'.env = e → S'.st = s → Rel K Z σ S' → Tr S S' → Q a S') : Wp K Z σ S r Q Qx := by
  subst h; exact k
theorem bnd_ok {α β : Type} {m : M α} {f : α → M β} {e : PEnv} {s : Store} {b : β} {e2 : PEnv} {s2 : Store} (h : bnd m f e s = .ok b e2 s2) : ∃ a e1 s1, m e s = .ok a e1 s1 ∧ f a e1 s1 = .ok b e2 s2 := by
  rw [bnd_app] at h
  cases q : m e s with
  | ok a e1 s1 => rw [q] at h; exact ⟨a, e1, s1, rfl, h⟩
  | exc x e1 s1 => rw [q] at h; cases h
  | bad => rw [q] at h; cases h
theorem chk_ok {α : Type} {b : Bool} {m : M α} {e : PEnv} {s : Store} {a : α} {e2 : PEnv} {s2 : Store} (h : chk b m e s = .ok a e2 s2) : b = true ∧ m e s = .ok a e2 s2 := by
  cases b with
  | true => exact ⟨rfl, h⟩
  | false => cases h
theorem lc_go {K : PySem.W.Frag} {mg : Str → Option Value} {W : WX} {ts vs : List Nat} {ms : M Src} {f : D → M Unit} {cond : M Bool} {elt : M D} (hts : ∀ i ∈ ts, i ∈ vs) {σ : L2.St} {H : Hp} {Q : VK}
    (q : tG K mg W (rF K) (compM (.lst []) ms f cond (stepL elt) vs) σ H Q) : tLc (tGI K mg W ms) (tTg K mg WF ts f) (tT K mg WF cond) (tG K mg WF (rE K) elt) vs σ H Q := by
  obtain ⟨Z, S, rfl, R, hw⟩ := q
  refine ⟨Z, S, rfl, R, Wp.bnd hw fun sr S1 R1 T1 h1 J ok Dd hD => ?_⟩
  cases e0 : noOwn S1.env vs with
  | false => rw [e0] at h1; exact h1.elim
  | true =>
    cases e1 : sr.items S1.st with
    | none => rw [e0, e1] at h1; exact h1.elim
    | some l =>
      rw [e0, e1] at h1
      dsimp only at h1
      cases e2 : compGo f cond (stepL elt) vs sr l.length 0 (.lst []) (wipeE S1.env vs) S1.st with
      | bad => rw [e2] at h1; exact h1.elim
      | exc _ _ _ => rw [e2] at h1; exact h1.elim
      | ok c e' s' =>
        rw [e2] at h1
        dsimp only at h1
        have hSD : S.H Dd = none := by
          cases e : S.H Dd with
          | none => rfl
          | some o => exact absurd hD (T1.dom Dd (by rw [e]; intro z; cases z))
        have hzD : ¬ Z Dd := fun z => R1.zt Dd z hD
        refine ⟨CW K Z σ vs Dd S1 (compGo f cond (stepL elt) vs sr) (fun _ S' => Q (.ref Dd) S'.H), ⟨l.length, ?_⟩, ?_⟩
        · have R2 : Rel K (addZ Z Dd) σ (S1.up (upd S1.H Dd (.lst []))) := R1.addNew hD
          refine ⟨(S1.up (upd S1.H Dd (.lst []))).wip vs, .lst [], rfl, R2.wip vs, (Tr.up (ext_new hD)).trans Tr.wip, ⟨[], upd_same, RpL.nil⟩, c, e', s', e2, ?_⟩
          intro S' h2 h3 R3 T3 hc
          have R4 := R1.unw R3 (le_addZ T3 hD) e0
          have hl : S1.env.length = S'.env.length := by rw [R1.len, R3.len, wipe_length]
          have hcont := fun p c => cont_unw (S := S') (p := p) (c := c) hl e0
          have T4 : Tr S' (S'.unw S1.env vs) := Tr.sub rfl rfl rfl hcont
          exact h1 (S'.unw S1.env vs) (by show unE S1.env S'.env vs = _; rw [h2]) h3 R4.dropZ (T3.trans T4) _ ⟨Dd, rfl, hSD, hzD, R4, (T4.le (K := K) (Z := addZ Z Dd)).cell rfl hc⟩
        · intro i m H hcw
          have hstep : ∀ (σ2 : L2.St) (S3 : S8) (acc : Cell) (Nx : Hp → Prop), Rel K (addZ Z Dd) σ2 S3 → Tr S1 S3 → CellAt (S3.wd K (addZ Z Dd)) acc Dd →
              (∃ acc' e3 s3, stepL elt acc S3.env S3.st = .ok acc' e3 s3 ∧ ∀ S4, S4.env = e3 → S4.st = s3 → Rel K (addZ Z Dd) σ2 S4 → Tr S1 S4 → CellAt (S4.wd K (addZ Z Dd)) acc' Dd → Nx S4.H) →
              tG K mg WF (rE K) elt σ2 S3.H fun y H4 => ∃ acc, H4 Dd = some (.lst acc) ∧ acc.length < sizeLine ∧ Nx (upd H4 Dd (.lst (acc ++ [y]))) := by
            intro σ2 S3 acc Nx R3 T3 hc3 ⟨acc', e3, s3, hst, hnx⟩
            refine ⟨addZ Z Dd, S3, rfl, R3, ?_⟩
            obtain ⟨y, e4, s4, h2, h3⟩ := bnd_ok hst
            refine Wp.okd h2 fun S4 h4 h5 R4 T4 v rv => ?_
            have hc4 := T4.cellZ R3 hc3
            cases acc with
            | dct _ => cases h3
            | obj _ _ => cases h3
            | fdc _ => cases h3
            | lst ds =>
              obtain ⟨h6, h7⟩ := chk_ok h3
              cases h7
              obtain ⟨xs, hx, rx⟩ := hc4
              refine ⟨xs, hx, by rw [rx.length]; exact szOk_lt h6, ?_⟩
              have nf : ∀ ob u, S4.H Dd ≠ some (.frz ob u) := fun ob u z => by
                have hx' : S4.H Dd = some (.lst xs) := hx
                rw [hx'] at z; cases z
              have R5 := R4.turn (o := .lst (xs ++ [v])) (.inr rfl) nf
              refine hnx (S4.up (upd S4.H Dd (.lst (xs ++ [v])))) h4 h5 R5 ((T3.trans T4).turn hD) ⟨_, upd_same, ?_⟩
              have lt := le_turn (K := K) (S := S4) (Z := addZ Z Dd) (o := .lst (xs ++ [v])) (.inl (.inr rfl)) nf
              exact (lt.rpL _ _ rx).append (.cons (lt.rp _ _ rv) .nil)
          rcases comp_turn (te := fun σ2 H3 Nx => tG K mg WF (rE K) elt σ2 H3 fun y H4 => ∃ acc, H4 Dd = some (.lst acc) ∧ acc.length < sizeLine ∧ Nx (upd H4 Dd (.lst (acc ++ [y])))) (mg := mg) (cond := cond) (f := f) (ts := ts) hD ok hts hstep i m H hcw with ⟨hs, S', c', rfl, hq⟩ | h
          · exact .inl ⟨hs, hq⟩
          · exact .inr h
theorem fr_lc {elt tg iter : Expr} {ifs : List Expr} {scope : Scope} {own : List (Str × Nat)} {ts : List Nat} {ms : M Src} {f : D → M Unit} {cond : M Bool} {me : M D} (hc : X.calm = true) (hN : X.N.Nodup) (hi : PIt X W tg iter ms) (ok : BlkOk X.N X.env.scope scope own)
    (hg : ∀ (s : Shared) (H : Hp) (C : Addr) (cl : List (Str × Addr)) (fp : List Addr), PTg (X.blk s H scope (compEnvC scope cl C X.env) fp) WF tg ts f)
    (ht : ∀ (s : Shared) (H : Hp) (C : Addr) (cl : List (Str × Addr)) (fp : List Addr), PTsv (X.blk s H scope (compEnvC scope cl C X.env) fp) WF ifs cond)
    (he : ∀ (s : Shared) (H : Hp) (C : Addr) (cl : List (Str × Addr)) (fp : List Addr), PEv (X.blk s H scope (compEnvC scope cl C X.env) fp) WF elt me)
    (hts : ∀ i ∈ ts, i ∈ own.map (·.2)) (hs : ∀ x, foldedSetIterable iter X.env x = pure x := by intro _; rfl) :
    PFr X W (.ListComp elt [⟨tg, iter, ifs, 0⟩] scope pos) (compM (.lst []) ms f cond (stepL me) (own.map (·.2))) :=
  PE.weak (pe_lc (g := tTg X.K X.mg WF ts f) (tt := tT X.K X.mg WF cond) (te := tG X.K X.mg WF (rE X.K) me) hc hN hi ok hg ht he hs) fun _ _ _ q => lc_go hts q
def frzL (m : M Cell) : M D := bnd m fun c => match c with
  | .lst ds => rt (.lst ds)
  | _ => fail
/-- name = [..] on one line -/
theorem st_setLc {i : Nat} {y : Str} {py spos : Pos} {elt tg iter : Expr} {ifs : List Expr} {scope : Scope} {own : List (Str × Nat)} {ts : List Nat} {ms : M Src} {f : D → M Unit} {cond : M Bool} {me : M D} (hc : X.calm = true) (hN : X.N.Nodup) (hy : X.N[i]? = some y) (hyl : X.env.scope.names.lookup y = some .local)
    (hsw : swapsWith (.ListComp elt [⟨tg, iter, ifs, 0⟩] scope pos) (some (.Name y py)) spos.line X.env = pure true) (hi : PIt X W tg iter ms) (ok : BlkOk X.N X.env.scope scope own)
    (hg : ∀ (s : Shared) (H : Hp) (C : Addr) (cl : List (Str × Addr)) (fp : List Addr), PTg (X.blk s H scope (compEnvC scope cl C X.env) fp) WF tg ts f)
    (ht : ∀ (s : Shared) (H : Hp) (C : Addr) (cl : List (Str × Addr)) (fp : List Addr), PTsv (X.blk s H scope (compEnvC scope cl C X.env) fp) WF ifs cond)
    (he : ∀ (s : Shared) (H : Hp) (C : Addr) (cl : List (Str × Addr)) (fp : List Addr), PEv (X.blk s H scope (compEnvC scope cl C X.env) fp) WF elt me)
    (hts : ∀ i ∈ ts, i ∈ own.map (·.2)) (hs : ∀ x, foldedSetIterable iter X.env x = pure x := by intro _; rfl) :
    PSv X W (.Assign [.Name y py] (.ListComp elt [⟨tg, iter, ifs, 0⟩] scope pos) spos) (asgS (frzL (compM (.lst []) ms f cond (stepL me) (own.map (·.2)))) (setM i)) := by
  refine PS.weak (ps_setLc (g := tTg X.K X.mg WF ts f) (tt := tT X.K X.mg WF cond) (te := tG X.K X.mg WF (rE X.K) me) hc hN hy hyl hsw hi ok hg ht he hs) fun D σ H q => ?_
  obtain ⟨Z, S, rfl, R, hw⟩ := q
  refine lc_go hts ⟨Z, S, rfl, R, ?_⟩
  have hw' := WpS.nx hw
  rw [bnd_app] at hw'
  unfold frzL at hw'
  rw [bnd_app] at hw'
  cases e1 : compM (.lst []) ms f cond (stepL me) (own.map (·.2)) S.env S.st with
  | bad => rw [e1] at hw'; exact hw'.elim
  | exc x e' s' => rw [e1] at hw'; exact fun S' h1 h2 R' T' => hw' σ S' h1 h2 R' T'
  | ok c e' s' =>
    rw [e1] at hw'
    intro S' h1 h2 R' T' v rv
    obtain ⟨p, rfl, hp, hz, R2, hcl⟩ := rv
    cases c with
    | lst ds =>
      have r : Rp (S'.wd X.K Z) (.lst ds) (.ref p) := hcl.frozen le_freeze (R2.notMu_z hz) rfl
      exact hw' _ (S'.putSlot i (.lst ds)) (by show S'.env.set i _ = _; rw [h1]) h2 (R'.slot r) (T'.trans Tr.slot)
    | dct kvs => exact hw'.elim
    | obj _ _ => exact hw'.elim
    | fdc _ => exact hw'.elim
end
end QB

/-! The pure layer, part 14: isinstance, sorted, max and min of a list, dicts, methods. -/
namespace QB
open PySem PySem.Spec PyProof.Rows L2 PySem.W

/-! ### isinstance -/
inductive Ty where
  | int | bool | str | tuple | list | dict
  deriving DecidableEq
def Ty.nm : Ty → String
  | .int => "int" | .bool => "bool" | .str => "str" | .tuple => "tuple" | .list => "list" | .dict => "dict"
def tyD : D → String
  | .non => "NoneType" | .bl _ => "bool" | .int _ => "int" | .str _ => "str" | .tup _ => "tuple" | .lst _ => "list" | .wls _ => "list" | .dct _ => "dict" | .ref _ => "" | .obj _ _ => ""
/-- it is of a built-in type -/
@[simp] def notObj : D → Bool
  | .obj _ _ => false
  | _ => true
def isTy : Ty → D → Bool
  | .int, .int _ => true
  | .int, .bl _ => true
  | .bool, .bl _ => true
  | .str, .str _ => true
  | .tuple, .tup _ => true
  | .list, .lst _ => true
  | .list, .wls _ => true
  | .dict, .dct _ => true
  | _, _ => false
theorem kit_isTy {K : PySem.W.Frag} (T : Ty) (d : D) (h : ∀ k, d ≠ .ref k) (ho : notObj d = true) : PySem.W.kitOne K (.type (tyD d)) (.type T.nm) = some (isTy T d) := by
  cases d <;> cases T <;> first | rfl | exact absurd rfl (h _) | exact absurd ho (by intro z; cases z)
theorem kit_any {K : PySem.W.Frag} (d : D) (h : ∀ k, d ≠ .ref k) (ho : notObj d = true) : ∀ Ts : List Ty, PySem.W.kitAny K (.type (tyD d)) (Ts.map fun T : Ty => Value.type T.nm) = some (Ts.any fun T => isTy T d)
  | [] => rfl
  | T :: Ts => by
    show (match PySem.W.kitOne K (.type (tyD d)) (.type T.nm) with | some true => some true | some false => PySem.W.kitAny K (.type (tyD d)) (Ts.map fun T : Ty => Value.type T.nm) | none => none) = _
    rw [kit_isTy T d h ho]
    cases e : isTy T d with
    | true => simp [e]
    | false => simp only [List.any_cons, e, Bool.false_or]; exact kit_any d h ho Ts
theorem ty_of {w : Wd} {d : D} {v : V} (r : Rt w d v) (ho : notObj d = true) : TyX w.K w.H v (.type (tyD d)) := by
  cases d with
  | non => cases (show v = .non from r); exact .base .non
  | bl b => cases (show v = .bl b from r); exact .base (.bl b)
  | int b => cases (show v = .int b from r); exact .base (.int b)
  | str b => cases (show v = .str b from r); exact .base (.str b)
  | tup ds =>
    obtain ⟨a, xs, rfl, h1, _⟩ := r
    rcases h1 with ⟨_, h | ⟨o, h⟩⟩ | ⟨o, its, n, e, hc, _⟩
    · exact .base (.tup h)
    · exact .fTuple h
    · exact .kTuple e hc
  | lst ds =>
    obtain ⟨a, xs, rfl, h, _⟩ := r
    exact .base (.lst h)
  | wls ds =>
    obtain ⟨a, xs, rfl, h1, _⟩ := r
    rcases h1 with ⟨_, h | ⟨o, h⟩⟩ | ⟨o, its, n, e, hc, _⟩
    · exact .base (.lst h)
    · exact .base (.frz h)
    · exact .kList e hc
  | dct ds =>
    obtain ⟨a, xs, rfl, h, _⟩ := r
    rcases h with h | ⟨o, h⟩
    · exact .base (.dK h)
    · exact .fDict h
  | ref k => exact r.elim
  | obj _ _ => cases ho
def isiM (Ts : List Ty) (ma : M Bv) : M D := bnd ma fun x => bnd (rd x) fun d => chk (notObj d) (rt (.bl (Ts.any fun T => isTy T d)))
section
variable {X : Cx} {W : WX} {a b e : Expr} {pos p p2 : Pos} {ma : M Bv}
theorem Rt.nref {w : Wd} {d : D} {v : V} (r : Rt w d v) : ∀ k, d ≠ .ref k := fun k e => by rw [e] at r; exact r
theorem ev_isi (T : Ty) {y : Str} (hm : X.mg "isinstance" = none) (hm2 : X.mg y = none) (hb : bootBuiltins y = some (.type T.nm)) (ha : PBv X W a ma) (hg : Gl X "isinstance" := by rfl) (hg2 : Gl X y := by rfl)
    (hdb : (y == ("__debug__" : Str)) = false := by decide) (hny : y ≠ "__name__" := by decide)
    (hst : starEach [a, .Name y p2] X.env = (false, eval a X.env) :: starEach [.Name y p2] X.env := by rfl) (hst2 : starEach [.Name y p2] X.env = (false, eval (.Name y p2) X.env) :: starEach [] X.env := by rfl)
    (hpl : (backTo pos (starEach [.Name y p2] X.env)).any (·.1) = false := by rfl) : PEv X W (.Call (.Name "isinstance" p) [a, .Name y p2] [] pos) (isiM [T] ma) := by
  refine PE.weak (pe_callB call_isi hg hm rfl (pa_cons ha (pa_cons (pe_bltn hg2 hm2 hb (v := .ty T.nm) rfl hny hdb) pa_nil hst2) hst) (by decide) (by decide) hst hpl) fun σ H Q q => ?_
  obtain ⟨Z, S, rfl, R, hw⟩ := q
  refine ⟨Z, S, rfl, R, Wp.bnd hw fun x S1 R1 T1 h1 u r1 => ?_⟩
  obtain ⟨d, t1, h2⟩ := R1.rd_ok (S0 := S) r1 h1
  obtain ⟨ho, h2⟩ := h2.chk
  refine ⟨u, .ty T.nm, .type (tyD d), .type T.nm, isTy T d, rfl, .ty _, ty_of t1 ho, kit_isTy T d t1.nref ho, ?_⟩
  have := (Wp.fin R1 h2).now (v := .bl (isTy T d)) (by show Rp _ _ _; unfold Rp; simp)
  exact this
theorem ev_isi2 (T U : Ty) {y z : Str} {p3 p4 : Pos} {k : Nat} (hm : X.mg "isinstance" = none) (hm2 : X.mg y = none) (hm3 : X.mg z = none) (hb : bootBuiltins y = some (.type T.nm)) (hb2 : bootBuiltins z = some (.type U.nm)) (ha : PBv X W a ma) (hg : Gl X "isinstance" := by rfl) (hg2 : Gl X y := by rfl) (hg3 : Gl X z := by rfl)
    (hdb : (y == ("__debug__" : Str)) = false := by decide) (hny : y ≠ "__name__" := by decide) (hdb2 : (z == ("__debug__" : Str)) = false := by decide) (hny2 : z ≠ "__name__" := by decide)
    (hst : starEach [a, .Tuple [.Name y p2, .Name z p3] k p4] X.env = (false, eval a X.env) :: starEach [.Tuple [.Name y p2, .Name z p3] k p4] X.env := by rfl)
    (hst2 : starEach [.Tuple [.Name y p2, .Name z p3] k p4] X.env = (false, eval (.Tuple [.Name y p2, .Name z p3] k p4) X.env) :: starEach [] X.env := by rfl)
    (hst3 : starEach [.Name y p2, .Name z p3] X.env = (false, eval (.Name y p2) X.env) :: starEach [.Name z p3] X.env := by rfl) (hst4 : starEach [.Name z p3] X.env = (false, eval (.Name z p3) X.env) :: starEach [] X.env := by rfl)
    (hpl : (backTo pos (starEach [.Tuple [.Name y p2, .Name z p3] k p4] X.env)).any (·.1) = false := by rfl) : PEv X W (.Call (.Name "isinstance" p) [a, .Tuple [.Name y p2, .Name z p3] k p4] [] pos) (isiM [T, U] ma) := by
  refine PE.weak (pe_callB call_isiT hg hm rfl (pa_cons ha (pa_cons (pe_tup (pa_cons (pe_bltn hg2 hm2 hb (v := .ty T.nm) rfl hny hdb) (pa_cons (pe_bltn hg3 hm3 hb2 (v := .ty U.nm) rfl hny2 hdb2) pa_nil hst4) hst3)) pa_nil hst2) hst) (by decide) (by decide) hst hpl) fun σ H Q q => ?_
  obtain ⟨Z, S, rfl, R, hw⟩ := q
  refine ⟨Z, S, rfl, R, Wp.bnd hw fun x S1 R1 T1 h1 u r1 => ?_⟩
  obtain ⟨d, t1, h2⟩ := R1.rd_ok (S0 := S) r1 h1
  obtain ⟨ho, h2⟩ := h2.chk
  refine ⟨by show 2 ≤ sizeLine; rw [sizeLine_eq]; decide, fun q hq => ?_⟩
  have t2 : Rt ((S1.up (upd S1.H q (.tup [.ty T.nm, .ty U.nm]))).wd X.K Z) d u := ((Tr.up (ext_new hq)).le (K := X.K) (Z := Z)).rt_still (ext_new hq) t1
  refine ⟨u, q, [.ty T.nm, .ty U.nm], .type (tyD d), [.type T.nm, .type U.nm], [T, U].any fun T => isTy T d, rfl, upd_same, .cons (.ty _) (.cons (.ty _) .nil), ty_of t2 ho, kit_any d t1.nref ho [T, U], ?_⟩
  exact (Wp.fin R1 h2) _ (ext_new hq) _ (by unfold Rp; rfl)
end
/-! ### sorted -/
def leS : D → D → Bool := dataLe false toP
def isInt : D → Bool
  | .int _ => true
  | _ => false
def isPair : D → Bool
  | .tup [.int _, .int _] => true
  | _ => false
def okSort (ds : List D) : Bool := ds.all isInt || ds.all isPair
def sortedD : D → Option Cell
  | .lst ds => if okSort ds = true then some (.lst (ds.mergeSort leS)) else none
  | .wls ds => if okSort ds = true then some (.lst (ds.mergeSort leS)) else none
  | _ => none
theorem isInt_of {d : D} (h : isInt d = true) : ∃ i, d = .int i := by cases d <;> first | exact ⟨_, rfl⟩ | cases h
theorem isPair_of {d : D} (h : isPair d = true) : ∃ i j, d = .tup [.int i, .int j] := by
  unfold isPair at h
  split at h
  · exact ⟨_, _, rfl⟩
  · cases h
theorem okSort_ok {ds : List D} (h : okSort ds = true) : AllAlike (ds.map toP) ∧ Sortable (ds.map toP) ∧ ∀ d ∈ ds, okN 2 d = true ∧ (toP d).depth ≤ 60 := by
  unfold okSort at h
  rw [Bool.or_eq_true] at h
  rcases h with h | h
  · have h' : ∀ d ∈ ds, ∃ i, d = .int i := fun d hd => isInt_of (List.all_eq_true.mp h d hd)
    refine ⟨fun d hd d' hd' => ?_, .inr fun d hd => ?_, fun d hd => ?_⟩
    · obtain ⟨x, hx, rfl⟩ := List.mem_map.mp hd
      obtain ⟨y, hy, rfl⟩ := List.mem_map.mp hd'
      obtain ⟨i, rfl⟩ := h' x hx
      obtain ⟨j, rfl⟩ := h' y hy
      rfl
    · obtain ⟨x, hx, rfl⟩ := List.mem_map.mp hd
      obtain ⟨i, rfl⟩ := h' x hx
      exact ⟨(fun z => by cases z), fun xs z => by cases z⟩
    · obtain ⟨i, rfl⟩ := h' d hd
      exact ⟨rfl, by simp [toP, PyData.depth]⟩
  · have h' : ∀ d ∈ ds, ∃ i j, d = .tup [.int i, .int j] := fun d hd => isPair_of (List.all_eq_true.mp h d hd)
    refine ⟨fun d hd d' hd' => ?_, .inl fun d hd => ?_, fun d hd => ?_⟩
    · obtain ⟨x, hx, rfl⟩ := List.mem_map.mp hd
      obtain ⟨y, hy, rfl⟩ := List.mem_map.mp hd'
      obtain ⟨i, j, rfl⟩ := h' x hx
      obtain ⟨k, l, rfl⟩ := h' y hy
      rfl
    · obtain ⟨x, hx, rfl⟩ := List.mem_map.mp hd
      obtain ⟨i, j, rfl⟩ := h' x hx
      exact ⟨_, _, rfl⟩
    · obtain ⟨i, j, rfl⟩ := h' d hd
      exact ⟨rfl, by simp [toP, toPs, PyData.depth, PyData.depthAll]⟩
def rSortedD (K : PySem.W.Frag) : List V → Hp → VK → Prop := fun vs H Q => ∃ (a : Addr) (ps : List (V × D)), vs = [V.ref a] ∧ SqL K H a (ps.map (·.1)) ∧ (∀ p ∈ ps, Dp K H p.1 (toP p.2)) ∧ AllAlike (ps.map fun p => toP p.2) ∧ Sortable (ps.map fun p => toP p.2) ∧ (∀ p ∈ ps, (toP p.2).depth ≤ 60) ∧
  ∀ p, H p = none → Q (.ref p) (upd H p (.lst ((ps.mergeSort (dataLe false fun q => toP q.2)).map (·.1))))
theorem each_zip {X : Cx} {pins : List (Addr × Obj)} {σ : L2.St} {H : Hp} {s : Shared} (I : Inv X pins σ H s) : ∀ {ps : List (V × D)} {us : List Value}, Vals (ps.map (·.1)) us → (∀ p ∈ ps, Dp X.K H p.1 (toP p.2)) →
    EachIs (fun v (p : V × D) => RelV p.1 v) us ps ∧ EachIs (fun v (p : V × D) => ∃ as, Reads s.heap v (toP p.2) as) us ps
  | [], _, h, _ => by cases h; exact ⟨.nil, .nil⟩
  | p :: ps, _, h, hd => by
    cases h with
    | cons r rr =>
      obtain ⟨h1, h2⟩ := each_zip I rr fun q hq => hd q (List.mem_cons_of_mem _ hq)
      exact ⟨.cons r h1, .cons (Dp.reads I _ _ _ (hd p List.mem_cons_self) r) h2⟩
theorem each_vals : ∀ {ps : List (V × D)} {us : List Value}, EachIs (fun v (p : V × D) => RelV p.1 v) us ps → Vals (ps.map (·.1)) us
  | _, _, .nil => .nil
  | _, _, .cons r rr => .cons r (each_vals rr)
theorem cr_sortedD {X : Cx} (hu : X.A.units + 65 < cLine) : CallR X (.builtin "sorted") (rSortedD X.K) := by
  intro pins s σ H vs us Q I r h
  obtain ⟨a, ps, rfl, hs, hd, hal, hk, hdep, q⟩ := h
  obtain ⟨its, rv, hl, hz⟩ := I.list hs
  rw [Vals.ref1 r]
  obtain ⟨h1, h2⟩ := each_zip I rv hd
  have hz' : ps.length ≤ sizeLine := by rw [List.length_map] at hz; exact hz
  refine sorted_data (enc := fun p => toP p.2) hl.isList h1 h2 hal hk hz' (fun b hb => by have := hdep b hb; omega) fun out ho eo => ?_
  obtain ⟨ep, he'⟩ := PyProof.Rows.sortedAll_at s.heap its out.toArray
  have hlen : ((ps.mergeSort (dataLe false fun q => toP q.2)).map (·.1)).length ≤ sizeLine := by
    rw [List.length_map, List.length_mergeSort]; exact hz'
  exact ⟨.ref _, upd H (s.heap.objs.size + 1) (.lst ((ps.mergeSort (dataLe false fun q => toP q.2)).map (·.1))), I.laid (t' := s.toks) (fun _ _ => PyProof.Rows.sortedAll_old) (Nat.le_succ _) ⟨hlen, out, ep, each_vals eo, he'⟩, rfl, q _ (I.hok.fresh (Nat.le_succ _))⟩
theorem rpL_pairs {w : Wd} : ∀ {ps : List (V × D)}, (∀ p ∈ ps, Rp w p.2 p.1) → RpL w (ps.map (·.2)) (ps.map (·.1))
  | [], _ => .nil
  | p :: ps, h => .cons (h p List.mem_cons_self) (rpL_pairs fun q hq => h q (List.mem_cons_of_mem _ hq))
theorem pairs_of_rpL {w : Wd} : ∀ {ds : List D} {xs : List V}, RpL w ds xs → ∃ ps : List (V × D), ps.map (·.1) = xs ∧ ps.map (·.2) = ds ∧ ∀ p ∈ ps, Rp w p.2 p.1
  | [], _, h => ⟨[], h.of_nil.symm, rfl, fun p hp => by cases hp⟩
  | d :: ds, _, h => by
    obtain ⟨x, xs, rfl, h1, h2⟩ := h.of_cons
    obtain ⟨ps, e1, e2, e3⟩ := pairs_of_rpL h2
    refine ⟨(x, d) :: ps, by simp [e1], by simp [e2], fun p hp => ?_⟩
    rcases List.mem_cons.mp hp with rfl | hp
    · exact h1
    · exact e3 p hp
theorem sort_pairs (ps : List (V × D)) : (ps.mergeSort (dataLe false fun q : V × D => toP q.2)).map (·.2) = (ps.map (·.2)).mergeSort leS := by
  refine List.map_mergeSort (f := fun q : V × D => q.2) (r := dataLe false fun q : V × D => toP q.2) (s := leS) ?_
  intro a ha b hb
  rfl
theorem c1_sorted {X : Cx} : C1F X sortedD (rSortedD X.K) := by
  intro Z σ S x u c Q R t e k
  have key : ∀ (a : Addr) (ds : List D) (xs : List V), u = .ref a → SqL X.K S.H a xs → RpL (S.wd X.K Z) ds xs → okSort ds = true → FinF X.K Z S (.lst (ds.mergeSort leS)) Q → rSortedD X.K [u] S.H Q := by
    intro a ds xs eu hs r ok k
    obtain ⟨h1, h2, h3⟩ := okSort_ok ok
    obtain ⟨ps, e1, e2, e3⟩ := pairs_of_rpL r
    subst e1 e2
    rw [List.map_map] at h1 h2
    refine ⟨a, ps, by rw [eu], hs, fun p hp => ?_, h1, h2, fun p hp => (h3 p.2 (List.mem_map.mpr ⟨p, hp, rfl⟩)).2, ?_⟩
    · exact dp_of 2 p.2 p.1 (h3 p.2 (List.mem_map.mpr ⟨p, hp, rfl⟩)).1 (e3 p hp)
    · refine k.lst R ?_
      rw [← sort_pairs]
      exact rpL_pairs fun p hp => e3 p (List.mem_mergeSort.mp hp)
  cases x with
  | lst ds =>
    obtain ⟨a, xs, rfl, h1, r1⟩ := t
    have e : (if okSort ds = true then some (Cell.lst (ds.mergeSort leS)) else none) = some c := e
    split at e
    · rename_i ok; cases e; exact key a ds xs rfl (.inl (.inl h1)) r1 ok k
    · cases e
  | wls ds =>
    obtain ⟨a, xs, rfl, h1, r1⟩ := t
    have e : (if okSort ds = true then some (Cell.lst (ds.mergeSort leS)) else none) = some c := e
    split at e
    · rename_i ok; cases e; exact key a ds xs rfl h1.sq r1 ok k
    · cases e
  | _ => cases e
/-! ### max, min of a list -/
def maxL : List Int → Int
  | [] => 0
  | [a] => a
  | a :: r => if a < maxL r then maxL r else a
def minL : List Int → Int
  | [] => 0
  | [a] => a
  | a :: r => if minL r < a then minL r else a
theorem maxL_mem : ∀ {ns : List Int}, ns ≠ [] → maxL ns ∈ ns ∧ ∀ y ∈ ns, y ≤ maxL ns
  | [], h => absurd rfl h
  | [a], _ => ⟨by simp [maxL], by simp [maxL]⟩
  | a :: b :: r, _ => by
    obtain ⟨h1, h2⟩ := maxL_mem (ns := b :: r) (by simp)
    have e : maxL (a :: b :: r) = if a < maxL (b :: r) then maxL (b :: r) else a := rfl
    rw [e]
    split
    · refine ⟨List.mem_cons_of_mem _ h1, fun y hy => ?_⟩
      rcases List.mem_cons.mp hy with rfl | hy
      · omega
      · exact h2 y hy
    · refine ⟨List.mem_cons_self, fun y hy => ?_⟩
      rcases List.mem_cons.mp hy with rfl | hy
      · omega
      · have := h2 y hy; omega
theorem minL_mem : ∀ {ns : List Int}, ns ≠ [] → minL ns ∈ ns ∧ ∀ y ∈ ns, minL ns ≤ y
  | [], h => absurd rfl h
  | [a], _ => ⟨by simp [minL], by simp [minL]⟩
  | a :: b :: r, _ => by
    obtain ⟨h1, h2⟩ := minL_mem (ns := b :: r) (by simp)
    have e : minL (a :: b :: r) = if minL (b :: r) < a then minL (b :: r) else a := rfl
    rw [e]
    split
    · refine ⟨List.mem_cons_of_mem _ h1, fun y hy => ?_⟩
      rcases List.mem_cons.mp hy with rfl | hy
      · omega
      · exact h2 y hy
    · refine ⟨List.mem_cons_self, fun y hy => ?_⟩
      rcases List.mem_cons.mp hy with rfl | hy
      · omega
      · have := h2 y hy; omega
def listI : D → Option (List Int)
  | .lst ds => intsOf ds
  | .wls ds => intsOf ds
  | _ => none
def maxD (d : D) : Option D := (listI d).bind fun ns => match ns with
  | [] => none
  | n :: r => some (.int (maxL (n :: r)))
def minD (d : D) : Option D := (listI d).bind fun ns => match ns with
  | [] => none
  | n :: r => some (.int (minL (n :: r)))
theorem listI_ok {K : PySem.W.Frag} {Z : Addr → Prop} {S : S8} {d : D} {u : V} {ns : List Int} (t : Rt (S.wd K Z) d u) (h : listI d = some ns) : ∃ a, u = .ref a ∧ SqL K S.H a (ns.map V.int) := by
  cases d with
  | lst ds =>
    obtain ⟨a, xs, rfl, h1, r1⟩ := t
    have h : intsOf ds = some ns := h
    rw [intsOf_map h] at r1
    exact ⟨a, rfl, by rw [← r1.of_ints]; exact .inl (.inl h1)⟩
  | wls ds =>
    obtain ⟨a, xs, rfl, h1, r1⟩ := t
    have h : intsOf ds = some ns := h
    rw [intsOf_map h] at r1
    exact ⟨a, rfl, by rw [← r1.of_ints]; exact h1.sq⟩
  | _ => cases h
theorem c1_max {X : Cx} : C1S X maxD (rMax X.K) := by
  intro Z σ S x u d Q R t e k
  unfold maxD at e
  cases q : listI x with
  | none => rw [q] at e; cases e
  | some ns =>
    rw [q] at e
    cases ns with
    | nil => cases e
    | cons n r =>
      cases e
      obtain ⟨a, rfl, hs⟩ := listI_ok t q
      refine ⟨a, n :: r, rfl, hs, by simp, fun m hm hall => ?_⟩
      obtain ⟨h1, h2⟩ := maxL_mem (ns := n :: r) (by simp)
      have : m = maxL (n :: r) := by
        have a := h2 m hm
        have b := hall _ h1
        omega
      rw [this]; exact k.now rp_int
theorem c1_min {X : Cx} : C1S X minD (rMin X.K) := by
  intro Z σ S x u d Q R t e k
  unfold minD at e
  cases q : listI x with
  | none => rw [q] at e; cases e
  | some ns =>
    rw [q] at e
    cases ns with
    | nil => cases e
    | cons n r =>
      cases e
      obtain ⟨a, rfl, hs⟩ := listI_ok t q
      refine ⟨a, n :: r, rfl, hs, by simp, fun m hm hall => ?_⟩
      obtain ⟨h1, h2⟩ := minL_mem (ns := n :: r) (by simp)
      have : m = minL (n :: r) := by
        have a := h2 m hm
        have b := hall _ h1
        omega
      rw [this]; exact k.now rp_int
end QB

/-! The pure layer, part 15: dicts made, methods. -/
namespace QB
open PySem PySem.Spec PyProof.Rows L2

section
variable {X : Cx} {W : WX} {pos : Pos}
theorem dc_go {K : PySem.W.Frag} {mg : Str → Option Value} {W : WX} {ts vs : List Nat} {ms : M Src} {f : D → M Unit} {cond : M Bool} {kx vx : M D} (hts : ∀ i ∈ ts, i ∈ vs) {σ : L2.St} {H : Hp} {Q : VK}
    (q : tG K mg W (rF K) (compM (.dct []) ms f cond (stepD kx vx) vs) σ H Q) : tDc (tGI K mg W ms) (tTg K mg WF ts f) (tT K mg WF cond) (tG K mg WF (rE K) kx) (tG K mg WF (rE K) vx) vs σ H Q := by
  obtain ⟨Z, S, rfl, R, hw⟩ := q
  refine ⟨Z, S, rfl, R, Wp.bnd hw fun sr S1 R1 T1 h1 J ok Dd hD => ?_⟩
  cases e0 : noOwn S1.env vs with
  | false => rw [e0] at h1; exact h1.elim
  | true =>
    cases e1 : sr.items S1.st with
    | none => rw [e0, e1] at h1; exact h1.elim
    | some l =>
      rw [e0, e1] at h1
      dsimp only at h1
      cases e2 : compGo f cond (stepD kx vx) vs sr l.length 0 (.dct []) (wipeE S1.env vs) S1.st with
      | bad => rw [e2] at h1; exact h1.elim
      | exc _ _ _ => rw [e2] at h1; exact h1.elim
      | ok c e' s' =>
        rw [e2] at h1
        dsimp only at h1
        have hSD : S.H Dd = none := by
          cases e : S.H Dd with
          | none => rfl
          | some o => exact absurd hD (T1.dom Dd (by rw [e]; intro z; cases z))
        have hzD : ¬ Z Dd := fun z => R1.zt Dd z hD
        refine ⟨CW K Z σ vs Dd S1 (compGo f cond (stepD kx vx) vs sr) (fun _ S' => Q (.ref Dd) S'.H), ⟨l.length, ?_⟩, ?_⟩
        · have R2 : Rel K (addZ Z Dd) σ (S1.up (upd S1.H Dd (.dK []))) := R1.addNew hD
          refine ⟨(S1.up (upd S1.H Dd (.dK []))).wip vs, .dct [], rfl, R2.wip vs, (Tr.up (ext_new hD)).trans Tr.wip, ⟨[], upd_same, RpK.nil⟩, c, e', s', e2, ?_⟩
          intro S' h2 h3 R3 T3 hc
          have R4 := R1.unw R3 (le_addZ T3 hD) e0
          have hl : S1.env.length = S'.env.length := by rw [R1.len, R3.len, wipe_length]
          have hcont := fun p c => cont_unw (S := S') (p := p) (c := c) hl e0
          have T4 : Tr S' (S'.unw S1.env vs) := Tr.sub rfl rfl rfl hcont
          exact h1 (S'.unw S1.env vs) (by show unE S1.env S'.env vs = _; rw [h2]) h3 R4.dropZ (T3.trans T4) _ ⟨Dd, rfl, hSD, hzD, R4, (T4.le (K := K) (Z := addZ Z Dd)).cell rfl hc⟩
        · intro i m H hcw
          have hstep : ∀ (σ2 : L2.St) (S3 : S8) (acc : Cell) (Nx : Hp → Prop), Rel K (addZ Z Dd) σ2 S3 → Tr S1 S3 → CellAt (S3.wd K (addZ Z Dd)) acc Dd →
              (∃ acc' e3 s3, stepD kx vx acc S3.env S3.st = .ok acc' e3 s3 ∧ ∀ S4, S4.env = e3 → S4.st = s3 → Rel K (addZ Z Dd) σ2 S4 → Tr S1 S4 → CellAt (S4.wd K (addZ Z Dd)) acc' Dd → Nx S4.H) →
              tG K mg WF (rE K) kx σ2 S3.H fun y H4 => tG K mg WF (rE K) vx σ2 H4 fun z H5 => ∃ kvs k, y = kV k ∧ H5 Dd = some (.dK kvs) ∧ kvs.length < sizeLine ∧ Nx (upd H5 Dd (.dK (putK kvs k z))) := by
            intro σ2 S3 acc Nx R3 T3 hc3 ⟨acc', e3, s3, hst, hnx⟩
            refine ⟨addZ Z Dd, S3, rfl, R3, ?_⟩
            obtain ⟨y, e4, s4, h2, h3⟩ := bnd_ok hst
            refine Wp.okd h2 fun S4 h4 h5 R4 T4 v rv => ?_
            refine ⟨addZ Z Dd, S4, rfl, R4, ?_⟩
            rw [← h4, ← h5] at h3
            obtain ⟨z, e6, s6, h6, h7⟩ := bnd_ok h3
            refine Wp.okd h6 fun S5 h8 h9 R5 T5 u ru => ?_
            have hc5 := T5.cellZ R4 (T4.cellZ R3 hc3)
            cases acc with
            | lst _ => cases h7
            | obj _ _ => cases h7
            | fdc _ => cases h7
            | dct kvs =>
              dsimp only at h7
              cases ek : keyOf y with
              | none => rw [ek] at h7; cases h7
              | some kk =>
                rw [ek] at h7
                obtain ⟨h10, h11⟩ := chk_ok h7
                cases h11
                obtain ⟨xs, hx, rx⟩ := hc5
                refine ⟨xs, kk, keyOf_rp ek rv, hx, by rw [rx.length]; exact szOk_lt h10, ?_⟩
                have nf : ∀ ob u, S5.H Dd ≠ some (.frz ob u) := fun ob u z => by
                  have hx' : S5.H Dd = some (.dK xs) := hx
                  rw [hx'] at z; cases z
                have R6 := R5.turn (o := .dK (putK xs kk u)) (.inr rfl) nf
                refine hnx (S5.up (upd S5.H Dd (.dK (putK xs kk u)))) h8 h9 R6 ((T3.trans (T4.trans T5)).turn hD) ⟨_, upd_same, ?_⟩
                have lt := le_turn (K := K) (S := S5) (Z := addZ Z Dd) (o := .dK (putK xs kk u)) (.inl (.inr rfl)) nf
                exact (lt.rpK _ _ rx).put (lt.rp _ _ ru)
          rcases comp_turn (te := fun σ2 H3 Nx => tG K mg WF (rE K) kx σ2 H3 fun y H4 => tG K mg WF (rE K) vx σ2 H4 fun z H5 => ∃ kvs k, y = kV k ∧ H5 Dd = some (.dK kvs) ∧ kvs.length < sizeLine ∧ Nx (upd H5 Dd (.dK (putK kvs k z)))) (mg := mg) (cond := cond) (f := f) (ts := ts) hD ok hts hstep i m H hcw with ⟨hs, S', c', rfl, hq⟩ | h
          · exact .inl ⟨hs, hq⟩
          · exact .inr h

theorem fr_dc {kx vx tg iter : Expr} {ifs : List Expr} {scope : Scope} {own : List (Str × Nat)} {ts : List Nat} {ms : M Src} {f : D → M Unit} {cond : M Bool} {mk mv : M D} (hc : X.calm = true) (hN : X.N.Nodup) (hi : PIt X W tg iter ms) (ok : BlkOk X.N X.env.scope scope own)
    (hg : ∀ (s : Shared) (H : Hp) (C : Addr) (cl : List (Str × Addr)) (fp : List Addr), PTg (X.blk s H scope (compEnvC scope cl C X.env) fp) WF tg ts f)
    (ht : ∀ (s : Shared) (H : Hp) (C : Addr) (cl : List (Str × Addr)) (fp : List Addr), PTsv (X.blk s H scope (compEnvC scope cl C X.env) fp) WF ifs cond)
    (hk : ∀ (s : Shared) (H : Hp) (C : Addr) (cl : List (Str × Addr)) (fp : List Addr), PEv (X.blk s H scope (compEnvC scope cl C X.env) fp) WF kx mk)
    (he : ∀ (s : Shared) (H : Hp) (C : Addr) (cl : List (Str × Addr)) (fp : List Addr), PEv (X.blk s H scope (compEnvC scope cl C X.env) fp) WF vx mv)
    (hts : ∀ i ∈ ts, i ∈ own.map (·.2)) (hs : ∀ x, foldedSetIterable iter X.env x = pure x := by intro _; rfl) :
    PFr X W (.DictComp kx vx [⟨tg, iter, ifs, 0⟩] scope pos) (compM (.dct []) ms f cond (stepD mk mv) (own.map (·.2))) :=
  PE.weak (pe_dc (g := tTg X.K X.mg WF ts f) (tt := tT X.K X.mg WF cond) (tk := tG X.K X.mg WF (rE X.K) mk) (tv := tG X.K X.mg WF (rE X.K) mv) hc hN hi ok hg ht hk he hs) fun _ _ _ q => dc_go hts q
theorem fr_dnew : PFr X W (.Dict [] [] pos) (rt (.dct [])) := by
  refine PE.weak pe_dnewK fun σ H Q q => ?_
  obtain ⟨Z, S, rfl, R, hw⟩ := q
  intro p hp
  exact hw (S.up (upd S.H p (.dK []))) rfl rfl (R.up (ext_new hp)) (Tr.up (ext_new hp)) _ ⟨p, rfl, hp, fun z => R.zt p z hp, R.addNew hp, [], upd_same, RpK.nil⟩
/-! ### dict(pairs) -/
def pairsOf : List D → Option (List (Key × D))
  | [] => some []
  | .tup [k, v] :: r => (keyOf k).bind fun kk => (pairsOf r).map ((kk, v) :: ·)
  | _ => none
def mergeD (kvs : List (Key × D)) : List (Key × D) → List (Key × D)
  | [] => kvs
  | (k, v) :: r => mergeD (putD kvs k v) r
theorem rpK_merge {w : Wd} : ∀ {more : List (Key × D)} {kvs : List (Key × D)} {es ms : List (Key × V)}, RpK w kvs es → RpK w more ms → RpK w (mergeD kvs more) (mergeK es ms)
  | [], kvs, es, ms, h, h2 => by rw [h2.of_nil]; exact h
  | (k, v) :: r, kvs, es, ms, h, h2 => by
    obtain ⟨x, xs, rfl, h3, h4⟩ := h2.of_cons
    show RpK w (mergeD (putD kvs k v) r) (mergeK (putK es k x) xs)
    exact rpK_merge (h.put h3) h4
theorem pairs_ok {K : PySem.W.Frag} {Z : Addr → Prop} {S : S8} : ∀ {ds : List D} {xs : List V} {kvs : List (Key × D)}, RpL (S.wd K Z) ds xs → pairsOf ds = some kvs →
    ∃ ps es, xs = ps.map V.ref ∧ Paired (fun p (kv : Key × V) => SqT K S.H p [kV kv.1, kv.2]) ps es ∧ RpK (S.wd K Z) kvs es
  | [], _, _, h, e => by cases e; exact ⟨[], [], h.of_nil, .nil, RpK.nil⟩
  | d :: ds, _, kvs, h, e => by
    obtain ⟨x, xs, rfl, h1, h2⟩ := h.of_cons
    unfold pairsOf at e
    split at e
    · rename_i h0; cases h0
    · rename_i k v r h0
      cases h0
      cases ek : keyOf k with
      | none => rw [ek] at e; cases e
      | some kk =>
        rw [ek] at e
        cases er : pairsOf ds with
        | none => rw [er] at e; cases e
        | some l =>
          rw [er] at e; cases e
          obtain ⟨ps, es, rfl, hp, hk⟩ := pairs_ok h2 er
          unfold Rp at h1
          obtain ⟨a, ys, rfl, ht, hy⟩ := h1
          obtain ⟨y1, ys1, rfl, r1, hy1⟩ := hy.of_cons
          obtain ⟨y2, ys2, rfl, r2, hy2⟩ := hy1.of_cons
          rw [hy2.of_nil, keyOf_rp ek r1] at ht
          exact ⟨a :: ps, (kk, y2) :: es, rfl, .cons ht.sq hp, .cons r2 hk⟩
    · cases e
def rDictP (K : PySem.W.Frag) : List V → Hp → VK → Prop := fun xs H Q => ∃ (a : Addr) (ps : List Addr) (kvs : List (Key × V)), xs = [.ref a] ∧ SqL K H a (ps.map V.ref) ∧ Paired (fun p kv => SqT K H p [kV kv.1, kv.2]) ps kvs ∧
  ∀ p, H p = none → Q (.ref p) (upd H p (.dK (mergeK [] kvs)))
def dictD : D → Option Cell
  | .lst ds => (pairsOf ds).map fun kvs => .dct (mergeD [] kvs)
  | .wls ds => (pairsOf ds).map fun kvs => .dct (mergeD [] kvs)
  | _ => none
theorem c1_dict : C1F X dictD (rDictP X.K) := by
  intro Z σ S x u c Q R t e k
  have key : ∀ (a : Addr) (ds : List D) (xs : List V) (kvs : List (Key × D)), u = .ref a → SqL X.K S.H a xs → RpL (S.wd X.K Z) ds xs → pairsOf ds = some kvs → FinF X.K Z S (.dct (mergeD [] kvs)) Q → rDictP X.K [u] S.H Q := by
    intro a ds xs kvs eu hs r ep k
    obtain ⟨ps, es, rfl, hp, hk⟩ := pairs_ok r ep
    exact ⟨a, ps, es, by rw [eu], hs, hp, fun p h0 => k p _ h0 ⟨_, upd_same, (le_new R h0).rpK _ _ (rpK_merge RpK.nil hk)⟩⟩
  cases x with
  | lst ds =>
    obtain ⟨a, xs, rfl, h1, r1⟩ := t
    have e : (pairsOf ds).map (fun kvs => Cell.dct (mergeD [] kvs)) = some c := e
    cases ep : pairsOf ds with
    | none => rw [ep] at e; cases e
    | some kvs => rw [ep] at e; cases e; exact key a ds xs kvs rfl (.inl (.inl h1)) r1 ep k
  | wls ds =>
    obtain ⟨a, xs, rfl, h1, r1⟩ := t
    have e : (pairsOf ds).map (fun kvs => Cell.dct (mergeD [] kvs)) = some c := e
    cases ep : pairsOf ds with
    | none => rw [ep] at e; cases e
    | some kvs => rw [ep] at e; cases e; exact key a ds xs kvs rfl h1.sq r1 ep k
  | _ => cases e
/-! ### d == {} -/
def rEqE : R2 := fun x y H Q => ∃ a b ks, x = .ref a ∧ y = .ref b ∧ Rd H a (.dK ks) ∧ Rd H b (.dK []) ∧ Q (.bl (ks.length == 0)) H
theorem op_eq_empty (hu : X.A.units < cLine) : OpR X (compareOp .Eq) rEqE := by
  intro pins s σ H x y v u Q I rx ry h
  obtain ⟨a, b, ks, rfl, rfl, ea, eb, q⟩ := h
  obtain rfl : v = Value.ref a := rx
  obtain rfl : u = Value.ref b := ry
  obtain ⟨_, ya, va, ra, da⟩ := dk_rd I.hok ea
  obtain ⟨_, yb, vb, rb, db⟩ := dk_rd I.hok eb
  have hl : ks.length = va.length := ra.length
  have hb : vb = [] := by cases rb; rfl
  subst hb
  refine PySem.W.keq_eq (knd := mixKind X.prog X.w) (r := true) ya yb da db hu (fun h => ?_) (fin_bl I q (by rw [hl]; simp))
  have : va = [] := List.eq_nil_of_length_eq_zero h
  subst this
  exact .nil
theorem op_ne_empty (hu : X.A.units < cLine) : OpR X (compareOp .NotEq) (fun x y H Q => ∃ a b ks, x = .ref a ∧ y = .ref b ∧ Rd H a (.dK ks) ∧ Rd H b (.dK []) ∧ Q (.bl (!(ks.length == 0))) H) := by
  intro pins s σ H x y v u Q I rx ry h
  obtain ⟨a, b, ks, rfl, rfl, ea, eb, q⟩ := h
  obtain rfl : v = Value.ref a := rx
  obtain rfl : u = Value.ref b := ry
  obtain ⟨_, ya, va, ra, da⟩ := dk_rd I.hok ea
  obtain ⟨_, yb, vb, rb, db⟩ := dk_rd I.hok eb
  have hl : ks.length = va.length := ra.length
  have hb : vb = [] := by cases rb; rfl
  subst hb
  refine PySem.W.keq_ne (knd := mixKind X.prog X.w) (r := true) ya yb da db hu (fun h => ?_) (fin_bl I q (by rw [hl]; simp))
  have : va = [] := List.eq_nil_of_length_eq_zero h
  subst this
  exact .nil
def eqED : Op2 := fun x y => match x, y with
  | .dct kvs, .dct [] => some (.bl (kvs.length == 0))
  | _, _ => none
def neED : Op2 := fun x y => match x, y with
  | .dct kvs, .dct [] => some (.bl (!(kvs.length == 0)))
  | _, _ => none
theorem opB_eqE : OpB X eqED rEqE := by
  intro Z σ S x y u v d Q R t1 t2 e
  unfold eqED at e
  split at e
  · cases e
    obtain ⟨a, es, rfl, h1, r1⟩ := t1
    obtain ⟨b, fs, rfl, h2, r2⟩ := t2
    rw [r2.of_nil] at h2
    exact ⟨_, rfl, fun q => ⟨a, b, es, rfl, rfl, h1, h2, by rw [r1.length]; exact q⟩⟩
  · cases e
theorem opB_neE : OpB X neED (fun x y H Q => ∃ a b ks, x = .ref a ∧ y = .ref b ∧ Rd H a (.dK ks) ∧ Rd H b (.dK []) ∧ Q (.bl (!(ks.length == 0))) H) := by
  intro Z σ S x y u v d Q R t1 t2 e
  unfold neED at e
  split at e
  · cases e
    obtain ⟨a, es, rfl, h1, r1⟩ := t1
    obtain ⟨b, fs, rfl, h2, r2⟩ := t2
    rw [r2.of_nil] at h2
    exact ⟨_, rfl, fun q => ⟨a, b, es, rfl, rfl, h1, h2, by rw [r1.length]; exact q⟩⟩
  · cases e
/-! ### methods -/
def isLst (o : D) (s : Store) : Bool := match o with
  | .ref k => match s[k]? with
    | some (.lst _) => true
    | _ => false
  | _ => false
theorem isLst_ok {o : D} {s : Store} (h : isLst o s = true) : ∃ k ds, o = .ref k ∧ s[k]? = some (.lst ds) := by
  unfold isLst at h
  split at h
  · rename_i k
    split at h
    · rename_i ds e; exact ⟨k, ds, rfl, e⟩
    · cases h
  · cases h
def needL (o : D) : M Unit := fun e s => match isLst o s with
  | true => .ok () e s
  | false => .bad
def appC (d : D) (c : Cell) : Option Cell := match c with
  | .lst ds => if szOk (ds.length + 1) = true then some (.lst (ds ++ [d])) else none
  | _ => none
def appM (mo me : M D) : M D := bnd mo fun o => bnd (needL o) fun _ => bnd me fun d => bnd (updM o (appC d)) fun _ => rt .non
section
variable {o a b : Expr} {apos : Pos} {mo ma mb : M D}
theorem needL_ok {K : PySem.W.Frag} {Z : Addr → Prop} {σ : L2.St} {S : S8} {o : D} {α : Type} {f : Unit → M α} {Q : α → S8 → Prop} {Qx : Exn → S8 → Prop} (h : Wp K Z σ S (bnd (needL o) f S.env S.st) Q Qx) : isLst o S.st = true ∧ Wp K Z σ S (f () S.env S.st) Q Qx := by
  rw [bnd_app] at h
  unfold needL at h
  cases e : isLst o S.st with
  | false => rw [e] at h; exact h.elim
  | true => rw [e] at h; exact ⟨rfl, h⟩
theorem ev_append (ho : PEv X W o mo) (ha : PEv X W a ma) (hst : starEach [a] X.env = (false, eval a X.env) :: starEach [] X.env := by rfl) (hbase : attributeBase o "append" X.env (eval o X.env) = eval o X.env := by rfl)
    (hfew : ((backTo pos (starEach [a] X.env)).all (fun x => !x.1) && (backToKw pos (keywordEach [] X.env)).all (fun x => x.1.isSome)
      && decide (([a] : List Expr).length + ([] : List Keyword).length + (if ([] : List Keyword).isEmpty then 0 else 1) < 30)) = true := by rfl)
    (hline : (apos.endLine == pos.line) = true := by rfl) (hplain : (backTo pos (starEach [] X.env)).any (·.1) = false := by rfl) : PEv X W (.Call (.Attribute o "append" apos) [a] [] pos) (appM mo ma) := by
  refine PE.weak (pe_bm PySem.F.plainAttrs_list PySem.F.slot_list_append PySem.F.type_list_append mt_append ho (pa_cons ha pa_nil hst) hbase hfew hline hst hplain) fun σ H Q q => ?_
  obtain ⟨Z, S, rfl, R, hw⟩ := q
  refine ⟨Z, S, rfl, R, Wp.bnd hw fun x S1 R1 T1 h1 u r1 => ?_⟩
  obtain ⟨hl, h2⟩ := needL_ok h1
  obtain ⟨k, ds, rfl, e1⟩ := isLst_ok hl
  have r1' : Rp (S1.wd X.K Z) (.ref k) u := r1
  unfold Rp at r1'
  obtain ⟨hk, rfl⟩ := r1'
  obtain ⟨xs, e2, r2⟩ := R1.cell (.inr k) _ e1
  refine ⟨.inl ⟨rfl, xs, .inl (.inl e2)⟩, Z, S1, rfl, R1, Wp.bnd h2 fun d S2 R2 T2 h3 v rv => ?_⟩
  rw [bnd_app, updM_ref] at h3
  cases e3 : S2.st[k]? with
  | none => rw [e3] at h3; exact h3.elim
  | some c =>
    rw [e3] at h3
    dsimp only at h3
    cases c with
    | dct kvs => exact h3.elim
    | obj _ _ => exact h3.elim
    | fdc _ => exact h3.elim
    | lst es =>
      obtain ⟨ys, e4, r4⟩ := R2.cell (.inr k) _ e3
      by_cases hz : szOk (es.length + 1) = true
      · have hc : appC d (.lst es) = some (.lst (es ++ [d])) := by show (if szOk (es.length + 1) = true then _ else _) = _; rw [if_pos hz]
        rw [hc] at h3
        refine ⟨_, ys, v, rfl, rfl, ?_, by rw [r4.length]; exact szOk_lt hz, ?_⟩
        · show S2.H (S1.ad (.inr k)) = _
          rw [← T2.c k hk]; exact e4
        · have R3 := R2.put (c := .lst (es ++ [d])) (o := .lst (ys ++ [v])) e3 (R2.nofrz e3 rfl) fun w' le e => ⟨_, e, (le.rpL _ _ r4).append (.cons (le.rp _ _ rv) .nil)⟩
          have q := h3 (S2.putCell k (.lst (es ++ [d])) (.lst (ys ++ [v]))) rfl rfl R3 (Tr.put e3 (R2.nofrz e3 rfl)) .non (by show Rp _ .non .non; unfold Rp; rfl)
          have ea : (S1.wd X.K Z).c k = S2.ad (.inr k) := (T2.c k hk).symm
          rw [ea]
          exact q
      · have hc : appC d (.lst es) = none := by show (if szOk (es.length + 1) = true then _ else _) = _; rw [if_neg hz]
        rw [hc] at h3; exact h3.elim
/-- o.pop(i) -/
def popM (mo mi : M D) : M D := bnd mo fun o => bnd (needL o) fun _ => bnd mi fun i => fun e s => match o, i with
  | .ref k, .int j => match s[k]? with
    | some (.lst ds) => match decide (-(2 ^ 63) ≤ j ∧ j < 2 ^ 63), seqIndex? j ds.length with
      | true, some n => match ds[n]? with
        | some d => .ok d e (s.set k (.lst (ds.eraseIdx n)))
        | none => .bad
      | _, _ => .bad
    | _ => .bad
  | _, _ => .bad
theorem ev_popAt (ho : PEv X W o mo) (ha : PEv X W a ma) (hst : starEach [a] X.env = (false, eval a X.env) :: starEach [] X.env := by rfl) (hbase : attributeBase o "pop" X.env (eval o X.env) = eval o X.env := by rfl)
    (hfew : ((backTo pos (starEach [a] X.env)).all (fun x => !x.1) && (backToKw pos (keywordEach [] X.env)).all (fun x => x.1.isSome)
      && decide (([a] : List Expr).length + ([] : List Keyword).length + (if ([] : List Keyword).isEmpty then 0 else 1) < 30)) = true := by rfl)
    (hline : (apos.endLine == pos.line) = true := by rfl) (hplain : (backTo pos (starEach [] X.env)).any (·.1) = false := by rfl) : PEv X W (.Call (.Attribute o "pop" apos) [a] [] pos) (popM mo ma) := by
  refine PE.weak (pe_bm PySem.F.plainAttrs_list PySem.F.slot_list_pop PySem.F.type_list_pop mt_popAt ho (pa_cons ha pa_nil hst) hbase hfew hline hst hplain) fun σ H Q q => ?_
  obtain ⟨Z, S, rfl, R, hw⟩ := q
  refine ⟨Z, S, rfl, R, Wp.bnd hw fun x S1 R1 T1 h1 u r1 => ?_⟩
  obtain ⟨hl, h2⟩ := needL_ok h1
  obtain ⟨k, ds, rfl, e1⟩ := isLst_ok hl
  have r1' : Rp (S1.wd X.K Z) (.ref k) u := r1
  unfold Rp at r1'
  obtain ⟨hk, rfl⟩ := r1'
  obtain ⟨xs, e2, r2⟩ := R1.cell (.inr k) _ e1
  refine ⟨.inl ⟨rfl, xs, .inl (.inl e2)⟩, Z, S1, rfl, R1, Wp.bnd h2 fun d S2 R2 T2 h3 v rv => ?_⟩
  cases d with
  | int j =>
    dsimp only at h3
    cases e3 : S2.st[k]? with
    | none => rw [e3] at h3; exact h3.elim
    | some c =>
      rw [e3] at h3
      cases c with
      | dct kvs => exact h3.elim
      | obj _ _ => exact h3.elim
      | fdc _ => exact h3.elim
      | lst es =>
        dsimp only at h3
        obtain ⟨ys, e4, r4⟩ := R2.cell (.inr k) _ e3
        cases e5 : decide (-(2 ^ 63) ≤ j ∧ j < 2 ^ 63) with
        | false => rw [e5] at h3; exact h3.elim
        | true =>
          rw [e5] at h3
          have hj := of_decide_eq_true e5
          cases e6 : seqIndex? j es.length with
          | none => rw [e6] at h3; exact h3.elim
          | some n =>
            rw [e6] at h3
            dsimp only at h3
            cases e7 : es[n]? with
            | none => rw [e7] at h3; exact h3.elim
            | some d =>
              rw [e7] at h3
              obtain ⟨y, e8, r8⟩ := r4.get e7
              have rv' : Rp (S2.wd X.K Z) (.int j) v := rv
              unfold Rp at rv'
              refine ⟨_, ys, j, n, y, rfl, by rw [rv'], ?_, hj.1, hj.2, by rw [r4.length]; exact e6, e8, ?_⟩
              · show S2.H (S1.ad (.inr k)) = _
                rw [← T2.c k hk]; exact e4
              · have R3 := R2.put (c := .lst (es.eraseIdx n)) (o := .lst (ys.eraseIdx n)) e3 (R2.nofrz e3 rfl) fun w' le e => ⟨_, e, (le.rpL _ _ r4).erase n⟩
                have q := h3 (S2.putCell k (.lst (es.eraseIdx n)) (.lst (ys.eraseIdx n))) rfl rfl R3 (Tr.put e3 (R2.nofrz e3 rfl)) y ((Tr.put e3 (R2.nofrz e3 rfl)).rp r8)
                have ea : (S1.wd X.K Z).c k = S2.ad (.inr k) := (T2.c k hk).symm
                rw [ea]
                exact q
  | _ => exact h3.elim
/-- d.get(k, x) -/
def isDct (o : D) (s : Store) : Bool := match o with
  | .dct _ => true
  | .ref k => match s[k]? with
    | some (.dct _) => true
    | _ => false
  | _ => false
def dctOf (o : D) (s : Store) : Option (List (Key × D)) := match o with
  | .dct kvs => some kvs
  | .ref k => match s[k]? with
    | some (.dct kvs) => some kvs
    | _ => none
  | _ => none
theorem dctOf_ok {K : PySem.W.Frag} {Z : Addr → Prop} {σ : L2.St} {S : S8} (R : Rel K Z σ S) {o : D} {v : V} {kvs : List (Key × D)} (r : Rp (S.wd K Z) o v) (h : dctOf o S.st = some kvs) : ∃ a es, v = .ref a ∧ Rd S.H a (.dK es) ∧ RpK (S.wd K Z) kvs es := by
  cases o with
  | dct l =>
    cases h; unfold Rp at r; obtain ⟨a, es, rfl, ⟨o, h1⟩, h2⟩ := r
    exact ⟨a, es, rfl, .inr ⟨o, h1⟩, h2⟩
  | ref k =>
    have h' : (match S.st[k]? with | some (.dct kvs) => some kvs | _ => none) = some kvs := h
    cases e1 : S.st[k]? with
    | none => rw [e1] at h'; cases h'
    | some c =>
      rw [e1] at h'
      cases c with
      | lst _ => cases h'
      | obj _ _ => cases h'
      | fdc _ => cases h'
      | dct l =>
        cases h'
        unfold Rp at r
        obtain ⟨es, e2, r2⟩ := R.cell (.inr k) _ e1
        exact ⟨_, es, r.2, .inl e2, r2⟩
  | _ => cases h
def needD (o : D) : M Unit := fun e s => match (dctOf o s).isSome with
  | true => .ok () e s
  | false => .bad
def getM (mo mk md : M D) : M D := bnd mo fun o => bnd (needD o) fun _ => bnd mk fun k => bnd md fun d => fun e s => match dctOf o s, keyOf k with
  | some kvs, some kk => .ok ((valD kvs kk).getD d) e s
  | _, _ => .bad
theorem needD_ok {K : PySem.W.Frag} {Z : Addr → Prop} {σ : L2.St} {S : S8} {o : D} {α : Type} {f : Unit → M α} {Q : α → S8 → Prop} {Qx : Exn → S8 → Prop} (h : Wp K Z σ S (bnd (needD o) f S.env S.st) Q Qx) : (∃ kvs, dctOf o S.st = some kvs) ∧ Wp K Z σ S (f () S.env S.st) Q Qx := by
  rw [bnd_app] at h
  unfold needD at h
  cases e : dctOf o S.st with
  | none => rw [e] at h; exact h.elim
  | some kvs => rw [e] at h; exact ⟨⟨kvs, rfl⟩, h⟩
theorem ev_get2 (hu : X.A.units + 1 < cLine) (ho : PEv X W o mo) (ha : PEv X W a ma) (hb : PEv X W b mb) (m : M2 X o "get" apos a b pos) : PEv X W (.Call (.Attribute o "get" apos) [a, b] [] pos) (getM mo ma mb) := by
  refine PE.weak (pe_dget2 hu ho ha hb m) fun σ H Q q => ?_
  obtain ⟨Z, S, rfl, R, hw⟩ := q
  refine ⟨Z, S, rfl, R, Wp.bnd hw fun x S1 R1 T1 h1 u r1 => ?_⟩
  obtain ⟨⟨kvs, hl⟩, h2⟩ := needD_ok h1
  obtain ⟨a, es, rfl, hd, rk⟩ := dctOf_ok R1 r1 hl
  refine ⟨a, rfl, .inl ⟨es, hd⟩, Z, S1, rfl, R1, Wp.bnd h2 fun k S2 R2 T2 h3 y ry => ?_⟩
  refine ⟨Z, S2, rfl, R2, Wp.bnd h3 fun d S3 R3 T3 h4 z rz => ?_⟩
  cases e5 : dctOf x S3.st with
  | none => rw [e5] at h4; exact h4.elim
  | some kvs' =>
    rw [e5] at h4
    cases e6 : keyOf k with
    | none => rw [e6] at h4; exact h4.elim
    | some kk =>
      rw [e6] at h4
      dsimp only at h4
      obtain ⟨a', es', ea, hd', rk'⟩ := dctOf_ok R3 ((T2.trans T3).rp r1) e5
      cases ea
      refine ⟨valV es' kk, .inl ⟨es', kk, hd', keyOf_rp e6 ry, rfl⟩, ?_⟩
      refine h4.here R3 _ ?_
      show Rp _ _ _
      rcases rk'.val kk with ⟨h5, h6⟩ | ⟨d', v', h5, h6, h7⟩
      · rw [h5, h6]; exact rz
      · rw [h5, h6]; exact h7
end
end
end QB

/-! The pure layer, part 16: calls, promises. -/
namespace QB
open PySem PySem.Spec PyProof.Rows L2

inductive FR where
  | ok (d : D) (s : Store) | exc (x : Exn) (s : Store) | bad
abbrev Fn := List D → Store → FR
def startE (n : Nat) (ds : List D) : PEnv := ds.map Slot.val ++ List.replicate (n - ds.length) Slot.no
def SR.fr : SR → FR
  | .ret d _ s => .ok d s
  | .nx _ s => .ok .non s
  | .exc x _ s => .exc x s
  | _ => .bad
/-- a def with n names, np of them parameters -/
def runF (n np : Nat) (m : SM) : Fn := fun ds s => if ds.length = np then (m (startE n ds) s).fr else .bad
def callM (g : Fn) (ms : M (List D)) : M D := bnd ms fun ds => fun e s => match g ds s with
  | .ok d s' => .ok d e s'
  | .exc x s' => .exc x e s'
  | .bad => .bad
section
variable {K : PySem.W.Frag} {mg : Str → Option Value} {Z : Addr → Prop} {σ : L2.St} {S : S8}
def WpF (K : PySem.W.Frag) (mg : Str → Option Value) (Z : Addr → Prop) (S : S8) (r : FR) (Q : VK) (E : XK) : Prop := match r with
  | .ok d s => ∀ S' : S8, S'.env = [] → S'.st = s → Rel K Z [] S' → Tr S S' → ∀ v, Rp (S'.wd K Z) d v → Q v S'.H
  | .exc x s => ∀ S' : S8, S'.env = [] → S'.st = s → Rel K Z [] S' → Tr S S' → ∀ C dd, ExAt mg (S'.wd K Z) x C dd → E (.ref C) (some dd) S'.H
  | .bad => False
def spOf (K : PySem.W.Frag) (mg : Str → Option Value) (np : Nat) (g : Fn) : Sp := fun vs H Q E => ∃ Z S ds, S.env = [] ∧ S.H = H ∧ Rel K Z [] S ∧ RpL (S.wd K Z) ds vs ∧ ds.length = np ∧ WpF K mg Z S (g ds S.st) Q E
theorem spOf_len {np : Nat} {g : Fn} {vs : List V} {H : Hp} {Q : VK} {E : XK} (h : spOf K mg np g vs H Q E) : vs.length = np := by
  obtain ⟨Z, S, ds, _, _, _, r, l, _⟩ := h
  rw [r.length]; exact l
/-! ### the caller's side: its own slots are foreign to the callee -/
def ownZ (Z : Addr → Prop) (S : S8) : Addr → Prop := fun a => Z a ∨ ∃ i c, S.cont (.inl i) = some c ∧ S.ad (.inl i) = a
abbrev S8.bare (S : S8) : S8 := { S with env := [] }
theorem bare_cont {p : Pl} {c : Cell} (h : S.bare.cont p = some c) : ∃ k, p = .inr k ∧ S.cont p = some c := by
  cases p with
  | inr k => exact ⟨k, rfl, h⟩
  | inl i => cases h
theorem mu_bare {a : Addr} : Mu (ownZ Z S) S.bare a ↔ Mu Z S a := by
  constructor
  · rintro ((z | ⟨i, c, h, e⟩) | ⟨p, c, h, e⟩)
    · exact .inl z
    · exact .inr ⟨_, c, h, e⟩
    · obtain ⟨k, rfl, h2⟩ := bare_cont h
      exact .inr ⟨_, c, h2, e⟩
  · rintro (z | ⟨p, c, h, e⟩)
    · exact .inl (.inl z)
    · cases p with
      | inl i => exact .inl (.inr ⟨i, c, h, e⟩)
      | inr k => exact .inr ⟨.inr k, c, h, e⟩
theorem le_bare : (S.wd K Z).Le (S.bare.wd K (ownZ Z S)) := ⟨rfl, fun a o e m => ⟨e, fun z => m (mu_bare.mp z)⟩, Nat.le_refl _, fun _ _ => rfl, fun _ _ _ h => h⟩
theorem Rel.bare (R : Rel K Z σ S) : Rel K (ownZ Z S) [] S.bare where
  len := rfl
  val := fun i d h => by simp at h
  own := fun i c h => by simp at h
  cell := fun p c h => by
    obtain ⟨k, rfl, h2⟩ := bare_cont h
    exact le_bare.cell rfl (R.cell _ c h2)
  inj := fun p q c d hp hq e => by
    obtain ⟨k, rfl, h1⟩ := bare_cont hp
    obtain ⟨j, rfl, h2⟩ := bare_cont hq
    exact R.inj _ _ c d h1 h2 e
  zf := fun p c h => by
    obtain ⟨k, rfl, h2⟩ := bare_cont h
    rintro (z | ⟨i, d, h3, e⟩)
    · exact R.zf _ c h2 z
    · have := R.inj _ _ d c h3 h2 e
      cases this
  zt := fun a z => by
    rcases z with z | ⟨i, c, h, e⟩
    · exact R.zt a z
    · rw [← e]; exact (R.cell _ c h).ne
/-- the caller's slots again -/
def adBack (S S1 : S8) : Pl → Addr
  | .inl i => S.ad (.inl i)
  | .inr k => S1.ad (.inr k)
abbrev S8.back (S S1 : S8) : S8 := ⟨S.env, S1.st, adBack S S1, S1.H⟩
theorem mu_back {S1 : S8} (he : S1.env = []) {a : Addr} : Mu (ownZ Z S) S1 a ↔ Mu Z (S.back S1) a := by
  constructor
  · rintro ((z | ⟨i, c, h, e⟩) | ⟨p, c, h, e⟩)
    · exact .inl z
    · exact .inr ⟨.inl i, c, h, e⟩
    · cases p with
      | inr k => exact .inr ⟨.inr k, c, h, e⟩
      | inl i =>
        have h' : QB.cont S1.env S1.st (.inl i) = some c := h
        rw [he] at h'; cases h'
  · rintro (z | ⟨p, c, h, e⟩)
    · exact .inl (.inl z)
    · cases p with
      | inl i => exact .inl (.inr ⟨i, c, h, e⟩)
      | inr k => exact .inr ⟨.inr k, c, h, e⟩
theorem le_back {S1 : S8} (he : S1.env = []) : (S1.wd K (ownZ Z S)).Le ((S.back S1).wd K Z) := ⟨rfl, fun a o e m => ⟨e, fun z => m ((mu_back he).mpr z)⟩, Nat.le_refl _, fun _ _ => rfl, fun _ _ _ h => h⟩
theorem Rel.back {S1 : S8} (R : Rel K Z σ S) (R1 : Rel K (ownZ Z S) [] S1) (T : Tr S.bare S1) (he : S1.env = []) : Rel K Z σ (S.back S1) ∧ Tr S (S.back S1) := by
  have le : (S.wd K Z).Le ((S.back S1).wd K Z) := by
    have l1 := T.le (K := K) (Z := ownZ Z S)
    have l2 := le_bare (K := K) (Z := Z) (S := S)
    have l3 := le_back (K := K) (Z := Z) (S := S) he
    exact ⟨rfl, fun a o e m => by
      obtain ⟨e2, m2⟩ := l2.still a o e m
      obtain ⟨e3, m3⟩ := l1.still a o e2 m2
      exact l3.still a o e3 m3, l1.n, (fun k h => l1.c k h), fun a o u h => T.frz a o u h⟩
  have hown : ∀ i c, S.cont (.inl i) = some c → S1.H (S.ad (.inl i)) = S.H (S.ad (.inl i)) := fun i c h => by
    have n := (R.cell _ c h).ne
    cases e : S.H (S.ad (.inl i)) with
    | none => exact absurd e n
    | some o =>
      refine T.keep _ o e fun p d hp eq => ?_
      obtain ⟨k, rfl, h2⟩ := bare_cont hp
      have := R.inj _ _ d c h2 h eq
      cases this
  refine ⟨⟨R.len, fun i d h => ?_, R.own, fun p c h => ?_, fun p q c d hp hq e => ?_, fun p c h z => ?_, fun a z => R1.zt a (.inl z)⟩, ?_⟩
  · obtain ⟨v, e, r⟩ := R.val i d h
    exact ⟨v, e, le.rp d v r⟩
  · cases p with
    | inl i => exact le.cell (hown i c h) (R.cell _ c h)
    | inr k => exact (le_back he).cell rfl (R1.cell (.inr k) c h)
  · cases p with
    | inl i =>
      cases q with
      | inl j => exact R.inj _ _ c d hp hq e
      | inr k => exact absurd (Or.inr ⟨i, c, hp, e⟩) (R1.zf (.inr k) d hq)
    | inr k =>
      cases q with
      | inl j => exact absurd (Or.inr ⟨j, d, hq, e.symm⟩) (R1.zf (.inr k) c hp)
      | inr j => exact R1.inj _ _ c d hp hq e
  · cases p with
    | inl i => exact R.zf (.inl i) c h z
    | inr k => exact R1.zf (.inr k) c h (.inl z)
  · refine ⟨T.dom, fun a o e n => T.keep a o e fun p c hp eq => ?_, fun p c h => ?_, T.n, T.c, T.frz, fun i c h => ⟨⟨c, h⟩, rfl⟩⟩
    · obtain ⟨k, rfl, h2⟩ := bare_cont hp
      exact n _ c h2 eq
    · cases p with
      | inl i => exact .inl ⟨.inl i, c, h, rfl⟩
      | inr k =>
        rcases T.fresh (.inr k) c h with ⟨q, d, hq, eq⟩ | hn
        · obtain ⟨j, rfl, h2⟩ := bare_cont hq
          exact .inl ⟨_, d, h2, eq⟩
        · exact .inr hn
theorem ExAt.le {w w' : Wd} (l : w.Le w') {x : Exn} {C dd : Addr} (h : ExAt mg w x C dd) : ExAt mg w' x C dd := by
  obtain ⟨h1, vs, h2, h3⟩ := h
  exact ⟨h1, vs, ⟨(l.still dd _ h2.2 h2.1).2, (l.still dd _ h2.2 h2.1).1⟩, l.rpF _ _ h3⟩
end
section
variable {X : Cx} {W : WX} {x : Str} {p pos : Pos} {e : Expr} {es : List Expr} {k : Nat} {f : Addr} {fd : FuncData} {ps : List Str} {g : Fn} {ms : M (List D)}
/-- the callee's world is not larger: what it lets out holds for us -/
theorem le_back' {K : PySem.W.Frag} {Z : Addr → Prop} {S S1 : S8} (he : S1.env = []) : ((S.back S1).wd K Z).Le (S1.wd K (ownZ Z S)) := ⟨rfl, fun a o e m => ⟨e, fun z => m ((mu_back he).mp z)⟩, Nat.le_refl _, fun _ _ => rfl, fun _ _ _ h => h⟩
theorem call_go {np : Nat} {σ : L2.St} {H : Hp} {Q : VK} (hn : ∀ ds s, g ds s ≠ .bad → ds.length = np) (q : tG X.K X.mg W (rE X.K) (callM g ms) σ H Q) : tCallS (spOf X.K X.mg np g) (WE W) (tGA X.K X.mg W ms) σ H Q := by
  obtain ⟨Z, S, rfl, R, hw⟩ := q
  refine ⟨Z, S, rfl, R, Wp.bnd hw fun ds S1 R1 T1 h1 vs r1 => ?_⟩
  refine ⟨ownZ Z S1, S1.bare, ds, rfl, rfl, R1.bare, le_bare.rpL _ _ r1, hn ds S1.st fun z => ?_, ?_⟩
  · rw [z] at h1; exact h1
  · show WpF X.K X.mg (ownZ Z S1) S1.bare (g ds S1.st) Q _
    cases e : g ds S1.st with
    | bad => rw [e] at h1; exact h1
    | ok d s' =>
      rw [e] at h1
      intro S2 he hs R2 T2 v rv
      obtain ⟨R3, T3⟩ := R1.back R2 T2 he
      exact h1 (S1.back S2) rfl hs R3 T3 v ((le_back he).rp _ _ rv)
    | exc x s' =>
      rw [e] at h1
      intro S2 he hs R2 T2 C dd hx
      obtain ⟨R3, T3⟩ := R1.back R2 T2 he
      exact h1 (S1.back S2) rfl hs R3 T3 C dd (ExAt.le (le_back he) hx)
theorem ev_call {np : Nat} (F : FnOk X.prog X.w X.K X.mg X.base (L2.CX X.prog X.w) k f fd ps (spOf X.K X.mg np g)) (hn : ∀ ds s, g ds s ≠ .bad → ds.length = np) (hr : Room k X.A) (hm : X.mg x = some (.ref f)) (hk : PySem.W.keepIn X.K (.ref f) = true) (hb : Binds X.K fd ps []) (tk : L2.Takes X W) (ha : PAv X W (e :: es) ms)
    (hg : Gl X x := by rfl) (hdb : (x == ("__debug__" : Str)) = false := by decide) (he : starEach (e :: es) X.env = (false, eval e X.env) :: starEach es X.env := by rfl) (hpl : (backTo pos (starEach es X.env)).any (·.1) = false := by rfl) :
    PEv X W (.Call (.Name x p) (e :: es) [] pos) (callM g ms) :=
  PE.weak (L2.pe_callS F hr hg hm hk hb (fun σ => L2.passAt tk σ) ha hdb he hpl) fun _ _ _ q => call_go hn q
/-! ### the callee's side -/
theorem start_get {N : List Str} {ds : List D} {vs : List V} {w : Wd} (r : RpL w ds vs) (i : Nat) (d : D) (h : (startE N.length ds)[i]? = some (.val d)) : ∃ v, (start N vs)[i]? = some (some v) ∧ Rp w d v := by
  unfold startE at h
  by_cases l : i < ds.length
  · rw [List.getElem?_append_left (by simp; exact l)] at h
    rw [List.getElem?_map] at h
    cases e : ds[i]? with
    | none => rw [e] at h; cases h
    | some d' =>
      rw [e] at h; cases h
      obtain ⟨v, e2, r2⟩ := r.get e
      refine ⟨v, ?_, r2⟩
      show (vs.map some ++ _)[i]? = _
      rw [List.getElem?_append_left (by rw [List.length_map, r.length]; exact l), List.getElem?_map, e2]; rfl
  · rw [List.getElem?_append_right (by simp; omega)] at h
    rw [List.getElem?_replicate] at h
    split at h
    · cases h
    · cases h
theorem start_own {n : Nat} {ds : List D} (i : Nat) (c : Cell) : (startE n ds)[i]? ≠ some (.own c) := by
  intro h
  unfold startE at h
  by_cases l : i < ds.length
  · rw [List.getElem?_append_left (by simp; exact l), List.getElem?_map] at h
    cases e : ds[i]? with
    | none => rw [e] at h; cases h
    | some d' => rw [e] at h; cases h
  · rw [List.getElem?_append_right (by simp; omega), List.getElem?_replicate] at h
    split at h
    · cases h
    · cases h
abbrev S8.withE (S : S8) (e : PEnv) : S8 := { S with env := e }
theorem Rel.entry {K : PySem.W.Frag} {Z : Addr → Prop} {S : S8} {N : List Str} {ds : List D} {vs : List V} (R : Rel K Z [] S) (he : S.env = []) (r : RpL (S.wd K Z) ds vs) (hl : ds.length ≤ N.length) : Rel K Z (start N vs) (S.withE (startE N.length ds)) ∧ Tr S (S.withE (startE N.length ds)) := by
  have hc : ∀ p c, (S.withE (startE N.length ds)).cont p = some c → S.cont p = some c := fun p c h => by
    cases p with
    | inr k => exact h
    | inl i =>
      have h' : (match (startE N.length ds)[i]? with | some (.own c) => some c | _ => none) = some c := h
      split at h'
      · rename_i e; exact absurd e (start_own i _)
      · cases h'
  have le : (S.wd K Z).Le ((S.withE (startE N.length ds)).wd K Z) := le_sub rfl rfl rfl hc
  refine ⟨⟨?_, fun i d h => ?_, fun i c h => absurd h (start_own i c), fun p c h => le.cell rfl (R.cell p c (hc p c h)), fun p q c d hp hq e => R.inj p q c d (hc _ _ hp) (hc _ _ hq) e, fun p c h => R.zf p c (hc p c h), R.zt⟩, Tr.sub rfl rfl rfl hc⟩
  · show (startE N.length ds).length = (start N vs).length
    unfold startE L2.start
    simp [r.length]
  · obtain ⟨v, e, r2⟩ := start_get r i d h
    exact ⟨v, e, le.rp d v r2⟩
theorem WpS.ofF {K : PySem.W.Frag} {mg : Str → Option Value} {Z : Addr → Prop} {S S0 : S8} {r : SR} {Q : VK} {E : XK} (T : Tr S0 S) (h : WpF K mg Z S0 r.fr Q E) : WpS K mg (fun cls d _ H' => E cls d H') Z S r { nx := fun _ H' => Q .non H', rt := Q } := by
  have fin : ∀ {σ' : L2.St} {S' : S8}, Rel K Z σ' S' → Tr S S' → ∃ S2 : S8, S2.env = [] ∧ S2.st = S'.st ∧ S2.H = S'.H ∧ Rel K Z [] S2 ∧ Tr S0 S2 ∧ (S'.wd K Z).Le (S2.wd K Z) := by
    intro σ' S' R' T'
    have hc : ∀ p c, S'.bare.cont p = some c → S'.cont p = some c := fun p c h => by
      obtain ⟨k, rfl, h2⟩ := bare_cont h; exact h2
    have le : (S'.wd K Z).Le (S'.bare.wd K Z) := le_sub rfl rfl rfl hc
    exact ⟨S'.bare, rfl, rfl, rfl, ⟨rfl, fun i d h => by simp at h, fun i c h => by simp at h, fun p c h => le.cell rfl (R'.cell p c (hc p c h)), fun p q c d hp hq e => R'.inj p q c d (hc _ _ hp) (hc _ _ hq) e, fun p c h => R'.zf p c (hc p c h), R'.zt⟩,
      (T.trans T').trans (Tr.sub rfl rfl rfl hc), le⟩
  cases r with
  | nx e s =>
    intro σ' S' h1 h2 R' T'
    obtain ⟨S2, a1, a2, a3, a4, a5, a6⟩ := fin R' T'
    have := h S2 a1 (a2.trans h2) a4 a5 .non (by unfold Rp; rfl)
    rw [a3] at this; exact this
  | ret d e s =>
    intro σ' S' h1 h2 R' T' v rv
    obtain ⟨S2, a1, a2, a3, a4, a5, a6⟩ := fin R' T'
    have := h S2 a1 (a2.trans h2) a4 a5 v (a6.rp _ _ rv)
    rw [a3] at this; exact this
  | exc x e s =>
    intro σ' S' h1 h2 R' T' C dd hx
    obtain ⟨S2, a1, a2, a3, a4, a5, a6⟩ := fin R' T'
    have := h S2 a1 (a2.trans h2) a4 a5 C dd (ExAt.le a6 hx)
    rw [a3] at this; exact this
  | bk _ _ => exact h.elim
  | ct _ _ => exact h.elim
  | bad => exact h.elim
theorem runF_len {n np : Nat} {m : SM} : ∀ ds s, runF n np m ds s ≠ .bad → ds.length = np := fun ds s h => by
  unfold runF at h
  by_cases e : ds.length = np
  · exact e
  · rw [if_neg e] at h; exact absurd rfl h
section
variable {P : Program} {w : World} {K : PySem.W.Frag} {mg : Str → Option Value} {base : Heap} {qual : Str} {params : Arguments} {body : List Stmt} {scope : Scope}
/-- a def keeps its promise -/
theorem fn_ok {N : List Str} {n np : Nat} {m : SM} (F : FunD K x qual params body scope [] [] f fd) (S : FnScope N ps scope) (hn : N.length = n) (hp : ps.length = np)
    (hbody : ∀ (cdv : Value) (A : Around) (outer : List Env) (s : Shared) (H : Hp) (E : XK), Room k (A.deeper (envOfC qual scope s.heap.objs.size f cdv)) →
      let X := cxOf (L2.CX P w) P w K mg base N qual scope f cdv A outer s H E
      L2.Takes X (fun cls d _ H' => E cls d H') → PassesOwn (model X.prog X.w) X.A X.env X.xe → PSsv X (fun cls d _ H' => E cls d H') body m) : FnOk P w K mg base (L2.CX P w) (k + 1) f fd ps (spOf K mg np (runF n np m)) := by
  refine F.ok S (fun vs H Q E h => (spOf_len h).trans hp.symm) fun cdv A outer s H vs Q E hr h => ?_
  obtain ⟨Z, S1, ds, h1, rfl, R, r, hl, hw⟩ := h
  refine ⟨_, hbody cdv A outer s S1.H E hr (L2.takes_of rfl rfl rfl rfl) (L2.passes_of rfl), ?_⟩
  have hle : ds.length ≤ N.length := by
    have := congrArg List.length S.pre
    rw [List.length_take] at this
    omega
  obtain ⟨R1, T1⟩ := R.entry (N := N) h1 r hle
  refine ⟨Z, S1.withE (startE N.length ds), rfl, R1, ?_⟩
  have hw' : WpF K mg Z S1 (m (startE N.length ds) S1.st).fr Q E := by
    have e : runF n np m ds S1.st = (m (startE N.length ds) S1.st).fr := by
      unfold runF; rw [if_pos hl, hn]
    rw [← e]; exact hw
  exact WpS.ofF T1 hw'
end
end
end QB

/-! The pure layer, part 17: constants of the module, lists assigned, calls with keywords. -/
namespace QB
open PySem PySem.Spec PyProof.Rows L2
section
variable {X : Cx} {W : WX} {pos : Pos}
theorem ev_gint {x : Str} {i : Int} (h : ∃ t, X.mg x = some (.int i t)) (hg : Gl X x := by rfl) (hd : (x == ("__debug__" : Str)) = false := by decide) : PEv X W (.Name x pos) (rt (.int i)) := by
  obtain ⟨t, h⟩ := h
  exact ev_glob hg h (v := .int i) ⟨t, rfl⟩ (fun w _ => rp_int) hd
theorem PFr.frzL {e : Expr} {m : M Cell} (h : PFr X W e m) : PEv X W e (frzL m) := by
  refine PE.weak h.frz fun σ H Q q => ?_
  obtain ⟨Z, S, rfl, R, hw⟩ := q
  refine ⟨Z, S, rfl, R, ?_⟩
  have hw' : Wp X.K Z σ S (bnd m (fun c => match c with | .lst ds => rt (D.lst ds) | _ => fail) S.env S.st) (fun a S' => ∀ v, rE X.K Z σ S S' a v → Q v S'.H) (Qx X.K X.mg W Z σ) := hw
  show Wp X.K Z σ S (bnd m (fun c => rt c.d) S.env S.st) _ _
  rw [bnd_app] at hw' ⊢
  cases e1 : m S.env S.st with
  | bad => rw [e1] at hw'; exact hw'
  | exc x e' s' => rw [e1] at hw'; exact hw'
  | ok c e' s' =>
    rw [e1] at hw'
    cases c with
    | lst ds => exact hw'
    | dct kvs => exact hw'.elim
    | obj _ _ => exact hw'.elim
    | fdc _ => exact hw'.elim
/-- name = [..] on one line, as a cell -/
theorem st_setLcC {i : Nat} {y : Str} {py spos : Pos} {elt tg iter : Expr} {ifs : List Expr} {scope : Scope} {own : List (Str × Nat)} {ts : List Nat} {ms : M Src} {f : D → M Unit} {cond : M Bool} {me : M D} (hc : X.calm = true) (hN : X.N.Nodup) (hy : X.N[i]? = some y) (hyl : X.env.scope.names.lookup y = some .local)
    (hsw : swapsWith (.ListComp elt [⟨tg, iter, ifs, 0⟩] scope pos) (some (.Name y py)) spos.line X.env = pure true) (hi : PIt X W tg iter ms) (ok : BlkOk X.N X.env.scope scope own)
    (hg : ∀ (s : Shared) (H : Hp) (C : Addr) (cl : List (Str × Addr)) (fp : List Addr), PTg (X.blk s H scope (compEnvC scope cl C X.env) fp) WF tg ts f)
    (ht : ∀ (s : Shared) (H : Hp) (C : Addr) (cl : List (Str × Addr)) (fp : List Addr), PTsv (X.blk s H scope (compEnvC scope cl C X.env) fp) WF ifs cond)
    (he : ∀ (s : Shared) (H : Hp) (C : Addr) (cl : List (Str × Addr)) (fp : List Addr), PEv (X.blk s H scope (compEnvC scope cl C X.env) fp) WF elt me)
    (hts : ∀ i ∈ ts, i ∈ own.map (·.2)) (hs : ∀ x, foldedSetIterable iter X.env x = pure x := by intro _; rfl) :
    PSv X W (.Assign [.Name y py] (.ListComp elt [⟨tg, iter, ifs, 0⟩] scope pos) spos) (asgS (cellM (compM (.lst []) ms f cond (stepL me) (own.map (·.2)))) (setM i)) := by
  refine PS.weak (ps_setLc (g := tTg X.K X.mg WF ts f) (tt := tT X.K X.mg WF cond) (te := tG X.K X.mg WF (rE X.K) me) hc hN hy hyl hsw hi ok hg ht he hs) fun D σ H q => ?_
  obtain ⟨Z, S, rfl, R, hw⟩ := q
  refine lc_go hts ⟨Z, S, rfl, R, ?_⟩
  have hw' := WpS.nx hw
  rw [bnd_app] at hw'
  unfold cellM at hw'
  rw [bnd_app] at hw'
  cases e1 : compM (.lst []) ms f cond (stepL me) (own.map (·.2)) S.env S.st with
  | bad => rw [e1] at hw'; exact hw'.elim
  | exc x e' s' => rw [e1] at hw'; exact fun S' h1 h2 R' T' => hw' σ S' h1 h2 R' T'
  | ok c e' s' =>
    rw [e1] at hw'
    intro S' h1 h2 R' T' v rv
    obtain ⟨p, rfl, hp, hz, R2, hcl⟩ := rv
    have R3 := R2.toCell hz hcl
    have T3 := T'.toCell (c := c) hp
    have r : Rp ((S'.pushCell c p).wd X.K Z) (.ref s'.length) (.ref p) := by
      unfold Rp
      refine ⟨?_, ?_⟩
      · show s'.length < (S'.st ++ [c]).length
        rw [h2]; simp
      · show V.ref p = V.ref (if s'.length = S'.st.length then p else _)
        rw [h2, if_pos rfl]
    exact hw' _ ((S'.pushCell c p).putSlot i (.ref s'.length)) (by show S'.env.set i _ = _; rw [h1]) (by show S'.st ++ [c] = _; rw [h2]) (R3.slot r) (T3.trans Tr.slot)
/-! ### calls with keywords -/
def permL {α : Type} (ix : List Nat) (l : List α) : List α := ix.filterMap fun i => l[i]?
theorem permL_vals {ix : List Nat} {zs : List V} {ws : List Value} (r : Vals zs ws) : Vals (permL ix zs) (permL ix ws) := by
  induction ix with
  | nil => exact .nil
  | cons i ix ih =>
    unfold permL at *
    rw [List.filterMap_cons, List.filterMap_cons]
    cases e : zs[i]? with
    | none =>
      have : ws[i]? = none := by
        rw [List.getElem?_eq_none_iff] at e ⊢
        rw [← r.length]; exact e
      rw [this]; exact ih
    | some z =>
      obtain ⟨u, hu, ru⟩ := r.get e
      rw [hu]; exact .cons ru ih
theorem permL_rp {w : Wd} {ix : List Nat} {ds : List D} {zs : List V} (r : RpL w ds zs) : RpL w (permL ix ds) (permL ix zs) := by
  induction ix with
  | nil => exact .nil
  | cons i ix ih =>
    unfold permL at *
    rw [List.filterMap_cons, List.filterMap_cons]
    cases e : ds[i]? with
    | none =>
      have : zs[i]? = none := by
        rw [List.getElem?_eq_none_iff] at e ⊢
        rw [r.length]; exact e
      rw [this]; exact ih
    | some z =>
      obtain ⟨u, hu, ru⟩ := r.get e
      rw [hu]; exact .cons ru ih
/-- how n positional values and the keywords ks bind -/
structure KwB (K : PySem.W.Frag) (fd : FuncData) (ps : List Str) (n : Nat) (ks : List Str) (ix : List Nat) : Prop where
  to : ∀ (s : Shared) (us ws : List Value), us.length = n → ws.length = ks.length → BindsTo s fd ⟨us, ks.zip ws⟩ (ps.zip (permL ix (us ++ ws)))
theorem kwB_of {K : PySem.W.Frag} {x qual : Str} {params : Arguments} {body : List Stmt} {scope : Scope} {kws : List (Str × V)} {f : Addr} {fd : FuncData} {ps : List Str} {n : Nat} {ks : List Str} {ix : List Nat} (F : FunD K x qual params body scope [] kws f fd)
    (h : ∀ (kV doc pm : Value) (an : Option Addr) (cdv ct : Value) (us ws : List Value), us.length = n → ws.length = ks.length → bindArgs (PySem.W.fnOf x qual params body scope .none kV doc pm an cdv ct) ⟨us, ks.zip ws⟩ = pure (ps.zip (permL ix (us ++ ws)))) : KwB K fd ps n ks ix := by
  obtain ⟨oc, od, dV, kV, doc, pm, an, cdv, ct, osl, rfl, lk, hcd, hD, hK⟩ := F.ex
  rcases hD with ⟨_, rfl⟩ | ⟨e, _⟩
  · exact ⟨fun s us ws l1 l2 => .of_eq (h kV doc pm an cdv ct us ws l1 l2)⟩
  · exact absurd rfl e
def tGK (K : PySem.W.Frag) (mg : Str → Option Value) (W : WX) (m : M (List D)) : TA := tGA K mg W m
def PKv (X : Cx) (W : WX) (kws : List Keyword) (m : M (List D)) : Prop := PK X kws (tGA X.K X.mg W m)
theorem PK.weak {X : Cx} {e : List Keyword} {t t' : TA} (h : PK X e t) (k : ∀ σ H Q, t' σ H Q → t σ H Q) : PK X e t' := ⟨fun pos pins s σ H Q I q => h.run pos pins s σ H Q I (k σ H Q q)⟩
theorem kv_nil : PKv X W [] (rt []) := by
  refine PK.weak pk_nil fun σ H Q q => ?_
  obtain ⟨Z, S, rfl, R, hw⟩ := q
  exact hw.here R [] RpL.nil
theorem kv_cons {nm : Option Str} {e : Expr} {kpos : Pos} {kws : List Keyword} {m : M D} {ms : M (List D)} (h : PEv X W e m) (hs : PKv X W kws ms) : PKv X W (⟨nm, e, kpos⟩ :: kws) (consM m ms) := by
  refine PK.weak (pk_cons h hs) fun σ H Q q => ?_
  obtain ⟨Z, S, rfl, R, hw⟩ := q
  refine ⟨Z, S, rfl, R, Wp.bnd hw fun d S1 R1 T1 h1 v r1 => ?_⟩
  refine ⟨Z, S1, rfl, R1, Wp.bnd h1 fun ds S2 R2 T2 h2 vs r2 => ?_⟩
  exact h2.here R2 _ (.cons (T2.rp r1) r2)
section
variable {x : Str} {p : Pos} {e : Expr} {es : List Expr} {kws : List Keyword} {k n np : Nat} {f : Addr} {fd : FuncData} {ps ks : List Str} {ix : List Nat} {g : Fn} {ms mk : M (List D)}
theorem run_fnK {pins : List (Addr × Obj)} {σ : L2.St} {H : Hp} {s : Shared} {Q : VK} {E : XK} {sp : Sp} {us ws : List Value} {vs zs : List V} (F : FnOk X.prog X.w X.K X.mg X.base (L2.CX X.prog X.w) k f fd ps sp) (hr : Room k X.A) (hb : KwB X.K fd ps n ks ix) (hx : L2.PassesAt (L2.CX X.prog X.w) X σ E)
    (I : Inv X pins σ H s) (r : Vals vs us) (rz : Vals zs ws) (l1 : vs.length = n) (l2 : zs.length = ks.length) (h : sp (permL ix (vs ++ zs)) H Q E) : wpAny (model X.prog X.w) X.A (call (.ref f) us (ks.zip ws)) (EP X pins σ Q) X.xe s := by
  have r2 := permL_vals (ix := ix) (r.append rz)
  refine wpAny_call (codeAny_mono (F.run X.A X.stack s H ⟨us, ks.zip ws⟩ (permL ix (us ++ ws)) (permL ix (vs ++ zs)) Q E hr I.env0 (hb.to s us ws (r.length.symm.trans l1) (rz.length.symm.trans l2)) r2 h) fun r s' hq => ?_)
  cases r with
  | error e => exact hx pins H s e s' I hq
  | ok fl =>
    cases fl with
    | ret u => exact I.after hq
    | next => exact False.elim hq
    | brk => exact False.elim hq
    | cont => exact False.elim hq
/-- f(k = v, ..) -/
def callK (g : Fn) (n m : Nat) (ix : List Nat) (ms mk : M (List D)) : M D := callM g (bnd ms fun ds => bnd mk fun es => chk (decide (ds.length = n ∧ es.length = m)) (rt (permL ix (ds ++ es))))
theorem callK_go {σ : L2.St} {H : Hp} {Q : VK} {m : Nat} (hn : ∀ ds s, g ds s ≠ .bad → ds.length = np) (q : tG X.K X.mg W (rE X.K) (callK g n m ix ms mk) σ H Q) :
    tGA X.K X.mg W ms σ H fun vs H1 => tGA X.K X.mg W mk σ H1 fun zs H2 => vs.length = n ∧ zs.length = m ∧ spOf X.K X.mg np g (permL ix (vs ++ zs)) H2 Q (WE W σ) := by
  obtain ⟨Z, S, rfl, R, hw⟩ := q
  have hw' : Wp X.K Z σ S (bnd ms (fun ds => bnd mk fun es => bnd (chk (decide (ds.length = n ∧ es.length = m)) (rt (permL ix (ds ++ es)))) fun ds => fun e s => match g ds s with
      | .ok d s' => .ok d e s'
      | .exc x s' => .exc x e s'
      | .bad => .bad) S.env S.st) (fun a S' => ∀ v, rE X.K Z σ S S' a v → Q v S'.H) (Qx X.K X.mg W Z σ) := by
    have e : callK g n m ix ms mk S.env S.st = bnd ms (fun ds => bnd mk fun es => bnd (chk (decide (ds.length = n ∧ es.length = m)) (rt (permL ix (ds ++ es)))) fun ds => fun e s => match g ds s with
      | .ok d s' => .ok d e s'
      | .exc x s' => .exc x e s'
      | .bad => .bad) S.env S.st := by
      unfold callK callM
      simp only [bnd_app]
      cases ms S.env S.st with
      | ok ds e1 s1 =>
        simp only [andThen_ok, bnd_app]
        cases mk e1 s1 with
        | ok es e2 s2 => rfl
        | exc _ _ _ => rfl
        | bad => rfl
      | exc _ _ _ => rfl
      | bad => rfl
    rw [← e]; exact hw
  refine ⟨Z, S, rfl, R, Wp.bnd hw' fun ds S1 R1 T1 h1 vs r1 => ?_⟩
  refine ⟨Z, S1, rfl, R1, Wp.bnd h1 fun es S2 R2 T2 h2 zs r2 => ?_⟩
  rw [bnd_app] at h2
  cases hb : decide (ds.length = n ∧ es.length = m) with
  | false => rw [hb] at h2; exact h2.elim
  | true =>
    rw [hb] at h2
    have h2 : Wp X.K Z σ S2 (match g (permL ix (ds ++ es)) S2.st with
      | .ok d s' => .ok d S2.env s'
      | .exc x s' => .exc x S2.env s'
      | .bad => .bad) (fun a S' => ∀ v, rE X.K Z σ S S' a v → Q v S'.H) (Qx X.K X.mg W Z σ) := h2
    have hl := of_decide_eq_true hb
    refine ⟨r1.length.trans hl.1, r2.length.trans hl.2, ownZ Z S2, S2.bare, permL ix (ds ++ es), rfl, rfl, R2.bare, le_bare.rpL _ _ (permL_rp ((T2.rpL r1).append r2)), hn _ S2.st fun z => ?_, ?_⟩
    · rw [z] at h2; exact h2
    · show WpF X.K X.mg (ownZ Z S2) S2.bare (g (permL ix (ds ++ es)) S2.st) Q _
      cases e : g (permL ix (ds ++ es)) S2.st with
      | bad => rw [e] at h2; exact h2
      | ok d s' =>
        rw [e] at h2
        intro S3 he hs R3 T3 v rv
        obtain ⟨R4, T4⟩ := R2.back R3 T3 he
        exact h2 (S2.back S3) rfl hs R4 T4 v ((le_back he).rp _ _ rv)
      | exc x s' =>
        rw [e] at h2
        intro S3 he hs R3 T3 C dd hx
        obtain ⟨R4, T4⟩ := R2.back R3 T3 he
        exact h2 (S2.back S3) rfl hs R4 T4 C dd (ExAt.le (le_back he) hx)
theorem ev_callK0 (F : FnOk X.prog X.w X.K X.mg X.base (L2.CX X.prog X.w) k f fd ps (spOf X.K X.mg np g)) (hn : ∀ ds s, g ds s ≠ .bad → ds.length = np) (hr : Room k X.A) (hm : X.mg x = some (.ref f)) (hk : PySem.W.keepIn X.K (.ref f) = true) (hb : KwB X.K fd ps 0 ks ix) (tk : L2.Takes X W) (hkw : PKv X W kws mk)
    (hg : Gl X x := by rfl) (hdb : (x == ("__debug__" : Str)) = false := by decide) (hall : (backToKw pos (keywordEach kws X.env)).all (·.1.isSome) = true := by rfl) (hks : (backToKw pos (keywordEach kws X.env)).filterMap (·.1) = ks := by rfl)
    (hpl : ((backTo pos (starEach [] X.env)).any (·.1) || (backToKw pos (keywordEach kws X.env)).any (·.1.isNone)) = false := by rfl) : PEv X W (.Call (.Name x p) [] kws pos) (callK g 0 ks.length ix (rt []) mk) := by
  refine ⟨fun pins s σ H Q I h => ?_⟩
  have h := callK_go hn h
  obtain ⟨Z, S, rfl, R, h⟩ := h
  have h2 := h.here R [] RpL.nil
  refine wpAny_Call_Name_kw (ld_glob I hg hm ?_ hdb)
  refine PySem.W.callWith_KW0 (h₀ := X.base) I.ok.mod.kin hk hall (thn (hkw.run pos pins s σ _ _ I h2) fun ws s2 ⟨zs, H2, I2, rz, l1, l2, q2⟩ => ⟨I2.kIn, ?_⟩) hpl
  rw [hks]
  exact run_fnK (us := []) (vs := []) F hr hb (L2.passAt tk σ) I2 .nil rz l1 l2 q2
theorem ev_callKn (F : FnOk X.prog X.w X.K X.mg X.base (L2.CX X.prog X.w) k f fd ps (spOf X.K X.mg np g)) (hn : ∀ ds s, g ds s ≠ .bad → ds.length = np) (hr : Room k X.A) (hm : X.mg x = some (.ref f)) (hk : PySem.W.keepIn X.K (.ref f) = true) (hb : KwB X.K fd ps n ks ix) (tk : L2.Takes X W) (ha : PAv X W (e :: es) ms) (hkw : PKv X W kws mk)
    (hg : Gl X x := by rfl) (hdb : (x == ("__debug__" : Str)) = false := by decide) (hall : (backToKw pos (keywordEach kws X.env)).all (·.1.isSome) = true := by rfl) (hks : (backToKw pos (keywordEach kws X.env)).filterMap (·.1) = ks := by rfl) (he : starEach (e :: es) X.env = (false, eval e X.env) :: starEach es X.env := by rfl)
    (hpl : ((backTo pos (starEach (e :: es) X.env)).any (·.1) || (backToKw pos (keywordEach kws X.env)).any (·.1.isNone)) = false := by rfl) : PEv X W (.Call (.Name x p) (e :: es) kws pos) (callK g n ks.length ix ms mk) := by
  refine ⟨fun pins s σ H Q I h => ?_⟩
  have h := callK_go hn h
  refine wpAny_Call_Name_kw (ld_glob I hg hm ?_ hdb)
  refine PySem.W.callWith_KW (h₀ := X.base) I.ok.mod.kin hk hall (thn (ha.run pos pins s σ H _ I h) fun us s1 ⟨vs, H1, I1, r, q⟩ => ?_) hpl he
  refine thn (hkw.run pos pins s1 σ H1 _ I1 q) fun ws s2 ⟨zs, H2, I2, rz, l1, l2, q2⟩ => ⟨I2.kIn, ?_⟩
  rw [hks]
  exact run_fnK F hr hb (L2.passAt tk σ) I2 r rz l1 l2 q2
end
/-! ### len(set(ints)), all different -/
def lenSetD (d : D) : Option D := (listI d).bind fun ns => if decide (ns.Nodup) && decide (ns.length ≤ 4000) then some (.int ns.length) else none
theorem ev_lenSet {a : Expr} {ma : M Bv} {p p2 q : Pos} (hm : X.mg "len" = none) (hm2 : X.mg "set" = none) (ha : PBv X W a ma) (hc : X.calm = true := by rfl) (hg : Gl X "len" := by rfl) (hg2 : Gl X "set" := by rfl)
    (na : starEach [a] X.env = (false, eval a X.env) :: starEach [] X.env := by rfl) : PEv X W (.Call (.Name "len" p) [.Call (.Name "set" p2) [a] [] q] [] pos) (op1M lenSetD ma) := by
  refine PE.weak (RZ.pe_lenSetI hg hm hg2 hm2 ha hc na) fun σ H Q q => ?_
  obtain ⟨Z, S, rfl, R, hw⟩ := q
  refine ⟨Z, S, rfl, R, Wp.bnd hw fun x S1 R1 T1 h1 u r1 => ?_⟩
  obtain ⟨d, t1, h2⟩ := R1.rd_ok (S0 := S) r1 h1
  obtain ⟨z, e, h3⟩ := Wp.opt h2
  unfold lenSetD at e
  cases el : listI d with
  | none => rw [el] at e; cases e
  | some ns =>
    rw [el] at e
    simp only [Option.bind] at e
    split at e
    · rename_i hh
      cases e
      simp only [Bool.and_eq_true, decide_eq_true_eq] at hh
      obtain ⟨a, rfl, hs⟩ := listI_ok t1 el
      exact ⟨a, ns, rfl, hs, hh.1, hh.2, (Wp.fin R1 h3).now rp_int⟩
    · cases e
end
end QB

/-! The pure layer, part 18: running it by simp. -/
namespace QB
open PySem PySem.Spec PyProof.Rows L2
section
variable {α β : Type} {e : PEnv} {s : Store} {d d2 : D} {c c2 : Cell} {k i j n m np : Nat} {x : Exn}
@[simp] theorem r_runF {b : SM} {ds : List D} : runF n np b ds s = if ds.length = np then (b (startE n ds) s).fr else .bad := rfl
@[simp] theorem r_fr_ret : (SR.ret d e s).fr = .ok d s := rfl
@[simp] theorem r_fr_nx : (SR.nx e s).fr = .ok .non s := rfl
@[simp] theorem r_fr_exc : (SR.exc x e s).fr = .exc x s := rfl
@[simp] theorem r_seqS {a b : SM} : seqS a b e s = (a e s).andThen b := rfl
@[simp] theorem r_asgS {a : M D} {f : D → M Unit} : asgS a f e s = ((a e s).andThen f).toS nxS := rfl
@[simp] theorem r_nxS {u : Unit} : nxS u e s = .nx e s := rfl
@[simp] theorem r_exprS {a : M D} : exprS a e s = (a e s).toS fun _ => SR.nx := rfl
@[simp] theorem r_retS {a : M D} : retS a e s = (a e s).toS fun d => SR.ret d := rfl
@[simp] theorem r_ifS {a : M Bool} {b c : SM} : ifS a b c e s = (a e s).toS fun t => match t with | true => b | false => c := rfl
@[simp] theorem r_parS {a : M (List D)} {f : List D → M Unit} : parS a f e s = ((a e s).andThen f).toS nxS := rfl
@[simp] theorem r_par2 {a b : D} : par2 i j [a, b] e s = .ok () ((e.set i (.val a)).set j (.val b)) s := rfl
@[simp] theorem r_par3 {a b c : D} : par3 i j k [a, b, c] e s = .ok () (((e.set i (.val a)).set j (.val b)).set k (.val c)) s := rfl
@[simp] theorem r_setM : setM i d e s = .ok () (e.set i (.val d)) s := rfl
@[simp] theorem r_varM : varM i e s = match e[i]? with | some (.val d) => .ok d e s | _ => .bad := rfl
@[simp] theorem r_bvarM : bvarM i e s = match e[i]? with | some (.val d) => .ok (.v d) e s | some (.own _) => .ok (.s i) e s | _ => .bad := rfl
@[simp] theorem r_toB {a : M D} : toB a e s = (a e s).andThen fun d => rt (.v d) := rfl
@[simp] theorem r_consM {a : M D} {b : M (List D)} : consM a b e s = (a e s).andThen fun d => bnd b fun ds => rt (d :: ds) := rfl
@[simp] theorem r_tupM {a : M (List D)} : tupM a e s = (a e s).andThen fun ds => chk (szOk ds.length) (rt (.tup ds)) := rfl
@[simp] theorem r_lstM {a : M (List D)} : lstM a e s = (a e s).andThen fun ds => chk (szOk ds.length) (rt (.lst ds)) := rfl
@[simp] theorem r_frz {a : M Cell} : frz a e s = (a e s).andThen fun c => rt c.d := rfl
@[simp] theorem r_cd_lst {l : List D} : (Cell.lst l).d = .lst l := rfl
@[simp] theorem r_cd_dct {l : List (Key × D)} : (Cell.dct l).d = .dct l := rfl
@[simp] theorem r_frzL {a : M Cell} : frzL a e s = (a e s).andThen fun c => match c with | .lst ds => rt (.lst ds) | _ => fail := rfl
@[simp] theorem r_cellM {a : M Cell} : cellM a e s = (a e s).andThen fun c => fun e s => .ok (.ref s.length) e (s ++ [c]) := rfl
@[simp] theorem r_op1M {f : D → Option D} {a : M Bv} : op1M f a e s = (a e s).andThen fun x => bnd (rd x) fun dx => opt (f dx) := rfl
@[simp] theorem r_op1F {f : D → Option Cell} {a : M Bv} : op1F f a e s = (a e s).andThen fun x => bnd (rd x) fun dx => opt (f dx) := rfl
@[simp] theorem r_op2M {f : Op2} {a b : M Bv} : op2M f a b e s = (a e s).andThen fun x => bnd b fun y => bnd (rd x) fun dx => bnd (rd y) fun dy => opt (f dx dy) := rfl
@[simp] theorem r_chainM {f f' : Op2} {a b c : M Bv} : chainM f f' a b c e s = (a e s).andThen fun x => bnd b fun y => bnd (rd x) fun dx => bnd (rd y) fun dy => bnd (opt (f dx dy)) fun z => match z with
  | .bl true => bnd c fun w => bnd (rd y) fun dy => bnd (rd w) fun dw => opt (f' dy dw)
  | .bl false => rt (.bl false)
  | _ => fail := rfl
@[simp] theorem r_boolM {a : M D} : boolM a e s = (a e s).andThen boolD := rfl
@[simp] theorem r_notM {a : M Bool} : notM a e s = (a e s).andThen fun b => rt (!b) := rfl
@[simp] theorem r_notV {a : M Bool} : notV a e s = (a e s).andThen fun b => rt (.bl (!b)) := rfl
@[simp] theorem r_andT {a b : M Bool} : andT a b e s = (a e s).andThen fun x => match x with | true => b | false => rt false := rfl
@[simp] theorem r_orT {a b : M Bool} : orT a b e s = (a e s).andThen fun x => match x with | true => rt true | false => b := rfl
@[simp] theorem r_andV {a : M Bool} {b : M D} : andV a b e s = (a e s).andThen fun x => match x with | true => b | false => rt (.bl false) := rfl
@[simp] theorem r_orV {a : M Bool} {b : M D} : orV a b e s = (a e s).andThen fun x => match x with | true => rt (.bl true) | false => b := rfl
@[simp] theorem r_ifM {a : M Bool} {b c : M α} : ifM a b c e s = (a e s).andThen fun x => match x with | true => b | false => c := rfl
@[simp] theorem r_isiM {Ts : List Ty} {a : M Bv} : isiM Ts a e s = (a e s).andThen fun x => bnd (rd x) fun d => chk (notObj d) (rt (.bl (Ts.any fun T => isTy T d))) := rfl
@[simp] theorem r_callM {g : Fn} {a : M (List D)} : callM g a e s = (a e s).andThen fun ds => fun e s => match g ds s with | .ok d s' => .ok d e s' | .exc x s' => .exc x e s' | .bad => .bad := rfl
@[simp] theorem r_chk {b : Bool} {a : M α} : chk b a e s = match b with | true => a e s | false => .bad := rfl
@[simp] theorem r_partM {a : M D} : partM a e s = (a e s).andThen intD1 := rfl
@[simp] theorem r_sliceM {a : M Bv} {l h : M (Option Int)} : sliceM a l h e s = (a e s).andThen fun x => bnd l fun l => bnd h fun h => bnd (rd x) fun d => opt (slD d l h) := rfl
@[simp] theorem r_rd_ref : rd (.v (.ref k)) e s = match s[k]? with | some c => .ok c.d e s | none => .bad := rfl
@[simp] theorem r_tupT {g : List D → M Unit} {ds : List D} : tupT n g (.tup ds) e s = if ds.length = n then g ds e s else .bad := by
  show (if ds.length = n then g ds else fail) e s = _
  split <;> rfl
@[simp] theorem r_consT {f : D → M Unit} {g : List D → M Unit} {ds : List D} : consT f g (d :: ds) e s = (f d e s).andThen fun _ => g ds := rfl
@[simp] theorem r_nilT : nilT [] e s = .ok () e s := rfl
@[simp] theorem r_subT {a b : M D} : subT a b d e s = (a e s).andThen fun o => bnd b fun i => putS o i d := rfl
@[simp] theorem r_putS {o i d : D} : putS o i d e s = updM o (fun c => putC c i d) e s := rfl
@[simp] theorem r_updM {f : Cell → Option Cell} : updM (.ref k) f e s = match s[k]? with | some c => (match f c with | some c' => .ok () e (s.set k c') | none => .bad) | none => .bad := rfl
@[simp] theorem r_appM {a b : M D} : appM a b e s = (a e s).andThen fun o => bnd (needL o) fun _ => bnd b fun d => bnd (updM o (appC d)) fun _ => rt .non := rfl
@[simp] theorem r_needL {o : D} : needL o e s = match isLst o s with | true => .ok () e s | false => .bad := rfl
@[simp] theorem r_isLst : isLst (.ref k) s = match s[k]? with | some (.lst _) => true | _ => false := rfl
@[simp] theorem r_appC {l : List D} : appC d (.lst l) = if szOk (l.length + 1) = true then some (.lst (l ++ [d])) else none := rfl
@[simp] theorem r_popM {a b : M D} : popM a b e s = (a e s).andThen fun o => bnd (needL o) fun _ => bnd b fun i => fun e s => match o, i with
  | .ref k, .int j => match s[k]? with
    | some (.lst ds) => match decide (-(2 ^ 63) ≤ j ∧ j < 2 ^ 63), seqIndex? j ds.length with
      | true, some n => match ds[n]? with
        | some d => .ok d e (s.set k (.lst (ds.eraseIdx n)))
        | none => .bad
      | _, _ => .bad
    | _ => .bad
  | _, _ => .bad := rfl
@[simp] theorem r_getM {a b c : M D} : getM a b c e s = (a e s).andThen fun o => bnd (needD o) fun _ => bnd b fun k => bnd c fun d => fun e s => match dctOf o s, keyOf k with
  | some kvs, some kk => .ok ((valD kvs kk).getD d) e s
  | _, _ => .bad := rfl
@[simp] theorem r_needD {o : D} : needD o e s = match (dctOf o s).isSome with | true => .ok () e s | false => .bad := rfl
@[simp] theorem r_dctOf_ref : dctOf (.ref k) s = match s[k]? with | some (.dct kvs) => some kvs | _ => none := rfl
@[simp] theorem r_dctOf_dct {l : List (Key × D)} : dctOf (.dct l) s = some l := rfl
@[simp] theorem r_keyOf_int {i : Int} : keyOf (.int i) = some (.inl i) := rfl
@[simp] theorem r_szOk0 : szOk 0 = true := rfl
@[simp] theorem r_szOk1 : szOk 1 = true := rfl
@[simp] theorem r_szOk2 : szOk 2 = true := rfl
@[simp] theorem r_szOk3 : szOk 3 = true := rfl
@[simp] theorem r_szOk4 : szOk 4 = true := rfl
@[simp] theorem r_szOk5 : szOk 5 = true := rfl
@[simp] theorem r_add {a b : Int} : addD (.int a) (.int b) = some (.int (a + b)) := rfl
@[simp] theorem r_sub {a b : Int} : subD (.int a) (.int b) = some (.int (a - b)) := rfl
@[simp] theorem r_neg {a : Int} : negD (.int a) = some (.int (-a)) := rfl
@[simp] theorem r_lt {a b : Int} : ltD (.int a) (.int b) = some (.bl (decide (a < b))) := rfl
@[simp] theorem r_le {a b : Int} : leD (.int a) (.int b) = some (.bl (decide (a ≤ b))) := rfl
@[simp] theorem r_gt {a b : Int} : gtD (.int a) (.int b) = some (.bl (decide (b < a))) := rfl
@[simp] theorem r_ge {a b : Int} : geD (.int a) (.int b) = some (.bl (decide (b ≤ a))) := rfl
@[simp] theorem r_eq {a b : Int} : eqD (.int a) (.int b) = some (.bl (decide (a = b))) := by
  show some (D.bl (PyData.eqv (.int a) (.int b))) = _
  congr 2
@[simp] theorem r_ne {a b : Int} : neD (.int a) (.int b) = some (.bl (!decide (a = b))) := by
  show some (D.bl (!PyData.eqv (.int a) (.int b))) = _
  congr 2
@[simp] theorem r_toInt {a : Int} : toIntD (.int a) = some (.int a) := rfl
@[simp] theorem r_len_tup {l : List D} : lenD (.tup l) = some (.int l.length) := rfl
@[simp] theorem r_len_lst {l : List D} : lenD (.lst l) = some (.int l.length) := rfl
@[simp] theorem r_len_wls {l : List D} : lenD (.wls l) = some (.int l.length) := rfl
@[simp] theorem r_len_dct {l : List (Key × D)} : lenD (.dct l) = some (.int l.length) := rfl
@[simp] theorem r_tuple_lst {l : List D} : tupleD (.lst l) = some (.tup l) := rfl
@[simp] theorem r_tuple_tup {l : List D} : tupleD (.tup l) = some (.tup l) := rfl
theorem small64_of {a : Int} (h1 : -18446744073709551616 < a) (h2 : a < 18446744073709551616) : small64 a = true := by
  unfold small64
  rw [decide_eq_true (by omega), decide_eq_true (by omega)]; rfl
@[simp] theorem r_mulL {a b : Int} (h1 : -18446744073709551616 < a) (h2 : a < 18446744073709551616) : mulD (.int a) (.int b) = some (.int (a * b)) := by
  show (if (small64 a || small64 b) = true then some (D.int (a * b)) else none) = _
  rw [small64_of h1 h2]; rfl
@[simp] theorem r_mulR {a b : Int} (h1 : -18446744073709551616 < b) (h2 : b < 18446744073709551616) : mulD (.int a) (.int b) = some (.int (a * b)) := by
  show (if (small64 a || small64 b) = true then some (D.int (a * b)) else none) = _
  rw [small64_of h1 h2, Bool.or_true]; rfl
@[simp] theorem r_mod {a b : Int} (h : 0 < b) : modD (.int a) (.int b) = some (.int (a % b)) := by
  show (if decide (0 < b) = true then some (D.int (a % b)) else none) = _
  rw [if_pos (decide_eq_true h)]
@[simp] theorem r_fdiv {a b : Int} (h : 0 < b) (h2 : b < 18446744073709551616) : fdivD (.int a) (.int b) = some (.int (a / b)) := by
  show (if pos64 b = true then some (D.int (a / b)) else none) = _
  have : pos64 b = true := by unfold pos64; rw [decide_eq_true h, decide_eq_true (by omega)]; rfl
  rw [if_pos this]
@[simp] theorem r_pow {a b : Int} (h1 : -18446744073709551616 < a) (h2 : a < 18446744073709551616) (h3 : 0 ≤ b) (h4 : b ≤ 1000) : powD (.int a) (.int b) = some (.int (a ^ b.toNat)) := by
  show (if (decide (0 ≤ b) && decide (b ≤ 1000) && small64 a) = true then some (D.int (a ^ b.toNat)) else none) = _
  rw [small64_of h1 h2, decide_eq_true h3, decide_eq_true h4]; rfl
end
end QB

/-! The pure layer, part 19: loops and comprehensions over lists that stay; stores. -/
namespace QB
open PySem PySem.Spec PyProof.Rows L2
def Src.Const (sr : Src) (l : List D) : Prop := ∀ s, sr.items s = some l
def forL (f : D → M Unit) (body : SM) : List D → SM
  | [] => .nx
  | d :: ds => fun e s => turnS ((f d e s).toS fun _ => body) (forL f body ds)
section
variable {f : D → M Unit} {body : SM} {sr : Src} {l : List D} {e : PEnv} {s : Store}
@[simp] theorem r_forL_nil : forL f body [] e s = .nx e s := rfl
@[simp] theorem r_forL_cons {d : D} {ds : List D} : forL f body (d :: ds) e s = turnS ((f d e s).toS fun _ => body) (forL f body ds) := rfl
theorem forGo_const (h : sr.Const l) : ∀ n i, i + n = l.length → forGo f body sr n i = forL f body (l.drop i)
  | 0, i, hi => by
    have : l.drop i = [] := List.drop_eq_nil_of_le (by omega)
    rw [this]
    funext e s
    unfold forGo
    rw [h s]
    dsimp only
    rw [List.getElem?_eq_none (by omega)]
    rfl
  | n + 1, i, hi => by
    have hlt : i < l.length := by omega
    rw [List.drop_eq_getElem_cons hlt]
    funext e s
    unfold forGo
    rw [h s]
    dsimp only
    rw [List.getElem?_eq_getElem hlt]
    dsimp only
    rw [forGo_const h n (i + 1) (by omega)]
    rfl
theorem forGo_c (h : sr.Const l) : forGo f body sr l.length 0 = forL f body l := by rw [forGo_const h l.length 0 (by omega)]; rfl
def runFor (sr : Src) (f : D → M Unit) (body : SM) : SM := fun e s => match sr.items s with | some l => forGo f body sr l.length 0 e s | none => .bad
@[simp] theorem r_forS {src : M Src} : forS src f body e s = (src e s).toS fun sr => runFor sr f body := rfl
theorem runFor_c (h : sr.Const l) : runFor sr f body e s = forL f body l e s := by
  unfold runFor
  rw [h s]
  dsimp only
  rw [forGo_c h]
@[simp] theorem r_items_tup : (Src.seq (.tup l)).items s = some l := rfl
@[simp] theorem r_items_lst : (Src.seq (.lst l)).items s = some l := rfl
@[simp] theorem r_items_wls : (Src.seq (.wls l)).items s = some l := rfl
@[simp] theorem r_items_rng {a : Int} {n : Nat} : (Src.rng a n).items s = some (rngL a n) := rfl
@[simp] theorem r_items_keys {kvs : List (Key × D)} : (Src.keys kvs).items s = some (kvs.map fun kv => dOf kv.1) := rfl
@[simp] theorem r_items_enum_lst : (Src.enum (.lst l)).items s = some (enumL 0 l) := rfl
@[simp] theorem r_items_zip_lst {m : List D} : (Src.zip (.lst l) (.lst m)).items s = some (zipL l m) := rfl
@[simp] theorem r_items_zip_tup {m : List D} : (Src.zip (.tup l) (.tup m)).items s = some (zipL l m) := rfl
@[simp] theorem r_items_ref {k : Nat} : (Src.seq (.ref k)).items s = match s[k]? with | some (.lst ds) => some ds | _ => none := rfl
@[simp] theorem r_for_tup : runFor (.seq (.tup l)) f body e s = forL f body l e s := runFor_c fun _ => rfl
@[simp] theorem r_for_lst : runFor (.seq (.lst l)) f body e s = forL f body l e s := runFor_c fun _ => rfl
@[simp] theorem r_for_wls : runFor (.seq (.wls l)) f body e s = forL f body l e s := runFor_c fun _ => rfl
@[simp] theorem r_for_rng {a : Int} {n : Nat} : runFor (.rng a n) f body e s = forL f body (rngL a n) e s := runFor_c fun _ => rfl
@[simp] theorem r_for_keys {kvs : List (Key × D)} : runFor (.keys kvs) f body e s = forL f body (kvs.map fun kv => dOf kv.1) e s := runFor_c fun _ => rfl
@[simp] theorem r_for_enum : runFor (.enum (.lst l)) f body e s = forL f body (enumL 0 l) e s := runFor_c fun _ => rfl
@[simp] theorem r_for_zip_lst {m : List D} : runFor (.zip (.lst l) (.lst m)) f body e s = forL f body (zipL l m) e s := runFor_c fun _ => rfl
@[simp] theorem r_for_zip_tup {m : List D} : runFor (.zip (.tup l) (.tup m)) f body e s = forL f body (zipL l m) e s := runFor_c fun _ => rfl
@[simp] theorem r_seqM {a : M D} : QB.seqM a e s = (a e s).andThen fun d => fun e s => match topD d s with | some _ => .ok (.seq d) e s | none => .bad := rfl
@[simp] theorem r_topD_tup : topD (.tup l) s = some l := rfl
@[simp] theorem r_topD_lst : topD (.lst l) s = some l := rfl
@[simp] theorem r_topD_wls : topD (.wls l) s = some l := rfl
@[simp] theorem r_topD_ref {k : Nat} : topD (.ref k) s = match s[k]? with | some (.lst ds) => some ds | _ => none := rfl
@[simp] theorem r_isTup_tup : isTup (.tup l) = true := rfl
@[simp] theorem r_isTup_lst : isTup (.lst l) = false := rfl
@[simp] theorem r_isTup_wls : isTup (.wls l) = false := rfl
@[simp] theorem r_isTup_ref {k : Nat} : isTup (.ref k) = false := rfl
@[simp] theorem r_rngOk {n : Int} (h1 : -4611686018427387904 < n) (h2 : n < 4611686018427387904) : rngOk n = true := by
  unfold rngOk
  rw [Nat.ble_eq_true_of_le (by omega), Nat.ble_eq_true_of_le (by omega)]; rfl
@[simp] theorem r_rngOk_nat {k : Nat} (h : k ≤ 16777216) : rngOk (k : Int) = true := r_rngOk (by omega) (by omega)
@[simp] theorem r_rg1S {a : M (List D)} : rg1S a e s = (a e s).andThen fun ds => match ds with
  | [.int n] => chk (rngOk n) (rt (.rng 0 n.toNat))
  | _ => fail := rfl
@[simp] theorem r_rg2S {a : M (List D)} : rg2S a e s = (a e s).andThen fun ds => match ds with
  | [.int i, .int j] => chk (rngOk i && rngOk j) (rt (.rng i (j - i).toNat))
  | _ => fail := rfl
@[simp] theorem r_zipM {a : M (List D)} : zipM a e s = (a e s).andThen fun ds => fun e s => match ds with
  | [x, y] => match (isTup x == isTup y), topD x s, topD y s with
    | true, some _, some _ => .ok (.zip x y) e s
    | _, _, _ => .bad
  | _ => .bad := rfl
@[simp] theorem r_enumM {a : M (List D)} : enumM a e s = (a e s).andThen fun ds => fun e s => match ds with
  | [d] => match isTup d, topD d s with
    | false, some _ => .ok (.enum d) e s
    | _, _ => .bad
  | _ => .bad := rfl
@[simp] theorem r_keysM {a : M D} : keysM a e s = (a e s).andThen fun d => match d with | .dct kvs => rt (.keys kvs) | _ => fail := rfl
end
/-! ### comprehensions -/
def compL (f : D → M Unit) (cond : M Bool) (step : Cell → M Cell) (vs : List Nat) : List D → Cell → M Cell
  | [], acc => fun e s => .ok acc e s
  | d :: ds, acc => fun e s => match f d e s with
    | .ok _ e1 s1 => compTail cond step acc (fun a e s => compL f cond step vs ds a (wipeE e vs) s) e1 s1
    | _ => .bad
section
variable {f : D → M Unit} {cond : M Bool} {step : Cell → M Cell} {vs : List Nat} {sr : Src} {l : List D} {acc : Cell} {e : PEnv} {s : Store}
theorem compGo_const (h : sr.Const l) : ∀ n i acc, i + n = l.length → compGo f cond step vs sr n i acc = compL f cond step vs (l.drop i) acc
  | 0, i, acc, hi => by
    have : l.drop i = [] := List.drop_eq_nil_of_le (by omega)
    rw [this]
    funext e s
    unfold compGo
    rw [h s]
    dsimp only
    rw [List.getElem?_eq_none (by omega)]
    rfl
  | n + 1, i, acc, hi => by
    have hlt : i < l.length := by omega
    rw [List.drop_eq_getElem_cons hlt]
    funext e s
    unfold compGo
    rw [h s]
    dsimp only
    rw [List.getElem?_eq_getElem hlt]
    dsimp only
    have ih := fun a => compGo_const h n (i + 1) a (by omega)
    simp only [ih]
    rfl
theorem compGo_c (h : sr.Const l) : compGo f cond step vs sr l.length 0 acc = compL f cond step vs l acc := by rw [compGo_const h l.length 0 acc (by omega)]; rfl
def runComp (sr : Src) (f : D → M Unit) (cond : M Bool) (step : Cell → M Cell) (vs : List Nat) (acc : Cell) : M Cell := fun e s => match sr.items s with
  | some l => match compGo f cond step vs sr l.length 0 acc (wipeE e vs) s with
    | .ok c e' s' => .ok c (unE e e' vs) s'
    | _ => .bad
  | none => .bad
@[simp] theorem r_compM {src : M Src} : compM acc src f cond step vs e s = (src e s).andThen fun sr => fun e s => match noOwn e vs with
  | true => runComp sr f cond step vs acc e s
  | false => .bad := by
  unfold compM
  rw [bnd_app]
  cases src e s with
  | ok sr e' s' =>
    show (match noOwn e' vs, sr.items s' with
      | true, some l => _
      | _, _ => _) = (match noOwn e' vs with | true => runComp sr f cond step vs acc e' s' | false => .bad)
    unfold runComp
    cases noOwn e' vs <;> cases sr.items s' <;> rfl
  | exc _ _ _ => rfl
  | bad => rfl
@[simp] theorem r_stepL {a : M D} {ds : List D} : stepL a (.lst ds) e s = (a e s).andThen fun y => chk (szOk (ds.length + 1)) (rt (.lst (ds ++ [y]))) := rfl
@[simp] theorem r_wipe_nil : wipeE e [] = e := rfl
@[simp] theorem r_wipe_cons {v : Nat} {vs : List Nat} : wipeE e (v :: vs) = (wipeE e vs).set v .no := rfl
@[simp] theorem r_unE_nil {e' : PEnv} : unE e e' [] = e' := rfl
@[simp] theorem r_unE_cons {e' : PEnv} {v : Nat} {vs : List Nat} : unE e e' (v :: vs) = match e[v]? with | some sl => (unE e e' vs).set v sl | none => unE e e' vs := rfl
@[simp] theorem r_noOwn_nil : noOwn e [] = true := rfl
def ownAt : Option Slot → Bool
  | some (.own _) => false
  | _ => true
/-- a slot that is free or has a value -/
def sl : Option D → Slot
  | none => .no
  | some d => .val d
@[simp] theorem r_noOwn_cons {v : Nat} {vs : List Nat} : noOwn e (v :: vs) = (ownAt e[v]? && noOwn e vs) := by
  show (_ && noOwn e vs) = _
  congr 1
@[simp] theorem r_ownAt_none : ownAt none = true := rfl
@[simp] theorem r_ownAt_no : ownAt (some .no) = true := rfl
@[simp] theorem r_ownAt_val {d : D} : ownAt (some (.val d)) = true := rfl
@[simp] theorem r_ownAt_sl {d : Option D} : ownAt (some (sl d)) = true := by cases d <;> rfl
/-- parts that leave the store as it is -/
theorem compL_map {α : Type} {g : α → D} {fe : α → PEnv} {b : α → Bool} {y : α → D} {elt : M D} : ∀ {xs : List α} {acc : List D}, (∀ x ∈ xs, f (g x) e s = .ok () (fe x) s ∧ cond (fe x) s = .ok (b x) (fe x) s ∧ (b x = true → elt (fe x) s = .ok (y x) (fe x) s) ∧ wipeE (fe x) vs = e) →
    acc.length + xs.length ≤ 16777216 → compL f cond (stepL elt) vs (xs.map g) (.lst acc) e s = .ok (.lst (acc ++ (xs.filter b).map y)) e s
  | [], acc, _, _ => by simp [compL]
  | x :: xs, acc, h, hs => by
    obtain ⟨h1, h2, h3, h4⟩ := h x List.mem_cons_self
    have ih := fun acc' hl => compL_map (xs := xs) (acc := acc') (fun z hz => h z (List.mem_cons_of_mem _ hz)) hl
    simp only [List.length_cons] at hs
    show (match f (g x) e s with
      | .ok _ e1 s1 => compTail cond (stepL elt) (.lst acc) (fun a e s => compL f cond (stepL elt) vs (xs.map g) a (wipeE e vs) s) e1 s1
      | _ => .bad) = _
    rw [h1]
    dsimp only
    unfold compTail
    rw [h2]
    cases hb : b x with
    | false =>
      dsimp only
      rw [h4, ih acc (by omega)]
      simp [hb]
    | true =>
      dsimp only
      have hst : stepL elt (.lst acc) (fe x) s = .ok (.lst (acc ++ [y x])) (fe x) s := by
        have hz : szOk (acc.length + 1) = true := by unfold szOk; exact Nat.ble_eq_true_of_le (by omega)
        rw [r_stepL, h3 hb, andThen_ok, r_chk, hz]; rfl
      rw [hst]
      dsimp only
      rw [h4, ih (acc ++ [y x]) (by simp; omega)]
      simp [hb]
theorem filter_yes {α : Type} : ∀ xs : List α, xs.filter (fun _ => true) = xs
  | [] => rfl
  | x :: xs => by rw [List.filter_cons_of_pos rfl, filter_yes xs]
/-- the same for any source that says what it walks in this store -/
theorem compGo_map {α : Type} {g : α → D} {fe : α → PEnv} {b : α → Bool} {y : α → D} {elt : M D} {l : List D} (hi : sr.items s = some l) : ∀ {n i : Nat} {xs : List α} {acc : List D}, l.drop i = xs.map g → n = xs.length →
    (∀ x ∈ xs, f (g x) e s = .ok () (fe x) s ∧ cond (fe x) s = .ok (b x) (fe x) s ∧ (b x = true → elt (fe x) s = .ok (y x) (fe x) s) ∧ wipeE (fe x) vs = e) →
    acc.length + xs.length ≤ 16777216 → compGo f cond (stepL elt) vs sr n i (.lst acc) e s = .ok (.lst (acc ++ (xs.filter b).map y)) e s
  | n, i, [], acc, hd, hn, _, _ => by
    have hl : l[i]? = none := by
      have := congrArg (fun z => z[0]?) hd
      simpa [List.getElem?_drop] using this
    subst hn
    unfold compGo
    simp only [List.length_nil]
    rw [hi]
    dsimp only
    rw [hl]
    simp
  | n, i, x :: xs, acc, hd, hn, h, hs => by
    subst hn
    obtain ⟨h1, h2, h3, h4⟩ := h x List.mem_cons_self
    have hl : l[i]? = some (g x) := by
      have := congrArg (fun z => z[0]?) hd
      simpa [List.getElem?_drop] using this
    have hd' : l.drop (i + 1) = xs.map g := by
      have := congrArg List.tail hd
      simpa [List.tail_drop] using this
    have ih := fun acc' hl => compGo_map hi (n := xs.length) (i := i + 1) (xs := xs) (acc := acc') hd' rfl (fun z hz => h z (List.mem_cons_of_mem _ hz)) hl
    simp only [List.length_cons] at hs
    rw [List.length_cons]
    unfold compGo
    rw [hi]
    dsimp only
    rw [hl]
    dsimp only
    rw [h1]
    dsimp only
    unfold compTail
    rw [h2]
    cases hb : b x with
    | false =>
      dsimp only
      rw [h4, ih acc (by omega)]
      simp [hb]
    | true =>
      dsimp only
      have hst : stepL elt (.lst acc) (fe x) s = .ok (.lst (acc ++ [y x])) (fe x) s := by
        have hz : szOk (acc.length + 1) = true := by unfold szOk; exact Nat.ble_eq_true_of_le (by omega)
        rw [r_stepL, h3 hb, andThen_ok, r_chk, hz]; rfl
      rw [hst]
      dsimp only
      rw [h4, ih (acc ++ [y x]) (by simp; omega)]
      simp [hb]
theorem runComp_map {α : Type} {g : α → D} {fe : α → PEnv} {b : α → Bool} {y : α → D} {elt : M D} {e0 : PEnv} (xs : List α) (hi : sr.items s = some (xs.map g)) (he : wipeE e0 vs = e)
    (h : ∀ x ∈ xs, f (g x) e s = .ok () (fe x) s ∧ cond (fe x) s = .ok (b x) (fe x) s ∧ (b x = true → elt (fe x) s = .ok (y x) (fe x) s) ∧ wipeE (fe x) vs = e)
    (hs : xs.length ≤ 16777216) : runComp sr f cond (stepL elt) vs (.lst []) e0 s = .ok (.lst ((xs.filter b).map y)) (unE e0 e vs) s := by
  unfold runComp
  rw [hi]
  dsimp only
  rw [he, compGo_map hi (n := (xs.map g).length) (i := 0) (xs := xs) rfl (by simp) h (by simpa using hs)]
  simp
theorem runComp_all {α : Type} {g : α → D} {fe : α → PEnv} {y : α → D} {elt : M D} {e0 : PEnv} (xs : List α) (hi : sr.items s = some (xs.map g)) (he : wipeE e0 vs = e)
    (h : ∀ x ∈ xs, f (g x) e s = .ok () (fe x) s ∧ elt (fe x) s = .ok (y x) (fe x) s ∧ wipeE (fe x) vs = e)
    (hs : xs.length ≤ 16777216) : runComp sr f (rt true) (stepL elt) vs (.lst []) e0 s = .ok (.lst (xs.map y)) (unE e0 e vs) s := by
  have q := runComp_map (cond := rt true) (fe := fe) (b := fun _ => true) (y := y) (elt := elt) xs hi he (fun x hx => ⟨(h x hx).1, rfl, fun _ => (h x hx).2.1, (h x hx).2.2⟩) hs
  rw [filter_yes] at q
  exact q
end
/-! ### the last cells of a store -/
section
variable {s t : Store} {a b c d : Cell} {k : Nat}
@[simp] theorem st_get0 : (s ++ a :: t)[s.length]? = some a := by simp
@[simp] theorem st_get1 : (s ++ a :: b :: t)[s.length + 1]? = some b := by simp [List.getElem?_append_right]
@[simp] theorem st_get2 : (s ++ a :: b :: c :: t)[s.length + 2]? = some c := by simp [List.getElem?_append_right]
@[simp] theorem st_set0 : (s ++ a :: t).set s.length d = s ++ d :: t := by simp
@[simp] theorem st_set1 : (s ++ a :: b :: t).set (s.length + 1) d = s ++ a :: d :: t := by simp [List.set_append]
@[simp] theorem st_set2 : (s ++ a :: b :: c :: t).set (s.length + 2) d = s ++ a :: b :: d :: t := by simp [List.set_append]
theorem st_getB (h : k < s.length) : (s ++ t)[k]? = s[k]? := List.getElem?_append_left h
theorem st_setB (h : k < s.length) : (s ++ t).set k d = s.set k d ++ t := by simp [List.set_append, h]
end
/-! ### lists of ints, of truth values -/
@[simp] theorem r_all_bls {ns : List Bool} : allD (.lst (ns.map D.bl)) = some (.bl (ns.all id)) := by
  show (blsOf (ns.map D.bl)).map _ = _
  rw [blsOf_bls]; rfl
@[simp] theorem r_any_bls {ns : List Bool} : anyD (.lst (ns.map D.bl)) = some (.bl (ns.any id)) := by
  show (blsOf (ns.map D.bl)).map _ = _
  rw [blsOf_bls]; rfl
@[simp] theorem r_sum_ints {ns : List Int} : sumD (.lst (ns.map D.int)) = some (.int ns.sum) := by
  show (intsOf (ns.map D.int)).map _ = _
  rw [intsOf_ints]; rfl
theorem all_map {α : Type} {xs : List α} {p : α → Bool} : allD (.lst (xs.map fun x => D.bl (p x))) = some (.bl (xs.all p)) := by
  have e : (xs.map fun x => D.bl (p x)) = (xs.map p).map D.bl := by rw [List.map_map]; rfl
  rw [e, r_all_bls, List.all_map]; rfl
@[simp] theorem all_yes {α : Type} : ∀ xs : List α, (xs.all fun _ => true) = true
  | [] => rfl
  | x :: xs => by rw [List.all_cons, all_yes xs]; rfl
theorem ints_map {α : Type} {xs : List α} {p : α → Int} : (xs.map fun x => D.int (p x)) = (xs.map p).map D.int := by rw [List.map_map]; rfl
theorem r_max_ints {ns : List Int} (h : ns ≠ []) : maxD (.lst (ns.map D.int)) = some (.int (maxL ns)) := by
  show ((intsOf (ns.map D.int)).bind _) = _
  rw [intsOf_ints]
  cases ns with
  | nil => exact absurd rfl h
  | cons n r => rfl
theorem r_min_ints {ns : List Int} (h : ns ≠ []) : minD (.lst (ns.map D.int)) = some (.int (minL ns)) := by
  show ((intsOf (ns.map D.int)).bind _) = _
  rw [intsOf_ints]
  cases ns with
  | nil => exact absurd rfl h
  | cons n r => rfl
/-! ### subscripts -/
section
variable {l : List D} {i : Int} {kvs : List (Key × D)} {d : D}
@[simp] theorem r_ix_tup : ixD (.tup l) (.int i) = atI l i := rfl
@[simp] theorem r_ix_lst : ixD (.lst l) (.int i) = atI l i := rfl
@[simp] theorem r_ix_wls : ixD (.wls l) (.int i) = atI l i := rfl
@[simp] theorem r_ix_dct : ixD (.dct kvs) (.int i) = valD kvs (.inl i) := rfl
theorem atI_nat {α : Type} {xs : List α} {j : Nat} (h : j < xs.length) : atI xs (j : Int) = xs[j]? := by
  unfold atI ixN
  rw [if_pos (by omega), if_pos (by omega)]
  rfl
@[simp] theorem r_at0 {α : Type} {a : α} {t : List α} : atI (a :: t) 0 = some a := by
  have := atI_nat (xs := a :: t) (j := 0) (by simp)
  simpa using this
@[simp] theorem r_at1 {α : Type} {a b : α} {t : List α} : atI (a :: b :: t) 1 = some b := by
  have := atI_nat (xs := a :: b :: t) (j := 1) (by simp)
  simpa using this
@[simp] theorem r_at2 {α : Type} {a b c : α} {t : List α} : atI (a :: b :: c :: t) 2 = some c := by
  have := atI_nat (xs := a :: b :: c :: t) (j := 2) (by simp)
  simpa using this
@[simp] theorem r_at3 {α : Type} {a b c d : α} {t : List α} : atI (a :: b :: c :: d :: t) 3 = some d := by
  have := atI_nat (xs := a :: b :: c :: d :: t) (j := 3) (by simp)
  simpa using this
theorem atI_last {α : Type} {xs : List α} {a : α} : atI (xs ++ [a]) (-1) = some a := by
  unfold atI ixN
  rw [if_neg (by omega), if_pos (by simp; omega)]
  have : (-1 + ((xs ++ [a]).length : Int)).toNat = xs.length := by simp; omega
  show (xs ++ [a])[(-1 + ((xs ++ [a]).length : Int)).toNat]? = _
  rw [this]; simp
end
section
variable {a b : Int} {x : D} {neg : Bool}
@[simp] theorem r_is_non : isD neg x .non = some (.bl (neg != QB.isNon x)) := rfl
@[simp] theorem r_is_bl {c d : Bool} : isD neg (.bl c) (.bl d) = some (.bl (neg != decide (c = d))) := rfl
@[simp] theorem r_isNon_non : QB.isNon .non = true := rfl
@[simp] theorem r_isNon_int : QB.isNon (.int a) = false := rfl
@[simp] theorem r_isNon_bl {c : Bool} : QB.isNon (.bl c) = false := rfl
@[simp] theorem r_isNon_str {c : Str} : QB.isNon (.str c) = false := rfl
@[simp] theorem r_isNon_tup {c : List D} : QB.isNon (.tup c) = false := rfl
@[simp] theorem r_isNon_lst {c : List D} : QB.isNon (.lst c) = false := rfl
@[simp] theorem r_isNon_wls {c : List D} : QB.isNon (.wls c) = false := rfl
@[simp] theorem r_isNon_dct {c : List (Key × D)} : QB.isNon (.dct c) = false := rfl
@[simp] theorem r_isNon_ref {c : Nat} : QB.isNon (.ref c) = false := rfl
@[simp] theorem r_max2 : max2D (.int a) (.int b) = some (.int (if b > a then b else a)) := rfl
@[simp] theorem r_min2 : min2D (.int a) (.int b) = some (.int (if b < a then b else a)) := rfl
@[simp] theorem r_abs : absD (.int a) = some (.int (if a < 0 then -a else a)) := rfl
@[simp] theorem r_list_tup {l : List D} : listD (.tup l) = some (.lst l) := rfl
@[simp] theorem r_list_lst {l : List D} : listD (.lst l) = some (.lst l) := rfl
@[simp] theorem r_putC_lst {l : List D} {i : Int} {d : D} : putC (.lst l) (.int i) d = (ixN l.length i).map fun n => .lst (l.set n d) := rfl
@[simp] theorem r_slD_tup {l : List D} {lo hi : Option Int} : slD (.tup l) lo hi = some (.tup (cutL l lo hi)) := rfl
@[simp] theorem r_slD_lst {l : List D} {lo hi : Option Int} : slD (.lst l) lo hi = some (.lst (cutL l lo hi)) := rfl
@[simp] theorem r_slD_wls {l : List D} {lo hi : Option Int} : slD (.wls l) lo hi = some (.lst (cutL l lo hi)) := rfl
theorem cut_from {ds : List D} {k : Nat} : cutL ds (some (k : Int)) none = ds.drop k := by
  unfold cutL
  rw [HT.sIx_nat, HT.sIx_none]
  by_cases h : k ≤ ds.length
  · rw [Nat.min_eq_left h, List.take_of_length_le (by simp)]
  · rw [Nat.min_eq_right (by omega), List.drop_eq_nil_of_le (by omega), List.drop_eq_nil_of_le (by omega)]; simp
theorem cut_to {ds : List D} {i : Int} (h : 0 ≤ i) : cutL ds none (some i) = ds.take i.toNat := by
  unfold cutL
  obtain ⟨k, rfl⟩ := Int.eq_ofNat_of_zero_le h
  show (ds.drop 0).take (HT.sIx ds.length ds.length (some (k : Int)) - 0) = ds.take k
  rw [HT.sIx_nat]
  simp
end
end QB

/-! The pure layer, part 20: dicts from ints to ints, membership, dict comprehensions. -/
namespace QB
open PySem PySem.Spec PyProof.Rows L2
def lvD (lv : List (Int × Int)) : List (Key × D) := lv.map fun p => (.inl p.1, .int p.2)
def getL (lv : List (Int × Int)) (k : Int) : Option Int := (lv.find? fun p => decide (p.1 = k)).map (·.2)
theorem valD_lv : ∀ (lv : List (Int × Int)) (k : Int), valD (lvD lv) (.inl k) = (getL lv k).map D.int
  | [], k => rfl
  | p :: lv, k => by
    have ih := valD_lv lv k
    unfold valD getL lvD at *
    simp only [List.map_cons, List.find?_cons]
    by_cases h : p.1 = k
    · simp [h]
    · simp [h]; simpa using ih
theorem getL_none {lv : List (Int × Int)} {k : Int} (h : k ∉ lv.map (·.1)) : getL lv k = none := by
  unfold getL
  rw [List.find?_eq_none.mpr]; rfl
  intro p hp
  simp
  intro e
  exact h (List.mem_map.mpr ⟨p, hp, e⟩)
theorem getL_some_mem {lv : List (Int × Int)} {k v : Int} (h : getL lv k = some v) : k ∈ lv.map (·.1) := by
  by_cases e : k ∈ lv.map (·.1)
  · exact e
  · rw [getL_none e] at h; cases h
theorem getL_of_mem : ∀ {lv : List (Int × Int)} {p : Int × Int}, (lv.map (·.1)).Nodup → p ∈ lv → getL lv p.1 = some p.2
  | [], _, _, h => by cases h
  | q :: lv, p, hn, h => by
    have hn' := List.nodup_cons.mp hn
    unfold getL
    rw [List.find?_cons]
    rcases List.mem_cons.mp h with rfl | h
    · simp
    · have hne : q.1 ≠ p.1 := fun e => hn'.1 (List.mem_map.mpr ⟨p, h, e.symm⟩)
      simp [hne]
      have := getL_of_mem hn'.2 h
      unfold getL at this
      simpa using this
theorem putD_new {lv : List (Int × Int)} {k v : Int} (h : k ∉ lv.map (·.1)) : putD (lvD lv) (.inl k) (.int v) = lvD (lv ++ [(k, v)]) := by
  unfold putD
  rw [if_neg]
  · simp [lvD]
  · intro e
    obtain ⟨p, hp, e⟩ := List.any_eq_true.mp e
    obtain ⟨q, hq, rfl⟩ := List.mem_map.mp hp
    simp at e
    exact h (List.mem_map.mpr ⟨q, hq, e⟩)
theorem getL_app {lv : List (Int × Int)} {k v o : Int} (h : k ∉ lv.map (·.1)) : getL (lv ++ [(k, v)]) o = if o = k then some v else getL lv o := by
  unfold getL
  rw [List.find?_append]
  by_cases e : o = k
  · subst e
    rw [if_pos rfl, List.find?_eq_none.mpr]
    · simp
    · intro p hp
      simp
      intro e
      exact h (List.mem_map.mpr ⟨p, hp, e⟩)
  · rw [if_neg e]
    cases lv.find? fun p => decide (p.1 = o) with
    | none => simp; intro z; exact absurd z.symm e
    | some p => simp
theorem lvD_length {lv : List (Int × Int)} : (lvD lv).length = lv.length := by unfold lvD; rw [List.length_map]
theorem lvD_keys {lv : List (Int × Int)} : (lvD lv).map (fun kv => dOf kv.1) = (lv.map (·.1)).map D.int := by
  unfold lvD
  rw [List.map_map, List.map_map]
  rfl
theorem okNs_ints : ∀ (n : Nat) (ns : List Int), okNs n (ns.map D.int) = true
  | n, [] => by cases n <;> rfl
  | n, a :: ns => by
    rw [List.map_cons]
    have h : okNs n (D.int a :: ns.map D.int) = (okN n (.int a) && okNs n (ns.map D.int)) := by cases n <;> rfl
    rw [h, okNs_ints n ns, Bool.and_true]
    cases n <;> rfl
theorem eqd_int {a b : Int} : eqd (.int a) (.int b) = decide (a = b) := rfl
theorem any_ints (h : Int) : ∀ ns : List Int, ((ns.map D.int).any fun z => eqd z (.int h)) = decide (h ∈ ns)
  | [] => by simp
  | a :: ns => by
    rw [List.map_cons, List.any_cons, any_ints h ns, eqd_int]
    by_cases e : a = h
    · simp [e]
    · have : h ≠ a := fun z => e z.symm
      simp [e, this]
theorem in_ints {neg : Bool} {h : Int} {ns : List Int} : inD neg (.int h) (.lst (ns.map D.int)) = some (.bl (neg != decide (h ∈ ns))) := by
  show (if (okD (.int h) && okD (.lst (ns.map D.int))) = true then some (D.bl (neg != (ns.map D.int).any fun z => eqd z (.int h))) else none) = _
  have e1 : okD (.lst (ns.map D.int)) = true := by unfold okD okN; exact okNs_ints _ _
  rw [e1, any_ints]
  rfl
theorem in_intsT {neg : Bool} {h : Int} {ns : List Int} : inD neg (.int h) (.tup (ns.map D.int)) = some (.bl (neg != decide (h ∈ ns))) := by
  show (if (okD (.int h) && okD (.tup (ns.map D.int))) = true then some (D.bl (neg != (ns.map D.int).any fun z => eqd z (.int h))) else none) = _
  have e1 : okD (.tup (ns.map D.int)) = true := by unfold okD okN; exact okNs_ints _ _
  rw [e1, any_ints]
  rfl
theorem in_lv {neg : Bool} {h : Int} {lv : List (Int × Int)} : inD neg (.int h) (.dct (lvD lv)) = some (.bl (neg != (getL lv h).isSome)) := by
  show some (D.bl (neg != (valD (lvD lv) (.inl h)).isSome)) = _
  rw [valD_lv]
  cases getL lv h <;> rfl
theorem ix_lv {h : Int} {lv : List (Int × Int)} : ixD (.dct (lvD lv)) (.int h) = (getL lv h).map D.int := valD_lv lv h
theorem eqE_lv {lv : List (Int × Int)} : eqED (.dct (lvD lv)) (.dct []) = some (.bl lv.isEmpty) := by
  show some (D.bl ((lvD lv).length == 0)) = _
  rw [lvD_length]
  cases lv <;> rfl
theorem neE_lv {lv : List (Int × Int)} : neED (.dct (lvD lv)) (.dct []) = some (.bl (!lv.isEmpty)) := by
  show some (D.bl (!((lvD lv).length == 0))) = _
  rw [lvD_length]
  cases lv <;> rfl
/-! dict(pairs) -/
def pairD (p : Int × Int) : D := .tup [.int p.1, .int p.2]
theorem pairsOf_lv : ∀ lv : List (Int × Int), pairsOf (lv.map pairD) = some (lvD lv)
  | [] => rfl
  | p :: lv => by
    show ((keyOf (.int p.1)).bind fun kk => (pairsOf (lv.map pairD)).map ((kk, D.int p.2) :: ·)) = _
    rw [pairsOf_lv lv]; rfl
theorem mergeD_lv : ∀ (more lv : List (Int × Int)), ((lv ++ more).map (·.1)).Nodup → mergeD (lvD lv) (lvD more) = lvD (lv ++ more)
  | [], lv, _ => by show lvD lv = _; rw [List.append_nil]
  | p :: more, lv, h => by
    have hm : p.1 ∉ lv.map (·.1) := by
      rw [List.map_append, List.map_cons] at h
      intro z
      have := List.nodup_append.mp h
      exact this.2.2 _ z _ List.mem_cons_self rfl
    show mergeD (putD (lvD lv) (.inl p.1) (.int p.2)) (lvD more) = _
    rw [putD_new hm, mergeD_lv more (lv ++ [(p.1, p.2)]) (by rw [List.append_assoc]; exact h), List.append_assoc]; rfl
theorem dict_pairs {lv : List (Int × Int)} (h : (lv.map (·.1)).Nodup) : dictD (.lst (lv.map pairD)) = some (.dct (lvD lv)) := by
  show ((pairsOf (lv.map pairD)).map fun kvs => Cell.dct (mergeD [] kvs)) = _
  rw [pairsOf_lv]
  have := mergeD_lv lv [] (by simpa using h)
  show some (Cell.dct (mergeD (lvD []) (lvD lv))) = _
  rw [this]; rfl
/-! {k: v for ..}, the keys all different ints -/
section
variable {f : D → M Unit} {kx vx : M D} {vs : List Nat} {sr : Src} {e : PEnv} {s : Store}
theorem compGo_dict {α : Type} {g : α → D} {fe : α → PEnv} {kf vf : α → Int} {l : List D} (hi : sr.items s = some l) : ∀ {n i : Nat} {xs : List α} {lv : List (Int × Int)}, l.drop i = xs.map g → n = xs.length →
    (∀ x ∈ xs, f (g x) e s = .ok () (fe x) s ∧ kx (fe x) s = .ok (.int (kf x)) (fe x) s ∧ vx (fe x) s = .ok (.int (vf x)) (fe x) s ∧ wipeE (fe x) vs = e) →
    lv.length + xs.length ≤ 16777216 → ((lv ++ xs.map fun x => (kf x, vf x)).map (·.1)).Nodup → compGo f (rt true) (stepD kx vx) vs sr n i (.dct (lvD lv)) e s = .ok (.dct (lvD (lv ++ xs.map fun x => (kf x, vf x)))) e s
  | n, i, [], lv, hd, hn, _, _, _ => by
    have hl : l[i]? = none := by
      have := congrArg (fun z => z[0]?) hd
      simpa [List.getElem?_drop] using this
    subst hn
    unfold compGo
    simp only [List.length_nil]
    rw [hi]
    dsimp only
    rw [hl]
    simp
  | n, i, x :: xs, lv, hd, hn, h, hs, hnd => by
    subst hn
    obtain ⟨h1, h2, h3, h4⟩ := h x List.mem_cons_self
    have hl : l[i]? = some (g x) := by
      have := congrArg (fun z => z[0]?) hd
      simpa [List.getElem?_drop] using this
    have hd' : l.drop (i + 1) = xs.map g := by
      have := congrArg List.tail hd
      simpa [List.tail_drop] using this
    have hm : kf x ∉ lv.map (·.1) := by
      rw [List.map_append, List.map_cons, List.map_cons] at hnd
      intro z
      exact (List.nodup_append.mp hnd).2.2 _ z _ List.mem_cons_self rfl
    simp only [List.length_cons] at hs
    have ih := compGo_dict hi (n := xs.length) (i := i + 1) (xs := xs) (lv := lv ++ [(kf x, vf x)]) hd' rfl (fun z hz => h z (List.mem_cons_of_mem _ hz)) (by simp; omega) (by rw [List.append_assoc]; exact hnd)
    rw [List.length_cons]
    unfold compGo
    rw [hi]
    dsimp only
    rw [hl]
    dsimp only
    rw [h1]
    dsimp only
    unfold compTail
    rw [rt_app]
    dsimp only
    have hst : stepD kx vx (.dct (lvD lv)) (fe x) s = .ok (.dct (lvD (lv ++ [(kf x, vf x)]))) (fe x) s := by
      have hz : szOk ((lvD lv).length + 1) = true := by rw [lvD_length]; unfold szOk; exact Nat.ble_eq_true_of_le (by omega)
      show (bnd kx _) (fe x) s = _
      rw [bnd_app, h2, andThen_ok, bnd_app, h3, andThen_ok]
      show chk _ _ _ _ = _
      rw [r_chk, hz, putD_new hm]; rfl
    rw [hst]
    dsimp only
    rw [h4, ih]
    simp
theorem runComp_dict {α : Type} {g : α → D} {fe : α → PEnv} {kf vf : α → Int} {e0 : PEnv} (xs : List α) (hi : sr.items s = some (xs.map g)) (he : wipeE e0 vs = e)
    (h : ∀ x ∈ xs, f (g x) e s = .ok () (fe x) s ∧ kx (fe x) s = .ok (.int (kf x)) (fe x) s ∧ vx (fe x) s = .ok (.int (vf x)) (fe x) s ∧ wipeE (fe x) vs = e)
    (hs : xs.length ≤ 16777216) (hnd : (xs.map kf).Nodup) : runComp sr f (rt true) (stepD kx vx) vs (.dct []) e0 s = .ok (.dct (lvD (xs.map fun x => (kf x, vf x)))) (unE e0 e vs) s := by
  unfold runComp
  rw [hi]
  dsimp only
  have q := compGo_dict (sr := sr) (kf := kf) (vf := vf) hi (n := (xs.map g).length) (i := 0) (xs := xs) (lv := []) rfl (by simp) h (by simpa using hs) (by rw [List.nil_append, List.map_map]; exact hnd)
  rw [he]
  have q' : compGo f (rt true) (stepD kx vx) vs sr (xs.map g).length 0 (.dct []) e s = .ok (.dct (lvD (xs.map fun x => (kf x, vf x)))) e s := q
  rw [q']
end
end QB

/-! The pure layer, part 21: more to run by. -/
namespace QB
open PySem PySem.Spec PyProof.Rows L2
section
variable {s t : Store} {a b c d : Cell} {k : Nat}
@[simp] theorem st_getk0 (h : s.length = k) : (s ++ a :: t)[k]? = some a := by subst h; exact st_get0
@[simp] theorem st_getk1 (h : s.length = k) : (s ++ a :: b :: t)[k + 1]? = some b := by subst h; exact st_get1
@[simp] theorem st_getk2 (h : s.length = k) : (s ++ a :: b :: c :: t)[k + 2]? = some c := by subst h; exact st_get2
@[simp] theorem st_setk0 (h : s.length = k) : (s ++ a :: t).set k d = s ++ d :: t := by subst h; exact st_set0
@[simp] theorem st_setk1 (h : s.length = k) : (s ++ a :: b :: t).set (k + 1) d = s ++ a :: d :: t := by subst h; exact st_set1
@[simp] theorem st_setk2 (h : s.length = k) : (s ++ a :: b :: c :: t).set (k + 2) d = s ++ a :: b :: d :: t := by subst h; exact st_set2
end
@[simp] theorem r_rg1M {a : M Bv} {e : PEnv} {s : Store} : rg1M a e s = (a e s).andThen fun y => bnd (rd y) fun dy => opt (rangeD (.int 0) dy) := rfl
@[simp] theorem r_range {n : Int} (h1 : -1099511627776 ≤ n) (h2 : n ≤ 16777216) : rangeD (.int 0) (.int n) = some (0, n) := by
  rw [rangeD_int, if_pos]
  unfold rgOk
  simp only [Bool.and_eq_true, decide_eq_true_eq]
  omega
def rangeI (n : Int) : List Int := (List.range n.toNat).map fun i : Nat => (i : Int)
theorem rgL_ints {n : Int} : rgL 0 n = (rangeI n).map D.int := by
  unfold rgL rangeI
  rw [List.map_map, Int.sub_zero]
  apply List.map_congr_left
  intro i _
  show D.int (0 + (i : Int)) = D.int (i : Int)
  rw [Int.zero_add]
theorem rngL_ints {n : Int} : rngL 0 n.toNat = (rangeI n).map D.int := by
  unfold rngL rangeI
  rw [List.map_map]
  apply List.map_congr_left
  intro i _
  show D.int (0 + (i : Int)) = D.int (i : Int)
  rw [Int.zero_add]
theorem rangeI_mem {n o : Int} : o ∈ rangeI n ↔ 0 ≤ o ∧ o < n := by
  unfold rangeI
  constructor
  · intro h
    obtain ⟨i, hi, rfl⟩ := List.mem_map.mp h
    have := List.mem_range.mp hi
    omega
  · rintro ⟨h1, h2⟩
    exact List.mem_map.mpr ⟨o.toNat, List.mem_range.mpr (by omega), by omega⟩
theorem rangeI_nodup {n : Int} : (rangeI n).Nodup := by
  unfold rangeI
  refine List.Pairwise.map (R := fun a b => a ≠ b) _ ?_ List.nodup_range
  intro a b h e
  exact h (by omega)
theorem rangeI_length {n : Int} : (rangeI n).length = n.toNat := by unfold rangeI; rw [List.length_map, List.length_range]
theorem okD_ints {ns : List Int} : okD (.lst (ns.map D.int)) = true := by unfold okD okN; exact okNs_ints _ _
theorem okD_intsT {ns : List Int} : okD (.tup (ns.map D.int)) = true := by unfold okD okN; exact okNs_ints _ _
theorem eqd_ints : ∀ {ns ms : List Int}, PyData.eqv (.list (toPs (ns.map D.int))) (.list (toPs (ms.map D.int))) = decide (ns = ms) := by
  intro ns ms
  have key : ∀ {ns ms : List Int}, PyData.eqvAll (toPs (ns.map D.int)) (toPs (ms.map D.int)) = decide (ns = ms) := by
    intro ns
    induction ns with
    | nil => intro ms; cases ms with
      | nil => rfl
      | cons m ms => rfl
    | cons n ns ih => intro ms; cases ms with
      | nil => rfl
      | cons m ms =>
        show (PyData.eqv (.int n) (.int m) && PyData.eqvAll (toPs (ns.map D.int)) (toPs (ms.map D.int))) = _
        rw [ih]
        show (decide (n = m) && _) = _
        by_cases e : n = m
        · simp [e]
        · simp [e]
  exact key
theorem eq_ints {ns ms : List Int} : eqD (.lst (ns.map D.int)) (.lst (ms.map D.int)) = some (.bl (decide (ns = ms))) := by
  show (if (okD (.lst (ns.map D.int)) && okD (.lst (ms.map D.int))) = true then some (D.bl (eqd (.lst (ns.map D.int)) (.lst (ms.map D.int)))) else none) = _
  rw [okD_ints, okD_ints]
  show some (D.bl (PyData.eqv (toP (.lst (ns.map D.int))) (toP (.lst (ms.map D.int))))) = _
  unfold toP
  rw [eqd_ints]
theorem ne_ints {ns ms : List Int} : neD (.lst (ns.map D.int)) (.lst (ms.map D.int)) = some (.bl (!decide (ns = ms))) := by
  show (if (okD (.lst (ns.map D.int)) && okD (.lst (ms.map D.int))) = true then some (D.bl (!eqd (.lst (ns.map D.int)) (.lst (ms.map D.int)))) else none) = _
  rw [okD_ints, okD_ints]
  show some (D.bl (!PyData.eqv (toP (.lst (ns.map D.int))) (toP (.lst (ms.map D.int))))) = _
  unfold toP
  rw [eqd_ints]
theorem ne_ints_nil {ns : List Int} : neD (.lst (ns.map D.int)) (.lst []) = some (.bl (!decide (ns = []))) := ne_ints (ms := [])
theorem eq_ints_nil {ns : List Int} : eqD (.lst (ns.map D.int)) (.lst []) = some (.bl (decide (ns = []))) := eq_ints (ms := [])
@[simp] theorem eq_nil_nil : eqD (.lst []) (.lst []) = some (.bl true) := rfl
@[simp] theorem ne_nil_nil : neD (.lst []) (.lst []) = some (.bl false) := rfl
theorem seqIx {r : Int} {n : Nat} (h : 0 ≤ r) (h2 : r < n) : PySem.seqIndex? r n = some r.toNat := by
  unfold PySem.seqIndex?
  simp only [if_neg (show ¬ r < 0 by omega)]
  rw [if_pos]
  simp; omega
theorem map_eraseIdx {α β : Type} (f : α → β) : ∀ (l : List α) (i : Nat), (l.map f).eraseIdx i = (l.eraseIdx i).map f
  | [], _ => rfl
  | _ :: _, 0 => rfl
  | a :: l, i + 1 => by
    show f a :: (l.map f).eraseIdx i = f a :: (l.eraseIdx i).map f
    rw [map_eraseIdx f l i]
theorem perm_eraseIdx {α : Type} : ∀ (l : List α) (i : Nat) (v : α), l[i]? = some v → (v :: l.eraseIdx i).Perm l
  | [], i, v, h => by simp at h
  | a :: l, 0, v, h => by
    simp at h; subst h; exact List.Perm.refl _
  | a :: l, i + 1, v, h => by
    have ih := perm_eraseIdx l i v (by simpa using h)
    exact (List.Perm.swap a v (l.eraseIdx i)).trans (ih.cons a)
/-! a list compared with itself, level by level -/
end QB

/-! The pure layer, part 22: sorted ints, sorted pairs. -/
namespace QB
open PySem PySem.Spec PyProof.Rows L2 PySem.W
theorem leS_int {a b : Int} : leS (.int a) (.int b) = decide (a ≤ b) := by
  show (!PyProof.Rows.lexLt itemOrd [Sum.inl b] [Sum.inl a]) = _
  rw [lex_cons]
  show (!(decide (b < a) || (!decide (a < b) && false))) = _
  by_cases h : b < a
  · have : ¬ a ≤ b := by omega
    simp [h, this]
  · have : a ≤ b := by omega
    simp [h, this]
theorem leS_pair {p q : Int × Int} : leS (pairD p) (pairD q) = decide (p.1 < q.1 ∨ p.1 = q.1 ∧ p.2 ≤ q.2) := by
  show (!PyProof.Rows.lexLt itemOrd [Sum.inl q.1, Sum.inl q.2] [Sum.inl p.1, Sum.inl p.2]) = _
  rw [lex_cons, lex_cons]
  show (!(decide (q.1 < p.1) || (!decide (p.1 < q.1) && (decide (q.2 < p.2) || (!decide (p.2 < q.2) && false))))) = _
  by_cases h : q.1 < p.1
  · have : ¬ (p.1 < q.1 ∨ p.1 = q.1 ∧ p.2 ≤ q.2) := by omega
    simp [h, this]
  · by_cases h2 : p.1 < q.1
    · simp [h, h2]
    · have e : p.1 = q.1 := by omega
      by_cases h3 : q.2 < p.2
      · simp [h2, e, h3]
      · have : p.2 ≤ q.2 := by omega
        simp [h2, e, h3, this]
def leI (a b : Int) : Bool := decide (a ≤ b)
def leP (p q : Int × Int) : Bool := decide (p.1 < q.1 ∨ p.1 = q.1 ∧ p.2 ≤ q.2)
def sortI (l : List Int) : List Int := l.mergeSort leI
def sortP (l : List (Int × Int)) : List (Int × Int) := l.mergeSort leP
theorem leI_trans (a b c : Int) (h : leI a b = true) (h2 : leI b c = true) : leI a c = true := by
  unfold leI at *
  simp at *
  omega
theorem leI_total (a b : Int) : (leI a b || leI b a) = true := by
  unfold leI
  simp
  omega
theorem leP_trans (a b c : Int × Int) (h : leP a b = true) (h2 : leP b c = true) : leP a c = true := by
  unfold leP at *
  simp only [decide_eq_true_eq] at *
  omega
theorem leP_total (a b : Int × Int) : (leP a b || leP b a) = true := by
  unfold leP
  simp only [Bool.or_eq_true, decide_eq_true_eq]
  omega
theorem sortI_pw (l : List Int) : (sortI l).Pairwise fun a b => a ≤ b := by
  have := List.pairwise_mergeSort leI_trans leI_total l
  exact this.imp fun h => of_decide_eq_true h
theorem sortP_pw (l : List (Int × Int)) : (sortP l).Pairwise fun p q => p.1 < q.1 ∨ p.1 = q.1 ∧ p.2 ≤ q.2 := by
  have := List.pairwise_mergeSort leP_trans leP_total l
  exact this.imp fun h => of_decide_eq_true h
theorem sortI_perm (l : List Int) : (sortI l).Perm l := List.mergeSort_perm l _
theorem sortP_perm (l : List (Int × Int)) : (sortP l).Perm l := List.mergeSort_perm l _
theorem sortI_congr {l m : List Int} (h : l.Perm m) : sortI l = sortI m :=
  List.Perm.eq_of_pairwise (le := fun a b : Int => a ≤ b) (fun a b _ _ h1 h2 => by omega) (sortI_pw l) (sortI_pw m) ((sortI_perm l).trans (h.trans (sortI_perm m).symm))
theorem sortP_congr {l m : List (Int × Int)} (h : l.Perm m) : sortP l = sortP m :=
  List.Perm.eq_of_pairwise (le := fun p q : Int × Int => p.1 < q.1 ∨ p.1 = q.1 ∧ p.2 ≤ q.2) (fun a b _ _ h1 h2 => by
    apply Prod.ext <;> omega) (sortP_pw l) (sortP_pw m) ((sortP_perm l).trans (h.trans (sortP_perm m).symm))
theorem sortP_of {l : List (Int × Int)} (h : l.Pairwise fun p q => p.1 < q.1 ∨ p.1 = q.1 ∧ p.2 ≤ q.2) : sortP l = l :=
  List.mergeSort_of_pairwise (h.imp fun h => decide_eq_true h)
theorem sorted_ints (ns : List Int) : sortedD (.lst (ns.map D.int)) = some (.lst ((sortI ns).map D.int)) := by
  show (if okSort (ns.map D.int) = true then some (Cell.lst ((ns.map D.int).mergeSort leS)) else none) = _
  rw [if_pos]
  · congr 2
    refine (List.map_mergeSort (f := D.int) (r := leI) (s := leS) ?_).symm
    intro a _ b _
    exact leS_int.symm
  · unfold okSort
    rw [Bool.or_eq_true]
    left
    rw [List.all_map]
    exact List.all_eq_true.mpr fun a _ => rfl
theorem sorted_pairs (ps : List (Int × Int)) : sortedD (.lst (ps.map pairD)) = some (.lst ((sortP ps).map pairD)) := by
  show (if okSort (ps.map pairD) = true then some (Cell.lst ((ps.map pairD).mergeSort leS)) else none) = _
  rw [if_pos]
  · congr 2
    refine (List.map_mergeSort (f := pairD) (r := leP) (s := leS) ?_).symm
    intro a _ b _
    exact leS_pair.symm
  · unfold okSort
    rw [Bool.or_eq_true]
    right
    rw [List.all_map]
    exact List.all_eq_true.mpr fun a _ => rfl
@[simp] theorem eq_bl {a b : Bool} : eqD (.bl a) (.bl b) = some (.bl (decide (a = b))) := by cases a <;> cases b <;> rfl
@[simp] theorem ne_bl {a b : Bool} : neD (.bl a) (.bl b) = some (.bl (!decide (a = b))) := by cases a <;> cases b <;> rfl
end QB

/-! The pure layer, part 23: the law's call. -/
namespace QB
open PySem PySem.Spec PyProof.Rows L2
theorem fn_cx0 {P : Program} {w : World} {K : PySem.W.Frag} {mg : Str → Option Value} {base : Heap} {k : Nat} {f : Addr} {fd : FuncData} {ps : List Str} {sp : Sp} (F : FnOk P w K mg base (L2.CX P w) k f fd ps sp) : FnOk P w K mg base CX0 k f fd ps (fun vs H Q _ => sp vs H Q E0) :=
  ⟨fun vs H Q E h => F.len vs H Q E0 h, fun A outer s H args us vs Q E hr he hb hv hs => codeAny_mono (F.run A outer s H args us vs Q E0 hr he hb hv hs) fun r s' h => by
    cases r with
    | error e =>
      obtain ⟨_, _, _, _, _, _, _, _, _, _, _, _, z⟩ := h
      exact z.elim
    | ok fl => cases fl <;> exact h⟩
theorem law_start {K : PySem.W.Frag} {mg : Str → Option Value} {g : Fn} {H : Hp} {a : Addr} {ns : List Int} (hS : SqL K H a (ns.map V.int)) (h : ∃ S', g [.wls (ns.map D.int)] [] = .ok (.bl true) S') : spOf K mg 1 g [V.ref a] H (fun v _ => v = .bl true) E0 := by
  obtain ⟨S', e⟩ := h
  have hc : ∀ (p : Pl) (c : Cell), (⟨[], [], fun _ => 0, H⟩ : S8).cont p = some c → False := fun p c h => by
    cases p with
    | inl i => cases h
    | inr k => cases h
  have hm : ∀ b, ¬ Mu (fun _ => False) (⟨[], [], fun _ => 0, H⟩ : S8) b := fun b h => by
    rcases h with h | ⟨p, c, h, _⟩
    · exact h
    · exact hc p c h
  refine ⟨fun _ => False, ⟨[], [], fun _ => 0, H⟩, [.wls (ns.map D.int)], rfl, rfl, ⟨rfl, fun i d h => by simp at h, fun i c h => by simp at h, fun p c h => (hc p c h).elim, fun p q c d h => (hc p c h).elim, fun p c h => (hc p c h).elim, fun b z => z.elim⟩, .cons ?_ .nil, rfl, ?_⟩
  · unfold Rp
    refine ⟨a, ns.map V.int, rfl, ?_, RpL.ints ns⟩
    rcases hS with h | h
    · exact .inl ⟨hm a, h⟩
    · exact .inr h
  · show WpF K mg _ _ (g [.wls (ns.map D.int)] []) _ _
    rw [e]
    intro S2 _ _ _ _ v rv
    unfold Rp at rv
    exact rv
end QB

/-! The pure layer, part 24: own errors with one field (lines of the worked proof 42 turned to any class name and the field given). -/
namespace PySem
namespace QErr
open PySem.W PySem.Calls PyProof.Rows PySem.HandSPX
/-! ### the text of __init__ -/
def iA (p1 p2 : Pos) : Arguments := { posonlyargs := [], args := [{ arg := "self", annotation := none, pos := p1 }, { arg := "given", annotation := none, pos := p2 }], vararg := none, kwonlyargs := [], kw_defaults := [], kwarg := none, defaults := [] }
def iB (q1 q2 q3 q4 : Pos) : List Stmt := [.Assign [.Attribute (.Name "self" q1) "given" q2] (.Name "given" q3) q4]
def iS : Scope := { kind := .function, names := [(PySem.Str.ofString "self", .local), (PySem.Str.ofString "given", .local)], isGenerator := false, isCoroutine := false, more := [] }
/-- what the written part says of Low, at C, and of its __init__, at fI -/
structure ErrTxt (K : Frag) (mg : Str → Option Value) (cn qn : Str) (C fI : Addr) : Prop where
  gC : mg cn = some (.ref C)
  cls : ∃ nm q N bs bm sn sub ab col dd k0 k1 k2 k3 k5, K.lookup C = some (excClassObj nm q C N bs bm true sn sub ab col dd k0 k1 k2 k3 k5 "ValueError.__new__") ∧ refsVE bm = true
  sa : findIn K (.ref C) "__setattr__" = some (some (.builtin "object.__setattr__"))
  ga : findIn K (.ref C) "__getattribute__" = some (some (.builtin "BaseException.__getattribute__"))
  gg : findIn K (.ref C) "__getattr__" = some none
  noN : findIn K (.ref C) "given" = some none
  iC : findIn K (.ref C) "__init__" = some (some (.ref fI))
  tC : typeIn K (.ref fI) = some (.type "function")
  kC : keepIn K (.ref C) = true
  exC : subIn K (.ref C) (.type "BaseException") = some true
  tyC : typeIn K (.ref C) = some (.type "type")
  hdC : hasDictIn K C = true
  te : exmOne K (.ref C) (.ref C) = some true
  fn : ∃ (oc : Value) (od : Option Addr) (doc pm : Value) (an : Option Addr) (cdv ct : Value) (osl : Array (Option Value)) (p1 p2 q1 q2 q3 q4 : Pos),
    K.lookup fI = some ⟨oc, od, .func (fnOf "__init__" qn (iA p1 p2) (iB q1 q2 q3 q4) iS .none .none doc pm an cdv ct), osl⟩ ∧ codeIn K cdv qn = true
theorem one_size (v : Value) : [v].length ≤ sizeLine := by
  rw [sizeLine_eq]
  exact (by decide : 1 ≤ 16777216)
theorem kept_but {K : Frag} {h h' : Heap} {x : Addr} (X : K.In h) (hx : K.lookup x = none) (k : ∀ b o, b ≠ x → h.get? b = some o → h'.get? b = some o) : K.In h' := fun a o e =>
  k a o (fun z => by rw [z, hx] at e; cases e) (X a o e)
theorem ldC {M : Model} {s : Shared} {name : Str} {scope : Scope} {L a : Addr} {cd : Value} {m : Str → Option Value} {x : Str} {pos : Pos} {v : Value} {Q : Value → Shared → Prop} {A : Around} {E : Value → Shared → Prop} (hn : s.heap.Ns L m) (hv : m x = some v) (h : Q v s)
    (hk : scope.kind = .function := by rfl) (hl : (envOfC name scope L a cd).kindOf x = some .local := by rfl) (hd : (x == ("__debug__" : Str)) = false := by decide) :
    wpAny M A (eval (.Name x pos) (envOfC name scope L a cd)) Q E s := wpAny_Name (wpAny_loadName_local hk hl hn hv h) hd
/-- what __init__ leaves of a fresh exception at x -/
structure InitEnd (h h' : Heap) (x C dx t1 : Addr) (v : Value) : Prop where
  keep : ∀ b o, b ≠ x → h.get? b = some o → h'.get? b = some o
  obj : h'.get? x = some { cls := .ref C, dict := some dx, data := .fields #[.ref t1, .none, .none, .none, .bool false, .none] }
  dbig : h.objs.size ≤ dx
  dne : dx ≠ x
  ns : h'.Ns1 dx (fun y => if y = "given" then some v else none)
/-- a made Low -/
structure OwnMade (h h' : Heap) (e C d : Addr) (v : Value) : Prop where
  keep : ∀ b o, h.get? b = some o → h'.get? b = some o
  new : h.objs.size ≤ e
  obj : ∃ oe vs, h'.get? e = some oe ∧ oe.cls = .ref C ∧ oe.dict = some d ∧ oe.data = .fields vs ∧ vs[1]? = some .none
  dbig : h.objs.size ≤ d
  dne : d ≠ e
  ns : h'.Ns1 d (fun y => if y = "given" then some v else none)
section
variable {prog : Program} {w : World} {A : Around} {E : Value → Shared → Prop} {R : Result → Shared → Prop} {s : Shared} {K : Frag} {mg : Str → Option Value} {cn qn : Str} {C fI : Addr}
theorem err_init (T : ErrTxt K mg cn qn C fI) {x t0 : Addr} {v : Value} (X : K.In s.heap) (hlim : s.heap.NoLimit) (hx : s.heap.get? x = some (excO C t0)) (hnx : K.lookup x = none) (hroom : A.depth < recursionLimit)
    (hq : ∀ h' tk dx, InitEnd s.heap h' x C dx t0 v → R (.ok (.ret .none)) { s with heap := h', toks := tk }) :
    codeAny (model prog w) A (.call (.ref fI) ⟨[.ref x, v], []⟩) R s := by
  obtain ⟨oc, od, doc, pm, an, cdv, ct, osl, p1, p2, q1, q2, q3, q4, ho, hcd⟩ := T.fn
  obtain ⟨nm, q, N, bs, bm, sn, sub, ab, col, dd, k0, k1, k2, k3, k5, hC, hbm⟩ := T.cls
  have hcl : clsIn K C = some { name := nm, bases := bs, mro := .ref C :: bm, ns := N, qualname := q, hasDict := true, slotNames := sn, subclasses := sub, abstract := ab, collection := col, hasDel := false } := by unfold clsIn; rw [hC] <;> rfl
  refine Att.call_fn (binds := [("self", .ref x), ("given", v)]) X hlim ho hcd hroom (BindsTo.of_eq (by first | rfl | with_unfolding_all rfl)) (by first | rfl | decide | with_unfolding_all rfl) (fun s₁ IC => ?_) rfl rfl rfl
  obtain ⟨h₁, tk₁, rfl⟩ := IC.toInCall.same
  have k : ∀ b o, s.heap.get? b = some o → h₁.get? b = some o := IC.toInCall.keep
  have hn := IC.toInCall.ns
  have hxL : s.heap.objs.size ≠ x := Nat.ne_of_gt (Heap.lt_size hx)
  have X₁ : K.In h₁ := X.keeps k
  have hx₁ := k _ _ hx
  -- self.by = by
  show wpAny _ _ (execs _ _) _ _ _
  refine wpAny_execs_cons (plainObj_wpAny_Assign_Attribute ?_)
  refine ldC (v := v) hn (by first | rfl | with_unfolding_all rfl | kernel_rfl) (ldC (v := .ref x) hn (by first | rfl | with_unfolding_all rfl | kernel_rfl) ?_)
  refine set_plain X₁ (ox := excO C t0) (od := none) ⟨hx₁, rfl, rfl, trivial⟩ T.sa ?_
  refine exc_osa X₁ hx₁ hcl (show refsVE (.ref C :: bm) = true from hbm) rfl T.noN (fun h₃ tk₃ dx k₃ dn dne hx₃ hn₃ => ?_)
  show wpAny _ _ (execs _ _) _ _ _
  have z : s.heap.objs.size < h₁.objs.size := hn.lt
  exact wpAny_execs_nil (hq h₃ tk₃ dx ⟨fun b o hb e => k₃ b o hb (k b o e), hx₃, Nat.le_of_lt (Nat.lt_of_lt_of_le z dn), dne, hn₃⟩)
theorem err_made (T : ErrTxt K mg cn qn C fI) {v : Value} (X : K.In s.heap) (hlim : s.heap.NoLimit) (hroom : A.depth + 1 < recursionLimit)
    (hq : ∀ h' tk e d, OwnMade s.heap h' e C d v → R (.ok (.ret (.ref e))) { s with heap := h', toks := tk }) :
    codeAny (model prog w) A (.call (.ref C) ⟨[v], []⟩) R s := by
  obtain ⟨nm, q, N, bs, bm, sn, sub, ab, col, dd, k0, k1, k2, k3, k5, hC, hbm⟩ := T.cls
  obtain ⟨hp, g, dr, tk, os⟩ := s
  have k : ∀ b o, hp.get? b = some o → ((hp.push (kdv_tup [v])).push (excO C hp.objs.size)).get? b = some o := fun b o e => Heap.get?_push_of_some _ (Heap.get?_push_of_some _ e)
  have hget : ((hp.push (kdv_tup [v])).push (excO C hp.objs.size)).get? (hp.objs.size + 1) = some (excO C hp.objs.size) := by heap_get
  have hnx : K.lookup (hp.objs.size + 1) = none := by
    cases e : K.lookup (hp.objs.size + 1) with
    | none => rfl
    | some o =>
      have z : hp.get? (hp.objs.size + 1) = some o := X _ _ e
      exact absurd (Nat.lt_of_succ_lt (Heap.lt_size z)) (Nat.lt_irrefl _)
  refine call_own F.excBase_ValueError (fun X => refsVE_contains X bm hbm) (X _ _ hC) (looks_findIn X T.iC) (fun self => bind_fn X self T.tC) (one_size v) ?_
  refine err_init (s := ⟨(hp.push (kdv_tup [v])).push (excO C hp.objs.size), g, dr, tk, os⟩) T (X.keeps k) (hlim.keeps k) hget hnx ?_ fun h' tk' dx ⟨k', hx, dn, dne, hns⟩ => ?_
  · show A.depth + 1 < recursionLimit
    exact hroom
  · have old : ∀ b o, hp.get? b = some o → h'.get? b = some o := fun b o e => k' b o (Nat.ne_of_lt (Nat.lt_succ_of_lt (Heap.lt_size e))) (k b o e)
    have z : hp.objs.size + 1 + 1 ≤ dx := by
      first
        | (simpa only [Heap.size_push] using dn)
        | exact dn
        | (have q := dn; rw [Heap.size_push, Heap.size_push] at q; exact q)
    exact ⟨rfl, hq h' tk' (hp.objs.size + 1) dx ⟨old, Nat.le_succ _, ⟨_, _, hx, rfl, rfl, rfl, rfl⟩, Nat.le_trans (Nat.le_trans (Nat.le_succ _) (Nat.le_succ _)) z, dne, hns⟩⟩
end
end QErr
end PySem
namespace L2
open PySem PySem.Spec PyProof.Rows
theorem relO_err {v : V} {v' : Value} (r : RelV v v') (f : Str) : RelO (List.lookup f [(("given" : Str), v)]) (if f = "given" then some v' else none) := by
  by_cases hw : f = "given"
  · subst hw
    rw [if_pos rfl]
    have q : List.lookup ("given" : Str) [(("given" : Str), v)] = some v := by simp [List.lookup]
    rw [q]
    exact r
  · rw [if_neg hw]
    have qw : (f == ("given" : Str)) = false := by simpa using hw
    have q2 : List.lookup f [(("given" : Str), v)] = none := by simp [List.lookup, qw]
    rw [q2]
    trivial
section
variable {X : Cx} {cn qn : Str} {C fI : Addr}
/-- Low(e) -/
def tMkErr (C : Addr) (ta : TA) : St → Hp → XK → Prop := fun σ H Q => ta σ H fun vs H1 => ∃ v, vs = [v] ∧ ∀ d, H1 d = none → Q (.ref C) (some d) (upd H1 d (.xd [(("given" : Str), v)]))
theorem pmk_err {a : Expr} {ta : TA} {p pos : Pos} {k : Nat} (T : PySem.QErr.ErrTxt X.K X.mg cn qn C fI) (hr : Room k X.A) (ha : PA X [a] ta) (hg : Gl X cn := by rfl) (hdb : (cn == ("__debug__" : Str)) = false := by decide)
    (he : starEach (a :: []) X.env = (false, eval a X.env) :: starEach [] X.env := by rfl) (hpl : (backTo pos (starEach [] X.env)).any (·.1) = false := by rfl) :
    PMk X (.Call (.Name cn p) [a] [] pos) (tMkErr C ta) := by
  intro pins s σ H Q I h
  refine wpAny_Call_Name_kw (ld_glob I hg T.gC ?_ hdb)
  refine PySem.W.callWith_K (h₀ := X.base) I.ok.mod.kin T.kC (thn (ha.run pos pins s σ H _ I h) fun us s1 hh => ?_) he hpl
  obtain ⟨vs, H1, I1, r1, v, ev, q1⟩ := hh
  subst ev
  refine ⟨I1.kIn, ?_⟩
  cases r1 with
  | cons rv rn =>
    rename_i v' us'
    cases rn
    show wpAny _ _ (call (.ref C) [v']) _ _ _
    have hlim := I1.nolimit
    obtain ⟨hp, g, dr, tk, os⟩ := s1
    refine wpAny_call (PySem.QErr.err_made T I1.kIn hlim (by have := hr.dp; omega) fun h' tk' e d M => ?_)
    show MkP X pins σ Q (.ref e) ⟨h', g, dr, tk', os⟩
    obtain ⟨oe, fv, hoe, hc, hd, hdat, h1⟩ := M.obj
    have hns := M.ns
    obtain ⟨G', g1, g2⟩ := restrict h' fun b => decide (b ≠ e)
    have gk : ∀ b, b ≠ e → G'.get? b = h'.get? b := fun b hb => g1 b (decide_eq_true hb)
    have ge : G'.get? e = none := g2 e (by simp)
    have old : ∀ b o, hp.get? b = some o → G'.get? b = some o := fun b o q => (gk b (Nat.ne_of_lt (Nat.lt_of_lt_of_le (Heap.lt_size q) M.new))).trans (M.keep b o q)
    have ob : ObjOk X.prog X.w (upd H1 d (.xd [(("given" : Str), v)])) G' d (.xd [(("given" : Str), v)]) :=
      ⟨_, hns.at (fun o q => (gk d M.dne).trans q), fun f => relO_err rv f⟩
    have J : Inv X pins σ (upd H1 d (.xd [(("given" : Str), v)])) ⟨G', g, dr, tk', os⟩ := I1.laid (t' := tk') old M.dbig ob
    refine ⟨e, oe, fv, ⟨G', g, dr, tk', os⟩, _, .ref C, some d, rfl, J, fun b o q => ?_, ge, hoe, ⟨hc, hd⟩, hdat, h1, ?_, rfl, I1.bare, raises_own T.exC T.tyC, q1 d (I1.hok.fresh M.dbig)⟩
    · by_cases hb : b = e
      · have q' : G'.get? b = some o := q
        rw [hb, ge] at q'; cases q'
      · exact (gk b hb).symm.trans q
    · rw [upd_ne (Ne.symm M.dne)]
      exact I1.hok.fresh M.new
/-- raise Low(e) -/
def tRaiseErr (C : Addr) (W : WX) (ta : TA) : TS := fun _ σ H => tMkErr C ta σ H fun cls d H' => W cls d σ H'
theorem ps_raiseErr {a : Expr} {ta : TA} {W : WX} {p pos pos2 : Pos} {k : Nat} (hc : X.calm = true) (T : PySem.QErr.ErrTxt X.K X.mg cn qn C fI) (hr : Room k X.A) (tk : Takes X W) (ha : PA X [a] ta) (hg : Gl X cn := by rfl) (hdb : (cn == ("__debug__" : Str)) = false := by decide)
    (he : starEach (a :: []) X.env = (false, eval a X.env) :: starEach [] X.env := by rfl) (hpl : (backTo pos (starEach [] X.env)).any (·.1) = false := by rfl) :
    PS X (.Raise (some (.Call (.Name cn p) [a] [] pos)) none pos2) (tRaiseErr C W ta) := ps_raise hc tk (pmk_err T hr ha hg hdb he hpl)
/-- low.by, low the exception that the suite holds (at a; its class cls, its dict d) -/
def tByErr (C : Addr) (a : Addr) (cls : Value) (d : Option Addr) (te : TE) : TE := fun σ H Q => te σ H fun x H1 => x = .ref a ∧ cls = .ref C ∧ ∃ (dd : Addr) (v : V), d = some dd ∧ H1 dd = some (.xd [(("given" : Str), v)]) ∧ Q v H1
theorem pe_byErr {a : Addr} {oe : Obj} {cls : Value} {d : Option Addr} {pn : List (Addr × Obj)} {e : Expr} {te : TE} {pos : Pos} (T : PySem.QErr.ErrTxt X.K X.mg cn qn C fI) (hz : Zc cls d oe) (hf : ∃ vs, oe.data = .fields vs) (he : PE (X.suite a ((a, oe) :: pn)) e te)
    (hb : attributeBase e "given" X.env (eval e X.env) = eval e X.env := by rfl) :
    PE (X.suite a ((a, oe) :: pn)) (.Attribute e "given" pos) (tByErr C a cls d te) := by
  refine ⟨fun pins s σ H Q I h => ?_⟩
  refine attr_of hb (thn (he.run pins s σ H _ I h) fun u s1 hh => ?_)
  obtain ⟨x, H1, I1, rx, ex, ec, dd, v, ed, ea, q⟩ := hh
  subst ex
  obtain rfl : u = Value.ref a := rx
  subst ec
  subst ed
  obtain ⟨ha, _⟩ := I1.pin (a, oe) (List.mem_append_left _ List.mem_cons_self)
  obtain ⟨vs, hd⟩ := hf
  have hx : ObjOk X.prog X.w H1 s1.heap dd (.xd [(("given" : Str), v)]) := I1.hok dd _ ea
  obtain ⟨mA, hns, hr⟩ := hx
  obtain ⟨od, ho, hl⟩ := lookIn_ns hns
  have l : List.lookup ("given" : Str) [(("given" : Str), v)] = some v := by simp [List.lookup]
  obtain ⟨u, hu, ru⟩ := RelO.some_of (v := v) (o := mA "given") (by rw [← l]; exact hr "given")
  have J : PySem.W.InstAt s1.heap a oe C (some od) := ⟨ha, hz.1, by unfold PySem.W.notCls; rw [hd] <;> rfl, by rw [hz.2]; exact ho⟩
  exact HandSPX.exc_get I1.kIn J T.ga T.gg T.exC (PySem.W.findObj_own T.hdC T.noN rfl (by rw [hl, hu])) (handed_of ru) ⟨v, H1, I1.tok _, ru, q⟩
end
end L2
/-! The pure layer, part 25: raise of an own error with the field given. -/
namespace QB
open PySem PySem.Spec PyProof.Rows L2

def raiseM (cn : Str) (m : M (List D)) : SM := fun e s => (m e s).toS fun ds e s => match ds with
  | [d] => .exc ⟨cn, [("given", d)]⟩ e s
  | _ => .bad
section
variable {X : Cx} {W : WX} {cn qn : Str} {C fI : Addr} {a : Expr} {m : M (List D)} {p pos pos2 : Pos} {k : Nat}
theorem st_raise (hc : X.calm = true) (T : PySem.QErr.ErrTxt X.K X.mg cn qn C fI) (hr : Room k X.A) (tk : L2.Takes X W) (ha : PAv X W [a] m) (hg : Gl X cn := by rfl) (hdb : (cn == ("__debug__" : Str)) = false := by decide)
    (he : starEach (a :: []) X.env = (false, eval a X.env) :: starEach [] X.env := by rfl) (hpl : (backTo pos (starEach [] X.env)).any (·.1) = false := by rfl) :
    PSv X W (.Raise (some (.Call (.Name cn p) [a] [] pos)) none pos2) (raiseM cn m) := by
  refine PS.weak (L2.ps_raiseErr hc T hr tk ha hg hdb he hpl) fun D σ H q => ?_
  obtain ⟨Z, S, rfl, R, hw⟩ := q
  refine ⟨Z, S, rfl, R, WpS.bnd (σ := σ) hw fun ds S1 R1 T1 h1 vs r1 => ?_⟩
  match ds, h1, r1 with
  | [], h1, _ => exact h1.elim
  | _ :: _ :: _, h1, _ => exact h1.elim
  | [d], h1, r1 =>
    obtain ⟨x, xs, e1, r2, r3⟩ := r1
    obtain rfl : xs = [] := r3
    refine ⟨x, e1, fun dd hd => ?_⟩
    refine h1 σ (S1.up (upd S1.H dd (.xd [("given", x)]))) rfl rfl (R1.up (ext_new hd)) (Tr.up (ext_new hd)) C dd ⟨T.gC, [("given", x)], ?_, x, [], rfl, (Tr.up (ext_new hd)).rp r2, rfl⟩
    exact ⟨R1.notMu hd, upd_same⟩
end
end QB

/-! The pure layer, part 26: try with one clause that names the error. -/
namespace QB
open PySem PySem.Spec PyProof.Rows L2

/-- a slot is given up -/
abbrev S8.no (S : S8) (i : Nat) : S8 := { S with env := S.env.set i .no }
section
variable {K : PySem.W.Frag} {mg : Str → Option Value} {Z : Addr → Prop} {σ : L2.St} {S : S8} {i : Nat}
theorem no_get {e : PEnv} {j : Nat} {s : Slot} (h : (e.set i .no)[j]? = some s) (hs : s ≠ .no) : j ≠ i ∧ e[j]? = some s := by
  by_cases hj : j = i
  · subst hj
    by_cases l : j < e.length
    · rw [List.getElem?_set_self l] at h; cases h; exact absurd rfl hs
    · rw [List.getElem?_eq_none (by simpa using l)] at h; cases h
  · exact ⟨hj, by rw [List.getElem?_set_ne (Ne.symm hj)] at h; exact h⟩
theorem no_cont {p : Pl} {c : Cell} (h : (S.no i).cont p = some c) : S.cont p = some c := by
  cases p with
  | inr k => exact h
  | inl j =>
    have h' : (match (S.env.set i .no)[j]? with | some (.own c) => some c | _ => none) = some c := h
    split at h'
    · rename_i e
      cases h'
      show (match S.env[j]? with | some (.own c) => some c | _ => none) = some c
      rw [(no_get e (by intro z; cases z)).2]
    · cases h'
theorem le_no : (S.wd K Z).Le ((S.no i).wd K Z) := le_sub rfl rfl rfl fun _ _ h => no_cont h
theorem tr_no : Tr S (S.no i) := Tr.sub rfl rfl rfl fun _ _ h => no_cont h
theorem Rel.no (R : Rel K Z σ S) {u : Option V} : Rel K Z (σ.set i u) (S.no i) where
  len := by
    show (S.env.set i .no).length = (σ.set i u).length
    rw [List.length_set, List.length_set]; exact R.len
  val := fun j d h => by
    obtain ⟨hj, h2⟩ := no_get h (by intro z; cases z)
    obtain ⟨v, e, r⟩ := R.val j d h2
    exact ⟨v, (List.getElem?_set_ne (Ne.symm hj)).trans e, le_no.rp d v r⟩
  own := fun j c h => by
    obtain ⟨hj, h2⟩ := no_get h (by intro z; cases z)
    exact (List.getElem?_set_ne (Ne.symm hj)).trans (R.own j c h2)
  cell := fun p c h => le_no.cell rfl (R.cell p c (no_cont h))
  inj := fun p q c d hp hq e => R.inj p q c d (no_cont hp) (no_cont hq) e
  zf := fun p c h => R.zf p c (no_cont h)
  zt := R.zt
end
/-- what the suite knows of its error -/
def EAt (mg : Str → Option Value) (w : Wd) (x : Exn) (cls : Value) (d : Option Addr) : Prop := ∃ C dd, cls = .ref C ∧ d = some dd ∧ ExAt mg w x C dd
def W0 : WX := fun _ _ _ _ => False
def tSX (K : PySem.W.Frag) (mg : Str → Option Value) (i : Nat) (a : Addr) (cls : Value) (d : Option Addr) (m : Exn → SM) : TS := fun D σ H =>
  ∃ Z S x, S.H = H ∧ Rel K Z σ S ∧ σ[i]? = some (some (.ref a)) ∧ EAt mg (S.wd K Z) x cls d ∧ WpS K mg W0 Z S (m x S.env S.st) D
def SR.noS (r : SR) (i : Nat) : SR := match r with
  | .nx e s => .nx (e.set i .no) s
  | .bk e s => .bk (e.set i .no) s
  | .ct e s => .ct (e.set i .no) s
  | .ret d e s => .ret d (e.set i .no) s
  | _ => .bad
/-- try: body, except c as slot i: suite; ct tells which classes the clause takes -/
def tryAs (body : SM) (ct : Str → Option Bool) (i : Nat) (suite : Exn → SM) : SM := fun e s => match body e s with
  | .exc x e' s' => match ct x.cls with
    | some true => if i < e'.length then (suite x (e'.set i .no) s').noS i else .bad
    | some false => .exc x e' s'
    | none => .bad
  | r => r
section
variable {K : PySem.W.Frag} {mg : Str → Option Value} {Z : Addr → Prop} {S : S8} {i : Nat}
theorem WpS.noS {W : WX} {r : SR} {D : Ends} (h : WpS K mg W Z S (r.noS i) D) :
    WpS K mg W0 Z S r { nx := fun σ' H' => D.nx (σ'.set i none) H', rt := D.rt, bk := fun σ' H' => D.bk (σ'.set i none) H', ct := fun σ' H' => D.ct (σ'.set i none) H' } := by
  cases r with
  | nx e s => exact fun σ' S' h1 h2 R T => h _ (S'.no i) (by show S'.env.set i .no = _; rw [h1]) h2 R.no (T.trans tr_no)
  | bk e s => exact fun σ' S' h1 h2 R T => h _ (S'.no i) (by show S'.env.set i .no = _; rw [h1]) h2 R.no (T.trans tr_no)
  | ct e s => exact fun σ' S' h1 h2 R T => h _ (S'.no i) (by show S'.env.set i .no = _; rw [h1]) h2 R.no (T.trans tr_no)
  | ret d e s => exact fun σ' S' h1 h2 R T v r => h (σ'.set i none) (S'.no i) (by show S'.env.set i .no = _; rw [h1]) h2 R.no (T.trans tr_no) v (le_no.rp _ _ r)
  | exc x e s => exact h.elim
  | bad => exact h.elim
end
section
variable {X : Cx} {x n : Str} {C0 : Value} {i : Nat} {body suite : List Stmt} {b₀ : Stmt} {np pos pos' : Pos} {Wout : WX} {mb : SM} {ms : Exn → SM} {ct : Str → Option Bool}
theorem st_tryAs (hs : X.stack = X.env :: X.outer) (hf : X.env.frame = some X.env.locals) (hN : X.N.Nodup) (hi : X.N[i]? = some n) (hln : X.env.kindOf n = some .local) (hc : Names X x C0) (tk : L2.Takes X Wout)
    (hct : ∀ cn C b, X.mg cn = some (.ref C) → ct cn = some b → PySem.W.exmOne X.K (.ref C) C0 = some b)
    (hb : ∀ (W : WX) (pn : List (Addr × Obj)) (xe : Value → Shared → Prop), L2.Takes (X.tr pn xe) W → PassesOwn (model X.prog X.w) X.A X.env xe → PSsv (X.tr pn xe) W body mb)
    (hsu : ∀ (a : Addr) (oe : Obj) (cls : Value) (d : Option Addr) (pn : List (Addr × Obj)), Zc cls d oe → (∃ vs, oe.data = .fields vs) → PSs (X.suite a ((a, oe) :: pn)) (b₀ :: suite) (tSX X.K X.mg i a cls d ms)) :
    PSv X Wout (.Try body [.ExceptHandler (some (.Name x np)) (some n) (b₀ :: suite) pos'] [] [] pos) (tryAs mb ct i ms) := by
  refine PS.weak (L2.ps_try_as (tb := fun W => tS X.K X.mg W mb) hs hf hN hi hln hc tk hb hsu) fun D σ H q => ?_
  obtain ⟨Z, S, rfl, R, hw⟩ := q
  refine ⟨Z, S, rfl, R, ?_⟩
  unfold tryAs at hw
  cases e : mb S.env S.st with
  | nx _ _ => rw [e] at hw; exact hw
  | ret _ _ _ => rw [e] at hw; exact hw
  | bk _ _ => rw [e] at hw; exact hw
  | ct _ _ => rw [e] at hw; exact hw
  | bad => rw [e] at hw; exact hw
  | exc y e' s' =>
    rw [e] at hw
    intro σ' S' h1 h2 R' T' C dd hx
    cases hy : ct y.cls with
    | none => simp only [hy] at hw; exact hw.elim
    | some b =>
      refine ⟨b, hct _ _ _ hx.1 hy, fun hb' a ha => ?_, fun hb' => ?_⟩
      · subst hb'
        simp only [hy] at hw
        by_cases hl : i < e'.length
        · rw [if_pos hl] at hw
          refine ⟨Z, S'.no i, y, rfl, R'.no, ?_, ⟨C, dd, rfl, rfl, ExAt.le le_no hx⟩, ?_⟩
          · exact List.getElem?_set_self (by rw [← R'.len, h1]; exact hl)
          · have hw2 := WpS.from (WpS.noS hw) (T'.trans (tr_no (i := i)))
            show WpS X.K X.mg W0 Z (S'.no i) (ms y (S'.env.set i .no) S'.st) _
            rw [h1, h2]
            exact hw2
        · rw [if_neg hl] at hw; exact hw.elim
      · subst hb'
        simp only [hy] at hw
        exact hw σ' S' h1 h2 R' T' C dd hx
end
end QB

/-! The pure layer, part 27: what an except suite says of its error. -/
namespace QB
open PySem PySem.Spec PyProof.Rows L2

theorem EAt.le {mg : Str → Option Value} {w w' : Wd} (l : w.Le w') {x : Exn} {cls : Value} {d : Option Addr} (h : EAt mg w x cls d) : EAt mg w' x cls d := by
  obtain ⟨C, dd, h1, h2, h3⟩ := h
  exact ⟨C, dd, h1, h2, h3.le l⟩
def tXv (K : PySem.W.Frag) (mg : Str → Option Value) (i : Nat) (a : Addr) (cls : Value) (d : Option Addr) (r : Exn → Option D) : TE := fun σ H Q =>
  ∃ Z S x d0, S.H = H ∧ Rel K Z σ S ∧ σ[i]? = some (some (.ref a)) ∧ EAt mg (S.wd K Z) x cls d ∧ r x = some d0 ∧
    ∀ S' : S8, S'.env = S.env → S'.st = S.st → Rel K Z σ S' → Tr S S' → ∀ v, Rp (S'.wd K Z) d0 v → Q v S'.H
def PXv (X : Cx) (i : Nat) (a : Addr) (cls : Value) (d : Option Addr) (e : Expr) (r : Exn → Option D) : Prop := PE X e (tXv X.K X.mg i a cls d r)
def tXa (K : PySem.W.Frag) (mg : Str → Option Value) (i : Nat) (a : Addr) (cls : Value) (d : Option Addr) (r : Exn → Option (List D)) : TA := fun σ H Q =>
  ∃ Z S x ds, S.H = H ∧ Rel K Z σ S ∧ σ[i]? = some (some (.ref a)) ∧ EAt mg (S.wd K Z) x cls d ∧ r x = some ds ∧
    ∀ S' : S8, S'.env = S.env → S'.st = S.st → Rel K Z σ S' → Tr S S' → ∀ vs, RpL (S'.wd K Z) ds vs → Q vs S'.H
def PXa (X : Cx) (i : Nat) (a : Addr) (cls : Value) (d : Option Addr) (es : List Expr) (r : Exn → Option (List D)) : Prop := PA X es (tXa X.K X.mg i a cls d r)
section
variable {X : Cx} {i : Nat} {a : Addr} {cls : Value} {d : Option Addr} {e : Expr} {pos : Pos}
theorem xv_cst {d0 : D} (h : PEv X W0 e (rt d0)) : PXv X i a cls d e (fun _ => some d0) := by
  refine PE.weak h fun σ H Q q => ?_
  obtain ⟨Z, S, x, d1, rfl, R, hi, hx, hr, hq⟩ := q
  cases hr
  exact ⟨Z, S, rfl, R, fun S' h1 h2 R' T' v rv => hq S' h1 h2 R' T' v rv⟩
theorem xa_nil : PXa X i a cls d [] (fun _ => some []) := by
  refine PA.weak pa_nil fun σ H Q q => ?_
  obtain ⟨Z, S, x, ds, rfl, R, hi, hx, hr, hq⟩ := q
  cases hr
  exact hq S rfl rfl R (Tr.refl S) [] RpL.nil
def consX (r : Exn → Option D) (rs : Exn → Option (List D)) : Exn → Option (List D) := fun x => (r x).bind fun d => (rs x).map (d :: ·)
theorem xa_cons {es : List Expr} {r : Exn → Option D} {rs : Exn → Option (List D)} (h : PXv X i a cls d e r) (hs : PXa X i a cls d es rs) (hst : starEach (e :: es) X.env = (false, eval e X.env) :: starEach es X.env := by rfl) :
    PXa X i a cls d (e :: es) (consX r rs) := by
  refine PA.weak (pa_cons h hs hst) fun σ H Q q => ?_
  obtain ⟨Z, S, x, ds, rfl, R, hi, hx, hr, hq⟩ := q
  unfold consX at hr
  cases e1 : r x with
  | none => rw [e1] at hr; cases hr
  | some d1 =>
    rw [e1] at hr
    cases e2 : rs x with
    | none => rw [Option.bind_some, e2] at hr; cases hr
    | some ds1 =>
      rw [Option.bind_some, e2] at hr
      cases hr
      refine ⟨Z, S, x, d1, rfl, R, hi, hx, e1, fun S1 h1 h2 R1 T1 v rv => ?_⟩
      exact ⟨Z, S1, x, ds1, rfl, R1, hi, hx.le T1.le, e2, fun S2 h3 h4 R2 T2 vs rvs => hq S2 (h3.trans h1) (h4.trans h2) R2 (T1.trans T2) _ (.cons (T2.rp rv) rvs)⟩
theorem xv_tup {es : List Expr} {x1} {rs : Exn → Option (List D)} (h : PXa X i a cls d es rs) : PXv X i a cls d (.Tuple es x1 pos) (fun x => (rs x).bind fun ds => if szOk ds.length then some (.tup ds) else none) := by
  refine PE.weak (pe_tup h) fun σ H Q q => ?_
  obtain ⟨Z, S, x, d1, rfl, R, hi, hx, hr, hq⟩ := q
  dsimp only at hr
  cases e1 : rs x with
  | none => rw [e1] at hr; cases hr
  | some ds =>
    rw [e1, Option.bind_some] at hr
    by_cases hb : szOk ds.length = true
    · rw [if_pos hb] at hr
      cases hr
      refine ⟨Z, S, x, ds, rfl, R, hi, hx, e1, fun S1 h1 h2 R1 T1 vs rvs => ⟨by rw [rvs.length]; exact szOk_le hb, fun p hp => ?_⟩⟩
      exact hq (S1.up (upd S1.H p (.tup vs))) h1 h2 (R1.up (ext_new hp)) (T1.trans (Tr.up (ext_new hp))) _ (R1.newTup hp rvs)
    · rw [if_neg hb] at hr; cases hr
theorem xv_lst {es : List Expr} {rs : Exn → Option (List D)} (h : PXa X i a cls d es rs) : PXv X i a cls d (.List es pos) (fun x => (rs x).bind fun ds => if szOk ds.length then some (.lst ds) else none) := by
  refine PE.weak (pe_lst h) fun σ H Q q => ?_
  obtain ⟨Z, S, x, d1, rfl, R, hi, hx, hr, hq⟩ := q
  dsimp only at hr
  cases e1 : rs x with
  | none => rw [e1] at hr; cases hr
  | some ds =>
    rw [e1, Option.bind_some] at hr
    by_cases hb : szOk ds.length = true
    · rw [if_pos hb] at hr
      cases hr
      refine ⟨Z, S, x, ds, rfl, R, hi, hx, e1, fun S1 h1 h2 R1 T1 vs rvs => ⟨by rw [rvs.length]; exact szOk_le hb, fun p hp => ?_⟩⟩
      refine hq (S1.up (upd S1.H p (.lst vs))) h1 h2 (R1.up (ext_new hp)) (T1.trans (Tr.up (ext_new hp))) _ ?_
      unfold Rp
      exact ⟨p, vs, rfl, ⟨R1.notMu hp, upd_same⟩, (Tr.up (ext_new hp)).rpL rvs⟩
    · rw [if_neg hb] at hr; cases hr
/-- return E, in the suite -/
def retX (r : Exn → Option D) : Exn → SM := fun x e s => match r x with
  | some d => .ret d e s
  | none => .bad
theorem sx_ret {r : Exn → Option D} (h : PXv X i a cls d e r) : PSs X [.Return (some e) pos] (tSX X.K X.mg i a cls d (retX r)) := by
  refine PSs.weak (pss_one (ps_ret h)) fun D σ H q => ?_
  obtain ⟨Z, S, x, rfl, R, hi, hx, hw⟩ := q
  unfold retX at hw
  cases e1 : r x with
  | none => rw [e1] at hw; exact hw.elim
  | some d0 =>
    rw [e1] at hw
    exact ⟨Z, S, x, d0, rfl, R, hi, hx, e1, fun S' h1 h2 R' T' v rv => hw σ S' h1 h2 R' T' v rv⟩
/-- a suite that does not speak of its error -/
theorem sx_any {st : List Stmt} {m : SM} (h : PSsv X W0 st m) : PSs X st (tSX X.K X.mg i a cls d (fun _ => m)) := by
  refine PSs.weak h fun D σ H q => ?_
  obtain ⟨Z, S, x, rfl, R, hi, hx, hw⟩ := q
  exact ⟨Z, S, rfl, R, hw⟩
end
section
variable {X : Cx} {i : Nat} {a C fI : Addr} {cls : Value} {d : Option Addr} {cn qn : Str} {pos p2 : Pos} {oe : Obj} {pn : List (Addr × Obj)} {n : Str}
/-- error.given, in the suite -/
def givenX (cn : Str) : Exn → Option D := fun x => if x.cls = cn then (match x.fs with
  | [(f, dv)] => if f = "given" then some dv else none
  | _ => none) else none
theorem xv_given (T : PySem.QErr.ErrTxt X.K X.mg cn qn C fI) (hz : Zc cls d oe) (hf : ∃ vs, oe.data = .fields vs) (he : PE (X.suite a ((a, oe) :: pn)) (.Name n p2) (tVar i))
    (hb : attributeBase (.Name n p2) "given" X.env (eval (.Name n p2) X.env) = eval (.Name n p2) X.env := by rfl) :
    PXv (X.suite a ((a, oe) :: pn)) i a cls d (.Attribute (.Name n p2) "given" pos) (givenX cn) := by
  refine PE.weak (L2.pe_byErr T hz hf he hb) fun σ H Q q => ?_
  obtain ⟨Z, S, x, d0, rfl, R, hi, hx, hr, hq⟩ := q
  obtain ⟨C', dd, rfl, rfl, hm, vs, ⟨nm, hH⟩, hfs⟩ := hx
  unfold givenX at hr
  by_cases hc : x.cls = cn
  · rw [if_pos hc] at hr
    rw [hc] at hm
    have hC : C' = C := by
      have := hm.symm.trans T.gC
      cases this; rfl
    subst hC
    match hfs' : x.fs with
    | [] => rw [hfs'] at hr; cases hr
    | _ :: _ :: _ => rw [hfs'] at hr; cases hr
    | [(f, dv)] =>
      rw [hfs'] at hr hfs
      by_cases hg : f = "given"
      · simp only [if_pos hg] at hr
        cases hr
        obtain ⟨v, xs, e1, r1, r2⟩ := hfs
        obtain rfl : xs = [] := r2
        subst e1
        subst hg
        exact ⟨.ref a, hi, rfl, rfl, dd, v, rfl, hH, hq S rfl rfl R (Tr.refl S) v r1⟩
      · simp only [if_neg hg] at hr; cases hr
  · rw [if_neg hc] at hr; cases hr
end
end QB

/-! The pure layer, part 28: try with a chain of clauses, each with a name of its own. -/
namespace QB
open PySem PySem.Spec PyProof.Rows L2

/-- an error of class cls lies at a, caught by the frame of X; h is the heap -/
structure Caught (X : Cx) (pins : List (Addr × Obj)) (a : Addr) (s : Shared) (σ : L2.St) (H : Hp) (cls : Value) (d : Option Addr) (h : Heap) : Prop where
  there : ∃ (B : Heap) (sI : Shared), Inv X pins σ H sI ∧ (∀ b o, sI.heap.get? b = some o → b ∉ frs X.stack → B.get? b = some o) ∧ sI.heap.UpToSlots h ∧ HandSPX.FlyingZ B (X.env :: X.outer) a (Zc cls d) h ∧ s.os = sI.os
  na : H a = none
  ag : AllBare s.gens
/-- the clauses do with such an error what the wish w says -/
def ChainOk (X : Cx) (hds : List ExceptHandler) (w : Ends → WX) : Prop := ∀ (pins : List (Addr × Obj)) (D : Ends) (a : Addr) (s : Shared) (σ : L2.St) (H : Hp) (cls : Value) (d : Option Addr) (h : Heap),
  X.Ok → Caught X pins a s σ H cls d h → w D cls d σ H → wpAny (model X.prog X.w) X.A (handleBy (.ref a) X.env hds) (SP X pins D) X.xe { s with heap := h }
section
variable {X : Cx}
theorem chain_nil {Wout : WX} (hs : X.stack = X.env :: X.outer) (hf : X.env.frame = some X.env.locals) (tk : L2.Takes X Wout) : ChainOk X [] (fun _ => Wout) := by
  rintro pins D a s σ H cls d h ok ⟨⟨B, sI, J, nb, up, fl, os⟩, na, ag⟩ hw
  refine wpAny_handleBy_nil ?_
  obtain ⟨_, _, _, oe, vs, T, oT, ts, he, hz, hd, h1, _⟩ := id fl
  unfold PySem.passOn
  refine wpAny_bind (wpAny_field he hd h1 ?_)
  rw [if_neg (by simp : ¬ ((Value.ref T == Value.none) = true))]
  have go : wpAny (model X.prog X.w) X.A (setFlight (.ref a) X.env.frame) (fun _ s' => wpAny (model X.prog X.w) X.A (throw (.ref a) : Sem Flow) (SP X pins D) X.xe s') X.xe { s with heap := h } := by
    rw [hf]
    exact HandSPX.setFlight_upZ fl fun h' f' u' => wpAny_throw (tk _ _ ⟨a, B, sI, pins, σ, H, cls, d, rfl, J, nb, up.trans u', .inr (.inr (by rw [hs]; exact f')), na, os, ag, hw⟩)
  first | exact wpAny_bind (wpAny_pure (wpAny_bind go)) | exact wpAny_bind go
theorem chain_cons {x n : Str} {c : Value} {i : Nat} {suite : List Stmt} {b₀ : Stmt} {np pos' : Pos} {hds : List ExceptHandler} {w : Ends → WX} {ts : Addr → Value → Option Addr → TS}
    (hs : X.stack = X.env :: X.outer) (hf : X.env.frame = some X.env.locals) (hN : X.N.Nodup) (hi : X.N[i]? = some n) (hln : X.env.kindOf n = some .local) (hc : Names X x c)
    (hsu : ∀ (a : Addr) (oe : Obj) (cls : Value) (d : Option Addr) (pn : List (Addr × Obj)), Zc cls d oe → (∃ vs, oe.data = .fields vs) → PSs (X.suite a ((a, oe) :: pn)) (b₀ :: suite) (ts a cls d))
    (hr : ChainOk X hds w) : ChainOk X (.ExceptHandler (some (.Name x np)) (some n) (b₀ :: suite) pos' :: hds) (fun D => wAs X.K c i ts (w D) D) := by
  rintro pins D a s σ H cls d h ok C hw
  obtain ⟨⟨B, sI, J, nb, up, fl, os⟩, na, ag⟩ := id C
  obtain ⟨b, hb, yes, no⟩ := hw
  have JJ : Inv X pins σ H { s with heap := h } := J.landed nb fl.1 up os ag
  obtain ⟨o1, v1, g1, z1, d1⟩ := fl.there
  have out : a ∉ frs (X.env :: X.outer) := fun m => by
    obtain ⟨_, o2, g2, k2⟩ := fl.2.2.1.mem m
    rw [g1] at g2; cases g2
    exact k2 _ d1
  have nL : a ≠ X.env.locals := fun z => out (List.mem_filterMap.mpr ⟨X.env, List.mem_cons_self, hf.trans (congrArg some z.symm)⟩)
  have nF : a ∉ X.fs := fun m => by
    obtain ⟨e, me, q⟩ := List.mem_filterMap.mp m
    exact out (List.mem_filterMap.mpr ⟨e, List.mem_cons_of_mem _ me, q⟩)
  have SS := JJ.suite g1 d1 na nL nF
  refine wpAny_handleBy_cons (codeAny_handlers_test ?_) (by intro q; cases q)
  have ty : PySem.W.Looks (model X.prog X.w) h (typeOf (.ref a)) cls := fun _ _ _ _ k q => wpAny_typeOf_ref (k _ _ g1) (z1.1.symm ▸ q)
  have ex := PySem.W.exm_one (M := model X.prog X.w) JJ.kIn ty hb
  have ask : ∀ {Q E : Value → Shared → Prop}, Q c { s with heap := h } → wpAny (model X.prog X.w) (X.A.mark (some (.ref a))) (eval (.Name x np) X.env) Q E { s with heap := h } := by
    intro Q E q
    obtain ⟨hg, hdb, hm | ⟨hm, hv, hn⟩⟩ := hc
    · exact ld_glob (X := X.suite a ((a, o1) :: (X.pn ++ pins))) SS hg hm q hdb
    · exact ld_blt (X := X.suite a ((a, o1) :: (X.pn ++ pins))) SS hg hm hv q hn hdb
  refine ask (ex.here ?_)
  cases b with
  | false => exact hr pins D a s σ H cls d h ok C (no rfl)
  | true =>
    refine codeAny_handlers_suite_as ?_
    refine HandSPX.lands_againZ fl fun h4 fl4 up4 => ?_
    have J4 : Inv X pins σ H { s with heap := h4 } := J.landed nb fl4.1 (up.trans up4) os ag
    obtain ⟨o4, v4, g4, z4, d4⟩ := fl4.there
    refine store_ok (X := X.suite a ((a, o4) :: (X.pn ++ pins))) (v := .ref a) (J4.suite g4 d4 na nL nF) hN hi (.inl hln) rfl (fun s5 S5 => ?_) (.inr hln)
    refine wpAny_mono ((hsu a o4 cls d (X.pn ++ pins) z4 ⟨_, d4⟩).run [] s5 _ H _ S5 (yes rfl a na)) (fun f s6 q6 => ?_) fun _ _ z => False.elim z
    have bye : ∀ {σ6 : L2.St} {H6 : Hp} {Q : Shared → Prop}, Inv (X.suite a ((a, o4) :: (X.pn ++ pins))) [] σ6 H6 s6 → (∀ s7, Inv X pins (σ6.set i none) H6 s7 → Q s7) →
        wpAny (model X.prog X.w) X.A (do bindName X.env n .none; unbindBehindTheSuite X.env n pos') (fun _ s7 => Q s7) X.xe s6 := fun I6 hq => gone_ok (I6.unsuite ok) hN hi hln hq
    cases f with
    | ret u => obtain ⟨v6, σ6, H6, I6, r6, q⟩ := q6; exact bye I6 fun s7 J7 => ⟨_, _, _, J7, r6, q⟩
    | next => obtain ⟨σ6, H6, I6, q⟩ := q6; exact bye I6 fun s7 J7 => ⟨_, _, J7, q⟩
    | brk => obtain ⟨σ6, H6, I6, q⟩ := q6; exact bye I6 fun s7 J7 => ⟨_, _, J7, q⟩
    | cont => obtain ⟨σ6, H6, I6, q⟩ := q6; exact bye I6 fun s7 J7 => ⟨_, _, J7, q⟩
theorem ps_chain {h₀ : ExceptHandler} {hds : List ExceptHandler} {w : Ends → WX} {body : List Stmt} {tb : WX → TS} {pos : Pos} (hs : X.stack = X.env :: X.outer) (hf : X.env.frame = some X.env.locals)
    (hb : ∀ (W : WX) (pn : List (Addr × Obj)) (xe : Value → Shared → Prop), L2.Takes (X.tr pn xe) W → PassesOwn (model X.prog X.w) X.A X.env xe → PSs (X.tr pn xe) body (tb W))
    (hk : ChainOk X (h₀ :: hds) w) : PS X (.Try body (h₀ :: hds) [] [] pos) (fun D σ H => tb (w D) D σ H) := by
  refine ⟨fun pins s σ H D I hh => ?_⟩
  have ok := I.ok
  have fr : X.A.frames = some (X.env :: X.outer) := ok.frames.trans (congrArg some hs)
  refine wpAny_Try_except ?_
  refine wpAny_mono ((hb (w D) (X.pn ++ pins) (fun e s₁ => wpAny (model X.prog X.w) X.A (noteFrame e X.env) (fun _ s₂ => wpAny (model X.prog X.w) X.A (setFlight e none) (fun _ s₃ =>
    wpAny (model X.prog X.w) X.A (handleBy e X.env (h₀ :: hds)) (SP X pins D) X.xe s₃) X.xe s₂) X.xe s₁) (fun u s' xx => ?_) PassesOwn.looking).run [] s σ H D (I.toTry _) hh) (fun f s1 q => ?_) fun e s1 he => he
  · obtain ⟨a, B, sI, pn', σ', H', cls, d, rfl, J', nb, up, sky, na, os, ag, hw⟩ := xx
    show wpAny (model X.prog X.w) X.A (noteFrame (.ref a) X.env) _ _ _
    have sky2 : Sky B (X.env :: X.outer) a (Zc cls d) X.env.locals s'.heap := hs ▸ sky
    refine Sky.land Zc.steady fr hf sky2 fun h3 fl3 up3 => ?_
    exact hk pins D a s' σ' H' cls d h3 ok ⟨⟨B, sI, J'.ofTry ok, nb, up.trans up3, fl3, os⟩, na, ag⟩ hw
  · cases f with
    | ret u => obtain ⟨v, σ', H', J', r, q⟩ := q; exact ⟨v, σ', H', J'.ofTry ok, r, q⟩
    | next => obtain ⟨σ', H', J', q⟩ := q; exact wpAny_execs_nil ⟨σ', H', J'.ofTry ok, q⟩
    | brk => obtain ⟨σ', H', J', q⟩ := q; exact ⟨σ', H', J'.ofTry ok, q⟩
    | cont => obtain ⟨σ', H', J', q⟩ := q; exact ⟨σ', H', J'.ofTry ok, q⟩
end
end QB

/-! The pure layer, part 29: try with several named clauses. -/
namespace QB
open PySem PySem.Spec PyProof.Rows L2

/-- no clause is left -/
def catchE : Exn → SM := fun x e s => .exc x e s
/-- a clause with a name, ahead of what the others do: which classes it takes, its slot, its suite -/
def catch1 (ct : Str → Option Bool) (i : Nat) (su : Exn → SM) (r : Exn → SM) : Exn → SM := fun x e s => match ct x.cls with
  | some true => if i < e.length then (su x (e.set i .no) s).noS i else .bad
  | some false => r x e s
  | none => .bad
def tryN (body : SM) (r : Exn → SM) : SM := fun e s => match body e s with
  | .exc x e' s' => r x e' s'
  | m => m
def PCh (X : Cx) (Wout : WX) (hds : List ExceptHandler) (cs : Exn → SM) : Prop := ∃ w : Ends → WX, ChainOk X hds w ∧
  ∀ (D : Ends) (Z : Addr → Prop) (S : S8) (σ : L2.St) (x : Exn) (C dd : Addr), Rel X.K Z σ S → ExAt X.mg (S.wd X.K Z) x C dd → WpS X.K X.mg Wout Z S (cs x S.env S.st) D → w D (.ref C) (some dd) σ S.H
section
variable {X : Cx} {Wout : WX}
theorem ch_nil (hs : X.stack = X.env :: X.outer) (hf : X.env.frame = some X.env.locals) (tk : L2.Takes X Wout) : PCh X Wout [] catchE :=
  ⟨fun _ => Wout, chain_nil hs hf tk, fun D Z S σ x C dd R hx hw => hw σ S rfl rfl R (Tr.refl S) C dd hx⟩
theorem ch_cons {x n : Str} {C0 : Value} {i : Nat} {suite : List Stmt} {b₀ : Stmt} {np pos' : Pos} {hds : List ExceptHandler} {cs : Exn → SM} {ct : Str → Option Bool} {ms : Exn → SM}
    (hs : X.stack = X.env :: X.outer) (hf : X.env.frame = some X.env.locals) (hN : X.N.Nodup) (hi : X.N[i]? = some n) (hln : X.env.kindOf n = some .local) (hc : Names X x C0)
    (hct : ∀ cn C b, X.mg cn = some (.ref C) → ct cn = some b → PySem.W.exmOne X.K (.ref C) C0 = some b)
    (hsu : ∀ (a : Addr) (oe : Obj) (cls : Value) (d : Option Addr) (pn : List (Addr × Obj)), Zc cls d oe → (∃ vs, oe.data = .fields vs) → PSs (X.suite a ((a, oe) :: pn)) (b₀ :: suite) (tSX X.K X.mg i a cls d ms))
    (hr : PCh X Wout hds cs) : PCh X Wout (.ExceptHandler (some (.Name x np)) (some n) (b₀ :: suite) pos' :: hds) (catch1 ct i ms cs) := by
  obtain ⟨w, hk, hw⟩ := hr
  refine ⟨_, chain_cons hs hf hN hi hln hc hsu hk, fun D Z S σ y C dd R hx h => ?_⟩
  unfold catch1 at h
  cases hy : ct y.cls with
  | none => simp only [hy] at h; exact h.elim
  | some b =>
    refine ⟨b, hct _ _ _ hx.1 hy, fun hb a ha => ?_, fun hb => ?_⟩
    · subst hb
      simp only [hy] at h
      by_cases hl : i < S.env.length
      · rw [if_pos hl] at h
        exact ⟨Z, S.no i, y, rfl, R.no, List.getElem?_set_self (by rw [← R.len]; exact hl), ⟨C, dd, rfl, rfl, ExAt.le le_no hx⟩, WpS.from (WpS.noS h) (tr_no (i := i))⟩
      · rw [if_neg hl] at h; exact h.elim
    · subst hb
      simp only [hy] at h
      exact hw D Z S σ y C dd R hx h
theorem st_tryN {h₀ : ExceptHandler} {hds : List ExceptHandler} {cs : Exn → SM} {body : List Stmt} {mb : SM} {pos : Pos} (hs : X.stack = X.env :: X.outer) (hf : X.env.frame = some X.env.locals)
    (hb : ∀ (W : WX) (pn : List (Addr × Obj)) (xe : Value → Shared → Prop), L2.Takes (X.tr pn xe) W → PassesOwn (model X.prog X.w) X.A X.env xe → PSsv (X.tr pn xe) W body mb)
    (hk : PCh X Wout (h₀ :: hds) cs) : PSv X Wout (.Try body (h₀ :: hds) [] [] pos) (tryN mb cs) := by
  obtain ⟨w, hk, hc⟩ := hk
  refine PS.weak (ps_chain (tb := fun W => tS X.K X.mg W mb) hs hf hb hk) fun D σ H q => ?_
  obtain ⟨Z, S, rfl, R, hw⟩ := q
  refine ⟨Z, S, rfl, R, ?_⟩
  unfold tryN at hw
  cases e : mb S.env S.st with
  | nx _ _ => rw [e] at hw; exact hw
  | ret _ _ _ => rw [e] at hw; exact hw
  | bk _ _ => rw [e] at hw; exact hw
  | ct _ _ => rw [e] at hw; exact hw
  | bad => rw [e] at hw; exact hw
  | exc y e' s' =>
    rw [e] at hw
    intro σ' S' h1 h2 R' T' C dd hx
    refine hc D Z S' σ' y C dd R' hx ?_
    rw [h1, h2]
    exact WpS.from hw T'
end
end QB

/-! The pure layer, part 30: isinstance(e, X) in a suite, e an error with fields. -/
namespace PySem.W
open PySem PySem.Spec PySem.Calls PyProof.Rows
section
variable {prog : Program} {w : World} {A : Around} {E : Value → Shared → Prop} {s : Shared} {K : Frag} {x D : Addr} {ox : Obj} {od : Option Obj}
theorem qb_data {name : Str} {a g : Value} (hc : (clsIn K D).isSome = true) (ha : findIn K (.ref D) name = some (some a)) (hg : specialIn K a "__get__" = some (some g)) (ht : takesIn K a = some true) : findObj K D od name = some (.bind g a) := by
  obtain ⟨cd, hcd⟩ := Option.isSome_iff_exists.mp hc
  simp [findObj, hcd, ha, hg, ht]
theorem qb_cls {Q : Option Value → Shared → Prop} (F : L2.ExcC K D) (X : K.In s.heap) (I : InstAt s.heap x ox D od) (h : Q (some (.ref D)) { s with toks := s.toks + 1 }) : wpAny (model prog w) A (getAttr? (.ref x) "__class__") Q E s := by
  have look := qb_data (od := od) (name := "__class__") (by obtain ⟨cd, hc, _⟩ := any_some F.hd; rw [hc]; rfl) F.ha F.hn F.ht
  obtain ⟨hp, g, d, t, os⟩ := s
  have T0 := I.type (M := model prog w)
  have T3 := looks_find (M := model prog w) X I look
  have isB : Looks (model prog w) hp (isInstance (.ref x) (.type "BaseException")) true := T0.andThen (looks_subIn X F.hs)
  have no2 : (onTheHeap (Value.ref D) && Value.builtin "BaseException.__getattribute__" == Value.builtin "object.__getattribute__") = false := by
    have z : (Value.builtin "BaseException.__getattribute__" == Value.builtin "object.__getattribute__") = false := by decide +kernel
    rw [z, Bool.and_false]
  unfold getAttr? getAttrBy? getAttrBy
  refine wpAny_bind (wpAny_mkText (wpAny_bind (wpAny_attempt (wpAny_holding (wpAny_bind (T0.at (wpAny_bind ((looks_findIn (M := model prog w) X F.hg).at ?_))))))))
  show wpAny _ _ (if (onTheHeap (Value.ref D) && Value.builtin "BaseException.__getattribute__" == Value.builtin "object.__getattribute__") = true then _ else _) _ _ _
  rw [no2, if_neg Bool.false_ne_true]
  unfold getAttrByItsOwn hookBefore
  refine wpAny_bind ?_
  rw [show onTheHeap (Value.ref D) = true from rfl, if_pos rfl]
  refine (looks_findIn (M := model prog w) X F.hk).at (wpAny_bind (wpAny_attempt (wpAny_holding ?_)))
  unfold callGetattribute
  rw [if_neg (show ¬ (false && onTheHeap (Value.builtin "BaseException.__getattribute__")) = true from Bool.false_ne_true)]
  unfold boundAndCalled
  rw [PySem.F.excAttr_ValueError.ga.bind (.ref x)]
  refine wpAny_bind (wpAny_pure ?_)
  show wpAny _ _ (call (.builtin "BaseException.__getattribute__") [.ref x, .str "__class__" t]) _ _ _
  refine wpAny_call (codeAny_call_builtin PySem.F.excAttr_ValueError.ga.plain PySem.F.entry_bexc_ga (@check_slot (model prog w) _ _ ⟨hp, g, d, t + 1, os⟩ "BaseException.__getattribute__" "BaseException" "__getattribute__" (.ref x) [.str "__class__" t] [] _ (by decide +kernel) (by decide +kernel) isB (PySem.F.args_bexc_ga (.ref x) (.str "__class__" t)) ?_))
  unfold Builtin.«object.__getattribute__»
  refine wpAny_bind (wpAny_of_eq (a := ((Value.ref x : Value), [Value.str "__class__" t])) (by first | rfl | (simp only [slotArgs]; rfl)) (wpAny_bind (wpAny_pure (wpAny_bind (T0.at (wpAny_bind (T3.at ?_)))))))
  show wpAny _ _ (holding [Value.builtin "object.__class__"] (call (.builtin "getset_descriptor.__get__") [.builtin "object.__class__", .ref x, .ref D]) >>= ret) _ _ _
  refine wpAny_bind (wpAny_holding (wpAny_call (class_get (s := ⟨hp, g, d, t + 1, os⟩) (ox := ox) (od := od) X I F.hm (wpAny_pure ?_))))
  show wpAny _ _ (handedOut (.ref D)) _ _ _
  rw [handedOut_of (v := .ref D) rfl]
  first
    | exact wpAny_pure (wpAny_pure h)
    | exact wpAny_pure h
    | exact wpAny_pure (wpAny_bind (wpAny_pure (wpAny_pure h)))
/-- such an error at x, asked for its kind -/
theorem qb_kit (F : L2.ExcC K D) : KitX K (.ref x) (.ref D) (fun h => ∃ od, InstAt h x ox D od) where
  ty := fun _ _ _ ⟨_, I⟩ => I.type
  it := fun _ _ X _ => by
    obtain ⟨cd, hcd, _⟩ := any_some F.hd
    unfold clsIn at hcd
    split at hcd
    · rename_i ho
      exact fun _ _ _ _ k q => by unfold isType loadHead; exact wpAny_bind (wpAny_loadPart (k _ _ (X _ _ ho)) (wpAny_pure q))
    · cases hcd
  ne := (handS_kitx_exc (ox := ox) F.hg F.hk F.hs F.hd F.ha F.hn F.ht F.hm (x := x)).ne
  ca := fun X ⟨_, I⟩ k => qb_cls F X I k
end
end PySem.W
namespace L2
open PySem PySem.Spec PyProof.Rows
/-- isinstance(e, c), e the error that the suite holds, whatever its dict -/
theorem call_isX {X : Cx} {a : Addr} {oe : Obj} {cls : Value} {d : Option Addr} {pn : List (Addr × Obj)} (hz : Zc cls d oe) (hf : ∃ vs, oe.data = .fields vs) :
    CallR (X.suite a ((a, oe) :: pn)) (.builtin "isinstance") (fun xs H Q => ∃ (D dd : Addr) (vsd : List (Str × V)), cls = .ref D ∧ ExcC X.K D ∧ d = some dd ∧ H dd = some (.xd vsd) ∧ rIsE X.K D a xs H Q) := by
  intro pins s σ H xs us Q I r h
  obtain ⟨D, dd, vsd, rfl, C, rfl, hx, c, cv, b, rfl, hcv, e, q⟩ := h
  cases r with
  | cons rx rr =>
    cases rr with
    | cons rt rr =>
      cases rr
      cases rx
      have ec := hcv _ rt
      subst ec
      obtain ⟨hget, _⟩ := I.pin (a, oe) (List.mem_append.mpr (.inl List.mem_cons_self))
      obtain ⟨vs, hv⟩ := hf
      have ob : ObjOk X.prog X.w H s.heap dd (.xd vsd) := I.hok dd _ hx
      obtain ⟨mA, hns, _⟩ := ob
      obtain ⟨od, ho, _⟩ := lookIn_ns hns
      have J : PySem.W.InstAt s.heap a oe D (some od) := ⟨hget, hz.1, by unfold PySem.W.notCls; rw [hv] <;> rfl, by rw [hz.2]; exact ho⟩
      exact PySem.W.kia_one (PySem.W.qb_kit C) I.kIn ⟨_, J⟩ e (fun z => nomatch z) fun tk => ⟨.bl b, H, I.kept (t' := tk) fun _ _ z => z, rfl, q⟩
end L2

/-! The pure layer, part 31: isinstance(e, X) and choices by it, in a suite. -/
namespace QB
open PySem PySem.Spec PyProof.Rows L2
section
variable {X : Cx} {i : Nat} {a C2 : Addr} {cls : Value} {d : Option Addr} {cn2 n : Str} {p p2 p3 pos : Pos} {oe : Obj} {pn : List (Addr × Obj)} {ct : Str → Option Bool}
theorem xv_isinst (hz : Zc cls d oe) (hf : ∃ vs, oe.data = .fields vs) (hm : X.mg cn2 = some (.ref C2)) (hi0 : X.mg "isinstance" = none)
    (F : ∀ cn D b, X.mg cn = some (.ref D) → ct cn = some b → ExcC X.K D ∧ PySem.W.kitOne X.K (.ref D) (.ref C2) = some b)
    (he : PE (X.suite a ((a, oe) :: pn)) (.Name n p2) (tVar i)) (hg : Gl X cn2 := by rfl) (hg0 : Gl X "isinstance" := by rfl) (hdb : (cn2 == ("__debug__" : Str)) = false := by decide)
    (h1 : starEach [.Name n p2, .Name cn2 p3] X.env = (false, eval (.Name n p2) X.env) :: starEach [.Name cn2 p3] X.env := by rfl) (h2 : starEach [.Name cn2 p3] X.env = (false, eval (.Name cn2 p3) X.env) :: starEach [] X.env := by rfl)
    (hpl : (backTo pos (starEach [.Name cn2 p3] X.env)).any (·.1) = false := by rfl) :
    PXv (X.suite a ((a, oe) :: pn)) i a cls d (.Call (.Name "isinstance" p) [.Name n p2, .Name cn2 p3] [] pos) (fun x => (ct x.cls).map D.bl) := by
  have hcl : PE (X.suite a ((a, oe) :: pn)) (.Name cn2 p3) (tC (.ref C2)) := pe_glob (X := X.suite a ((a, oe) :: pn)) hg hm rfl hdb
  refine PE.weak (pe_callB (X := X.suite a ((a, oe) :: pn)) (call_isX hz hf) hg0 hi0 rfl (pa_cons he (pa_cons hcl pa_nil h2) h1) (by decide) (by decide) h1 hpl) fun σ H Q q => ?_
  obtain ⟨Z, S, x, d0, rfl, R, hi, hx, hr, hq⟩ := q
  obtain ⟨C', dd, rfl, rfl, hmc, vs, ⟨nm, hH⟩, hfs⟩ := hx
  dsimp only at hr
  cases hc : ct x.cls with
  | none => rw [hc] at hr; cases hr
  | some b =>
    rw [hc] at hr
    cases hr
    obtain ⟨E, k⟩ := F _ _ _ hmc hc
    exact ⟨.ref a, hi, C', dd, vs, rfl, E, rfl, hH, .ref C2, .ref C2, b, rfl, fun u r => r, k, hq S rfl rfl R (Tr.refl S) (.bl b) (by unfold Rp; rfl)⟩
end
end QB

/-! The pure layer, part 32: A if B else C, in a suite. -/
namespace QB
open PySem PySem.Spec PyProof.Rows L2
section
variable {X : Cx} {i : Nat} {a : Addr} {cls : Value} {d : Option Addr} {c ea eb : Expr} {pos : Pos} {rc : Exn → Option Bool} {ra rb : Exn → Option D}
theorem xv_if (hc : PXv X i a cls d c (fun x => (rc x).map D.bl)) (ha : PXv X i a cls d ea ra) (hb : PXv X i a cls d eb rb)
    (hw : ∀ whole, isTrue c X.env whole = (do let v ← whole; standAt c.pos; holding [v] (truthy v)) := by intro _; rfl) :
    PXv X i a cls d (.IfExp c ea eb pos) (fun x => (rc x).bind fun t => if t = true then ra x else rb x) := by
  refine PE.weak (pe_ifExp (pt_val hc hw) ha hb) fun σ H Q q => ?_
  obtain ⟨Z, S, x, d0, rfl, R, hi, hx, hr, hq⟩ := q
  dsimp only at hr
  cases e1 : rc x with
  | none => rw [e1] at hr; cases hr
  | some t =>
    rw [e1, Option.bind_some] at hr
    refine ⟨Z, S, x, .bl t, rfl, R, hi, hx, by dsimp only; rw [e1]; rfl, fun S1 h1 h2 R1 T1 v rv => ?_⟩
    unfold Rp at rv
    subst rv
    cases t with
    | true =>
      rw [if_pos rfl] at hr
      refine ⟨true, rfl, iteT ⟨Z, S1, x, d0, rfl, R1, hi, hx.le T1.le, hr, fun S2 h3 h4 R2 T2 v r => hq S2 (h3.trans h1) (h4.trans h2) R2 (T1.trans T2) v r⟩⟩
    | false =>
      rw [if_neg Bool.false_ne_true] at hr
      refine ⟨false, rfl, iteF ⟨Z, S1, x, d0, rfl, R1, hi, hx.le T1.le, hr, fun S2 h3 h4 R2 T2 v r => hq S2 (h3.trans h1) (h4.trans h2) R2 (T1.trans T2) v r⟩⟩
end
end QB

/-! The pure layer, part 33: clauses without a name. -/
namespace QB
open PySem PySem.Spec PyProof.Rows L2
section
variable {X : Cx}
theorem chain_cons0 {x : Str} {c : Value} {suite : List Stmt} {b₀ : Stmt} {np pos' : Pos} {hds : List ExceptHandler} {w : Ends → WX} {ts : Addr → Value → Option Addr → TS}
    (hs : X.stack = X.env :: X.outer) (hf : X.env.frame = some X.env.locals) (hc : Names X x c)
    (hsu : ∀ (a : Addr) (oe : Obj) (cls : Value) (d : Option Addr) (pn : List (Addr × Obj)), Zc cls d oe → (∃ vs, oe.data = .fields vs) → PSs (X.suite a ((a, oe) :: pn)) (b₀ :: suite) (ts a cls d))
    (hr : ChainOk X hds w) : ChainOk X (.ExceptHandler (some (.Name x np)) none (b₀ :: suite) pos' :: hds) (fun D => wOnly X.K c ts (w D) D) := by
  rintro pins D a s σ H cls d h ok C hw
  obtain ⟨⟨B, sI, J, nb, up, fl, os⟩, na, ag⟩ := id C
  obtain ⟨b, hb, yes, no⟩ := hw
  have JJ : Inv X pins σ H { s with heap := h } := J.landed nb fl.1 up os ag
  obtain ⟨o1, v1, g1, z1, d1⟩ := fl.there
  have out : a ∉ frs (X.env :: X.outer) := fun m => by
    obtain ⟨_, o2, g2, k2⟩ := fl.2.2.1.mem m
    rw [g1] at g2; cases g2
    exact k2 _ d1
  have nL : a ≠ X.env.locals := fun z => out (List.mem_filterMap.mpr ⟨X.env, List.mem_cons_self, hf.trans (congrArg some z.symm)⟩)
  have nF : a ∉ X.fs := fun m => by
    obtain ⟨e, me, q⟩ := List.mem_filterMap.mp m
    exact out (List.mem_filterMap.mpr ⟨e, List.mem_cons_of_mem _ me, q⟩)
  have SS := JJ.suite g1 d1 na nL nF
  refine wpAny_handleBy_cons (codeAny_handlers_test ?_) (by intro q; cases q)
  have ty : PySem.W.Looks (model X.prog X.w) h (typeOf (.ref a)) cls := fun _ _ _ _ k q => wpAny_typeOf_ref (k _ _ g1) (z1.1.symm ▸ q)
  have ex := PySem.W.exm_one (M := model X.prog X.w) JJ.kIn ty hb
  have ask : ∀ {Q E : Value → Shared → Prop}, Q c { s with heap := h } → wpAny (model X.prog X.w) (X.A.mark (some (.ref a))) (eval (.Name x np) X.env) Q E { s with heap := h } := by
    intro Q E q
    obtain ⟨hg, hdb, hm | ⟨hm, hv, hn⟩⟩ := hc
    · exact ld_glob (X := X.suite a ((a, o1) :: (X.pn ++ pins))) SS hg hm q hdb
    · exact ld_blt (X := X.suite a ((a, o1) :: (X.pn ++ pins))) SS hg hm hv q hn hdb
  refine ask (ex.here ?_)
  cases b with
  | false => exact hr pins D a s σ H cls d h ok C (no rfl)
  | true =>
    refine codeAny_handlers_suite ?_
    refine HandSPX.lands_againZ fl fun h4 fl4 up4 => ?_
    have J4 : Inv X pins σ H { s with heap := h4 } := J.landed nb fl4.1 (up.trans up4) os ag
    obtain ⟨o4, v4, g4, z4, d4⟩ := fl4.there
    refine wpAny_mono ((hsu a o4 cls d (X.pn ++ pins) z4 ⟨_, d4⟩).run [] _ _ H _ (J4.suite g4 d4 na nL nF) (yes rfl a na)) (fun f s6 q6 => ?_) fun _ _ z => False.elim z
    cases f with
    | ret u => obtain ⟨v6, σ6, H6, I6, r6, q⟩ := q6; exact ⟨_, _, _, I6.unsuite ok, r6, q⟩
    | next => obtain ⟨σ6, H6, I6, q⟩ := q6; exact ⟨_, _, I6.unsuite ok, q⟩
    | brk => obtain ⟨σ6, H6, I6, q⟩ := q6; exact ⟨_, _, I6.unsuite ok, q⟩
    | cont => obtain ⟨σ6, H6, I6, q⟩ := q6; exact ⟨_, _, I6.unsuite ok, q⟩
end
def SR.noX (r : SR) : SR := match r with
  | .exc _ _ _ => .bad
  | r => r
/-- a clause without a name, ahead of what the others do -/
def catch0 (ct : Str → Option Bool) (su : SM) (r : Exn → SM) : Exn → SM := fun x e s => match ct x.cls with
  | some true => (su e s).noX
  | some false => r x e s
  | none => .bad
theorem WpS.noX {K : PySem.W.Frag} {mg : Str → Option Value} {Z : Addr → Prop} {S : S8} {W : WX} {r : SR} {D : Ends} (h : WpS K mg W Z S r.noX D) : WpS K mg W0 Z S r D := by
  cases r with
  | exc x e s => exact h.elim
  | _ => exact h
theorem ch_cons0 {X : Cx} {Wout : WX} {x : Str} {C0 : Value} {suite : List Stmt} {b₀ : Stmt} {np pos' : Pos} {hds : List ExceptHandler} {cs : Exn → SM} {ct : Str → Option Bool} {ms : SM}
    (hs : X.stack = X.env :: X.outer) (hf : X.env.frame = some X.env.locals) (hc : Names X x C0)
    (hct : ∀ cn C b, X.mg cn = some (.ref C) → ct cn = some b → PySem.W.exmOne X.K (.ref C) C0 = some b)
    (hsu : ∀ (a : Addr) (oe : Obj) (pn : List (Addr × Obj)), PSsv (X.suite a ((a, oe) :: pn)) W0 (b₀ :: suite) ms)
    (hr : PCh X Wout hds cs) : PCh X Wout (.ExceptHandler (some (.Name x np)) none (b₀ :: suite) pos' :: hds) (catch0 ct ms cs) := by
  obtain ⟨w, hk, hw⟩ := hr
  refine ⟨_, chain_cons0 (ts := fun _ _ _ => tS X.K X.mg W0 ms) hs hf hc (fun a oe _ _ pn _ _ => hsu a oe pn) hk, fun D Z S σ y C dd R hx h => ?_⟩
  unfold catch0 at h
  cases hy : ct y.cls with
  | none => simp only [hy] at h; exact h.elim
  | some b =>
    refine ⟨b, hct _ _ _ hx.1 hy, fun hb a ha => ?_, fun hb => ?_⟩
    · subst hb
      simp only [hy] at h
      exact ⟨Z, S, rfl, R, h.noX⟩
    · subst hb
      simp only [hy] at h
      exact hw D Z S σ y C dd R hx h
end QB

/-! The pure layer, part 34: instances of own classes: fields, making. -/
namespace QB
open PySem PySem.Spec PyProof.Rows L2

section
variable {w : Wd}
theorem RpO.of_cons {k : Str} {d : D} {ds : List (Str × D)} {vs : List (Str × V)} (h : RpO w ((k, d) :: ds) vs) : ∃ x xs, vs = (k, x) :: xs ∧ Rp w d x ∧ RpO w ds xs := by
  unfold RpO at h; exact h
theorem RpO.of_nil {vs : List (Str × V)} (h : RpO w [] vs) : vs = [] := by unfold RpO at h; exact h
theorem RpO.cons {k : Str} {d : D} {ds : List (Str × D)} {v : V} {vs : List (Str × V)} (h : Rp w d v) (h2 : RpO w ds vs) : RpO w ((k, d) :: ds) ((k, v) :: vs) := by
  unfold RpO; exact ⟨v, vs, rfl, h, h2⟩
theorem RpO.nil : RpO w [] [] := by unfold RpO; rfl
theorem RpO.length : ∀ {ds : List (Str × D)} {vs : List (Str × V)}, RpO w ds vs → vs.length = ds.length
  | [], _, h => by rw [h.of_nil]; rfl
  | (k, d) :: ds, _, h => by
    obtain ⟨x, xs, rfl, _, h2⟩ := h.of_cons
    simp [RpO.length h2]
theorem RpO.look {f : Str} : ∀ {ds : List (Str × D)} {vs : List (Str × V)} {d : D}, RpO w ds vs → ds.lookup f = some d → ∃ v, vs.lookup f = some v ∧ Rp w d v
  | [], _, d, _, e => by cases e
  | (k, d) :: ds, _, d', h, e => by
    obtain ⟨x, xs, rfl, h1, h2⟩ := h.of_cons
    have e : (match f == k with | true => some d | false => ds.lookup f) = some d' := e
    show ∃ v, (match f == k with | true => some x | false => xs.lookup f) = some v ∧ Rp w d' v
    cases q : f == k with
    | true => rw [q] at e; cases e; exact ⟨x, rfl, h1⟩
    | false => rw [q] at e; exact RpO.look h2 e
def putFD (f : Str) (v : D) : List (Str × D) → List (Str × D)
  | [] => [(f, v)]
  | (g, x) :: r => if g = f then (g, v) :: r else (g, x) :: putFD f v r
theorem RpO.put {f : Str} {d : D} {v : V} (r : Rp w d v) : ∀ {ds : List (Str × D)} {vs : List (Str × V)}, RpO w ds vs → RpO w (putFD f d ds) (putF f v vs)
  | [], _, h => by rw [h.of_nil]; exact .cons r .nil
  | (k, d') :: ds, _, h => by
    obtain ⟨x, xs, rfl, h1, h2⟩ := h.of_cons
    show RpO w (if k = f then (k, d) :: ds else (k, d') :: putFD f d ds) (if k = f then (k, v) :: xs else (k, x) :: putF f v xs)
    by_cases e : k = f
    · rw [if_pos e, if_pos e]; exact .cons r h2
    · rw [if_neg e, if_neg e]; exact .cons h1 (RpO.put r h2)
end
/-! ### e.f -/
def attrD (ok : Str → Bool) (f : Str) : D → Option D
  | .obj cn fs => if ok cn = true then fs.lookup f else none
  | _ => none
section
variable {X : Cx} {W : WX} {a e : Expr} {pos px pos' : Pos} {f : Str} {ma : M Bv}
theorem ev_attr {ok : Str → Bool} (hk : ∀ cn, ok cn = true → Cls X.K (He.ga X.K cn) ∧ NoAttr X.K (He.ga X.K cn) f) (ha : PBv X W a ma) (hb : attributeBase a f X.env (eval a X.env) = eval a X.env := by rfl) :
    PEv X W (.Attribute a f pos) (op1M (attrD ok f) ma) := by
  refine PE.weak (pe_fld ha hb) fun σ H Q q => ?_
  obtain ⟨Z, S, rfl, R, hw⟩ := q
  refine ⟨Z, S, rfl, R, Wp.bnd hw fun x S1 R1 T1 h1 u r1 => ?_⟩
  obtain ⟨d, t1, h2⟩ := R1.rd_ok (S0 := S) r1 h1
  obtain ⟨z, hz, h3⟩ := h2.opt
  cases d with
  | obj cn fs =>
    have hz' : (if ok cn = true then fs.lookup f else none) = some z := hz
    split at hz'
    · rename_i hok
      obtain ⟨a, dx, es, rfl, e, ro⟩ := t1
      obtain ⟨v, hv, rv⟩ := ro.look hz'
      obtain ⟨c, n⟩ := hk cn hok
      exact ⟨a, _, dx, es, v, rfl, e, c, n, hv, (Wp.fin R1 h3).now rv⟩
    · cases hz'
  | _ => cases hz
end
/-! ### an own slot is set -/
section
variable {K : PySem.W.Frag} {Z : Addr → Prop} {σ : L2.St} {S : S8}
abbrev S8.putOwn (S : S8) (i : Nat) (c : Cell) (o : HO) : S8 := ⟨S.env.set i (.own c), S.st, S.ad, upd S.H (S.ad (.inl i)) o⟩
theorem cont_own {i : Nat} {c : Cell} (h : S.env[i]? = some (.own c)) : S.cont (.inl i) = some c := by
  show (match S.env[i]? with | some (.own c) => some c | _ => none) = some c
  rw [h]
theorem cont_putOwn {i : Nat} {c0 c : Cell} {o : HO} (h0 : S.env[i]? = some (.own c0)) : ∀ {p : Pl} {d : Cell}, (S.putOwn i c o).cont p = some d → (p = .inl i ∧ d = c) ∨ (p ≠ .inl i ∧ S.cont p = some d)
  | .inr j, d, h => .inr ⟨(fun z => by cases z), h⟩
  | .inl j, d, h => by
    have h' : (match (S.env.set i (.own c))[j]? with | some (.own c) => some c | _ => none) = some d := h
    have l : i < S.env.length := (List.getElem?_eq_some_iff.mp h0).1
    by_cases e : i = j
    · subst e
      rw [List.getElem?_set_self l] at h'
      exact .inl ⟨rfl, (by cases h'; rfl)⟩
    · rw [List.getElem?_set_ne e] at h'
      exact .inr ⟨(fun z => by cases z; exact e rfl), h'⟩
theorem Rel.nofrzO (R : Rel K Z σ S) {i : Nat} {c0 : Cell} (h0 : S.env[i]? = some (.own c0)) (hc : c0.open = true) : ∀ ob u, S.H (S.ad (.inl i)) ≠ some (.frz ob u) := by
  intro ob u z
  have q := R.cell (.inl i) c0 (cont_own h0)
  cases c0 with
  | lst ds => obtain ⟨xs, e, _⟩ := q; have e' : S.H (S.ad (.inl i)) = some (.lst xs) := e; rw [e'] at z; cases z
  | dct ds => obtain ⟨xs, e, _⟩ := q; have e' : S.H (S.ad (.inl i)) = some (.dK xs) := e; rw [e'] at z; cases z
  | obj cn fs => obtain ⟨dx, xs, e, _⟩ := q; have e' : S.H (S.ad (.inl i)) = some (.ins _ dx xs) := e; rw [e'] at z; cases z
  | fdc kvs => cases hc
theorem le_putOwn {i : Nat} {c0 c : Cell} {o : HO} (h0 : S.env[i]? = some (.own c0)) (nf : ∀ ob u, S.H (S.ad (.inl i)) ≠ some (.frz ob u)) : (S.wd K Z).Le ((S.putOwn i c o).wd K Z) := by
  refine ⟨rfl, fun a u e m => ⟨?_, ?_⟩, Nat.le_refl _, fun _ _ => rfl, fun a ob u e => by
      have n : a ≠ S.ad (.inl i) := fun z => nf ob u (by rw [← z]; exact e)
      show upd S.H (S.ad (.inl i)) o a = some _
      rw [upd_ne n]; exact e⟩
  · have n : a ≠ S.ad (.inl i) := fun z => m (.inr ⟨.inl i, c0, cont_own h0, z.symm⟩)
    show upd S.H (S.ad (.inl i)) o a = some u
    rw [upd_ne n]; exact e
  · rintro (z | ⟨q, d, hq, eq⟩)
    · exact m (.inl z)
    · rcases cont_putOwn h0 hq with ⟨rfl, _⟩ | ⟨_, h2⟩
      · exact m (.inr ⟨.inl i, c0, cont_own h0, eq⟩)
      · exact m (.inr ⟨q, d, h2, eq⟩)
theorem Tr.putOwn {i : Nat} {c0 c : Cell} {o : HO} (h0 : S.env[i]? = some (.own c0)) (nf : ∀ ob u, S.H (S.ad (.inl i)) ≠ some (.frz ob u)) : Tr S (S.putOwn i c o) where
  dom := fun a h => by
    by_cases e : a = S.ad (.inl i)
    · subst e; show upd S.H _ o _ ≠ none; rw [upd_same]; intro z; cases z
    · show upd S.H _ o a ≠ none; rw [upd_ne e]; exact h
  keep := fun a u h n => by
    have e : a ≠ S.ad (.inl i) := fun z => n (.inl i) c0 (cont_own h0) z.symm
    show upd S.H _ o a = some u
    rw [upd_ne e]; exact h
  fresh := fun p d h => by
    rcases cont_putOwn h0 h with ⟨rfl, _⟩ | ⟨_, h2⟩
    · exact .inl ⟨.inl i, c0, cont_own h0, rfl⟩
    · exact .inl ⟨p, d, h2, rfl⟩
  n := Nat.le_refl _
  c := fun _ _ => rfl
  frz := fun a ob u e => by
    have n : a ≠ S.ad (.inl i) := fun z => nf ob u (by rw [← z]; exact e)
    show upd S.H (S.ad (.inl i)) o a = some _
    rw [upd_ne n]; exact e
  o := fun j d h => by
    rcases cont_putOwn h0 h with ⟨e, _⟩ | ⟨_, h2⟩
    · cases e; exact ⟨⟨c0, cont_own h0⟩, rfl⟩
    · exact ⟨⟨d, h2⟩, rfl⟩
theorem Rel.putOwn (R : Rel K Z σ S) {i : Nat} {c0 c : Cell} {o : HO} (h0 : S.env[i]? = some (.own c0)) (nf : ∀ ob u, S.H (S.ad (.inl i)) ≠ some (.frz ob u)) (hc : ∀ w' : Wd, (S.wd K Z).Le w' → w'.H (S.ad (.inl i)) = some o → CellAt w' c (S.ad (.inl i))) : Rel K Z σ (S.putOwn i c o) where
  len := by simp [R.len]
  val := fun j d h => by
    have h' : (S.env.set i (.own c))[j]? = some (.val d) := h
    have l : i < S.env.length := (List.getElem?_eq_some_iff.mp h0).1
    by_cases e : i = j
    · subst e; rw [List.getElem?_set_self l] at h'; cases h'
    · rw [List.getElem?_set_ne e] at h'
      obtain ⟨v, e, r⟩ := R.val j d h'
      exact ⟨v, e, (le_putOwn h0 nf).rp d v r⟩
  own := fun j d h => by
    have h' : (S.env.set i (.own c))[j]? = some (.own d) := h
    by_cases e : i = j
    · subst e; exact R.own i c0 h0
    · rw [List.getElem?_set_ne e] at h'; exact R.own j d h'
  cell := fun p d h => by
    rcases cont_putOwn h0 h with ⟨rfl, rfl⟩ | ⟨hn, h2⟩
    · exact hc _ (le_putOwn h0 nf) upd_same
    · refine (le_putOwn h0 nf).cell ?_ (R.cell p d h2)
      have : S.ad p ≠ S.ad (.inl i) := fun e => hn (R.inj p (.inl i) d c0 h2 (cont_own h0) e)
      show upd S.H _ o (S.ad p) = S.H (S.ad p)
      exact upd_ne this
  inj := fun p q c1 c2 hp hq e => by
    rcases cont_putOwn h0 hp with ⟨rfl, _⟩ | ⟨_, h1⟩ <;> rcases cont_putOwn h0 hq with ⟨rfl, _⟩ | ⟨_, h2⟩
    · rfl
    · exact R.inj _ _ _ _ (cont_own h0) h2 e
    · exact R.inj _ _ _ _ h1 (cont_own h0) e
    · exact R.inj _ _ _ _ h1 h2 e
  zf := fun p d h => by
    rcases cont_putOwn h0 h with ⟨rfl, _⟩ | ⟨_, h2⟩
    · exact R.zf _ _ (cont_own h0)
    · exact R.zf p d h2
  zt := fun a z => (Tr.putOwn h0 nf).dom a (R.zt a z)
end
/-- self.f = e, self in the own slot i -/
def setF (ok : Str → Bool) (i : Nat) (f : Str) (m : M D) : SM := fun e s => (m e s).toS fun d => fun e s => match e[i]? with
  | some (.own (.obj cn fs)) => if (ok cn && Nat.ble fs.length 900) = true then .nx (e.set i (.own (.obj cn (putFD f d fs)))) s else .bad
  | _ => .bad
section
variable {X : Cx} {W : WX} {value : Expr} {pos px pos' : Pos} {f x : Str} {m : M D}
theorem st_setF {ok : Str → Bool} (i : Nat) (hk : ∀ cn, ok cn = true → Cls X.K (He.ga X.K cn) ∧ NoAttr X.K (He.ga X.K cn) f) (hv : PEv X W value m) (hx : PE X (.Name x px) (tVar i) := by exact pv _)
    (hs : swapsWith value (some (.Attribute (.Name x px) f pos')) pos.line X.env = pure false := by rfl) : PSv X W (.Assign [.Attribute (.Name x px) f pos'] value pos) (setF ok i f m) := by
  refine PS.weak (ps_fld hx hv hs) fun D σ H q => ?_
  obtain ⟨Z, S, rfl, R, hw⟩ := q
  refine ⟨Z, S, rfl, R, WpS.bnd hw fun d S1 R1 T1 h1 v rv => ?_⟩
  have h1' : WpS X.K X.mg W Z S1 (match S1.env[i]? with
    | some (.own (.obj cn fs)) => if (ok cn && Nat.ble fs.length 900) = true then .nx (S1.env.set i (.own (.obj cn (putFD f d fs)))) S1.st else .bad
    | _ => .bad) D := h1
  split at h1'
  · rename_i cn fs e0
    split at h1'
    · rename_i hb
      simp only [Bool.and_eq_true] at hb
      obtain ⟨dx, es, e2, ro⟩ := R1.cell (.inl i) _ (cont_own e0)
      have e2' : S1.H (S1.ad (.inl i)) = some (.ins (He.ga X.K cn) dx es) := e2
      obtain ⟨c, n⟩ := hk cn hb.1
      refine ⟨_, R1.own i _ e0, S1.ad (.inl i), _, dx, es, rfl, e2', c, n, ?_, ?_⟩
      · rw [ro.length]; have := Nat.le_of_ble_eq_true hb.2; omega
      · have nf := R1.nofrzO e0 rfl
        exact h1' σ (S1.putOwn i (.obj cn (putFD f d fs)) (.ins (He.ga X.K cn) dx (putF f v es))) rfl rfl (R1.putOwn e0 nf fun w' le e => ⟨dx, _, by rw [le.K]; exact e, (le.rpO _ _ ro).put (le.rp _ _ rv)⟩) (Tr.putOwn e0 nf)
    · exact h1'.elim
  · exact h1'.elim
end
end QB

/-! The pure layer, part 35: __init__, C(..). -/
namespace QB
open PySem PySem.Spec PyProof.Rows L2

def adSelf (S : S8) (a : Addr) : Pl → Addr
  | .inl _ => a
  | .inr k => S.ad (.inr k)
abbrev S8.selfed (S : S8) (a : Addr) (e : PEnv) : S8 := ⟨e, S.st, adSelf S a, S.H⟩
def startI (n : Nat) (cn : Str) (ds : List D) : PEnv := .own (.obj cn []) :: startE (n - 1) ds
inductive IR where
  | ok (fs : List (Str × D)) (s : Store) | exc (x : Exn) (s : Store) | bad
def selfOf (cn : Str) (e : PEnv) : Option (List (Str × D)) := match e[0]? with
  | some (Slot.own (Cell.obj c fs)) => if c = cn then some fs else none
  | _ => none
def SR.ir (cn : Str) : SR → IR
  | .nx e s => match selfOf cn e with
    | some fs => .ok fs s
    | none => .bad
  | .ret .non e s => match selfOf cn e with
    | some fs => .ok fs s
    | none => .bad
  | .exc x e s => match selfOf cn e with
    | some _ => .exc x s
    | none => .bad
  | _ => .bad
abbrev FnI := List D → Store → IR
/-- an __init__ with n names, np parameters behind self -/
def runI (n np : Nat) (cn : Str) (m : SM) : FnI := fun ds s => if ds.length = np then (m (startI n cn ds) s).ir cn else .bad
theorem runI_len {n np : Nat} {cn : Str} {m : SM} : ∀ ds s, runI n np cn m ds s ≠ .bad → ds.length = np := fun ds s h => by
  unfold runI at h
  by_cases e : ds.length = np
  · exact e
  · rw [if_neg e] at h; exact absurd rfl h
theorem selfOf_some {cn : Str} {e : PEnv} {fs : List (Str × D)} (h : selfOf cn e = some fs) : e[0]? = some (.own (.obj cn fs)) := by
  unfold selfOf at h
  split at h
  · rename_i c fs' e0
    split at h
    · rename_i q; cases h; rw [e0, q]
    · cases h
  · cases h
section
variable {K : PySem.W.Frag} {mg : Str → Option Value} {Z : Addr → Prop} {σ : L2.St} {S : S8}
def WpI (K : PySem.W.Frag) (mg : Str → Option Value) (Z : Addr → Prop) (S : S8) (a : Addr) (cn : Str) (r : IR) (Q : VK) (E : XK) : Prop := match r with
  | .ok fs s => ∀ S' : S8, S'.env = [] → S'.st = s → Rel K (addZ Z a) [] S' → Tr (S.selfed a [.own (.obj cn [])]) S' → ∀ dx es, S'.H a = some (.ins (He.ga K cn) dx es) → RpO (S'.wd K (addZ Z a)) fs es → Q .non S'.H
  | .exc x s => ∀ S' : S8, S'.env = [] → S'.st = s → Rel K (addZ Z a) [] S' → Tr (S.selfed a [.own (.obj cn [])]) S' → ∀ C dd, ExAt mg (S'.wd K (addZ Z a)) x C dd → E (.ref C) (some dd) S'.H
  | .bad => False
def spI (K : PySem.W.Frag) (mg : Str → Option Value) (np : Nat) (cn : Str) (g : FnI) : Sp := fun vs H Q E => ∃ Z S ds a dx ws, S.env = [] ∧ S.H = H ∧ vs = V.ref a :: ws ∧ S.H a = some (.ins (He.ga K cn) dx []) ∧ ¬ Z a ∧ Rel K (addZ Z a) [] S ∧ RpL (S.wd K (addZ Z a)) ds ws ∧ ds.length = np ∧
  WpI K mg Z S a cn (g ds S.st) Q E
theorem spI_len {np : Nat} {cn : Str} {g : FnI} {vs : List V} {H : Hp} {Q : VK} {E : XK} (h : spI K mg np cn g vs H Q E) : vs.length = np + 1 := by
  obtain ⟨Z, S, ds, a, dx, ws, _, _, rfl, _, _, _, r, l, _⟩ := h
  rw [List.length_cons, r.length, l]
theorem startI_own {n : Nat} {cn : Str} {ds : List D} {i : Nat} {c : Cell} (h : (startI n cn ds)[i]? = some (.own c)) : i = 0 ∧ c = .obj cn [] := by
  cases i with
  | zero => cases h; exact ⟨rfl, rfl⟩
  | succ i => exact absurd h (start_own i c)
theorem selfed_cont {a : Addr} {n : Nat} {cn : Str} {ds : List D} {p : Pl} {c : Cell} (h : (S.selfed a (startI n cn ds)).cont p = some c) : (p = .inl 0 ∧ c = .obj cn []) ∨ ∃ k, p = .inr k ∧ S.cont p = some c := by
  cases p with
  | inr k => exact .inr ⟨k, rfl, h⟩
  | inl i =>
    have h' : (match (startI n cn ds)[i]? with | some (.own c) => some c | _ => none) = some c := h
    split at h'
    · rename_i c' e
      cases h'
      obtain ⟨rfl, rfl⟩ := startI_own e
      exact .inl ⟨rfl, rfl⟩
    · cases h'
theorem le_selfed {a : Addr} {n : Nat} {cn : Str} {ds : List D} : (S.wd K (addZ Z a)).Le ((S.selfed a (startI n cn ds)).wd K Z) :=
  ⟨rfl, fun b o e m => ⟨e, by
    rintro (z | ⟨q, c, hq, eq⟩)
    · exact m (.inl (.inl z))
    · rcases selfed_cont hq with ⟨rfl, _⟩ | ⟨k, rfl, h2⟩
      · exact m (.inl (.inr eq.symm))
      · exact m (.inr ⟨_, c, h2, eq⟩)⟩, Nat.le_refl _, fun _ _ => rfl, fun _ _ _ h => h⟩
theorem Rel.entryI {N : List Str} {cn : Str} {ds : List D} {ws : List V} {a dx : Addr} (R : Rel K (addZ Z a) [] S) (he : S.env = []) (ha : S.H a = some (.ins (He.ga K cn) dx [])) (hz : ¬ Z a) (r : RpL (S.wd K (addZ Z a)) ds ws) (hl : ds.length + 1 ≤ N.length) :
    Rel K Z (start N (.ref a :: ws)) (S.selfed a (startI N.length cn ds)) := by
  have le := le_selfed (K := K) (Z := Z) (S := S) (a := a) (n := N.length) (cn := cn) (ds := ds)
  have hst : ∀ j, (start N (V.ref a :: ws))[j + 1]? = (start N.tail ws)[j]? := fun j => by
    unfold L2.start
    rw [List.map_cons, List.cons_append, List.getElem?_cons_succ]
    congr 3
    simp; omega
  refine ⟨?_, fun i d h => ?_, fun i c h => ?_, fun p c h => ?_, fun p q c d hp hq e => ?_, fun p c h => ?_, fun b z => R.zt b (.inl z)⟩
  · show (startI N.length cn ds).length = _
    unfold startI startE L2.start
    simp [r.length]; omega
  · have h' : (startI N.length cn ds)[i]? = some (.val d) := h
    cases i with
    | zero => cases h'
    | succ j =>
      rw [hst]
      have h2 : (startE (N.tail).length ds)[j]? = some (.val d) := by rw [List.length_tail]; exact h'
      obtain ⟨v, e1, r1⟩ := start_get (N := N.tail) r j d h2
      exact ⟨v, e1, le.rp _ _ r1⟩
  · obtain ⟨rfl, rfl⟩ := startI_own h
    rfl
  · rcases selfed_cont h with ⟨rfl, rfl⟩ | ⟨k, rfl, h2⟩
    · exact ⟨dx, [], ha, .nil⟩
    · exact le.cell rfl (R.cell _ c h2)
  · rcases selfed_cont hp with ⟨rfl, _⟩ | ⟨k, rfl, h1⟩ <;> rcases selfed_cont hq with ⟨rfl, _⟩ | ⟨j, rfl, h2⟩
    · rfl
    · exact absurd (Or.inr e.symm) (R.zf _ d h2)
    · exact absurd (Or.inr e) (R.zf _ c h1)
    · exact R.inj _ _ c d h1 h2 e
  · rcases selfed_cont h with ⟨rfl, _⟩ | ⟨k, rfl, h2⟩
    · exact hz
    · exact fun z => R.zf _ c h2 (.inl z)
/-- at the end of an __init__: self is foreign again -/
theorem Rel.exitI {n : Nat} {cn : Str} {ds : List D} {a : Addr} {fs : List (Str × D)} {S' : S8} {σ' : L2.St} (R' : Rel K Z σ' S') (T' : Tr (S.selfed a (startI n cn ds)) S') (h0 : S'.env[0]? = some (.own (.obj cn fs))) :
    Rel K (addZ Z a) [] S'.bare ∧ Tr (S.selfed a [.own (.obj cn [])]) S'.bare ∧ (S'.wd K Z).Le (S'.bare.wd K (addZ Z a)) ∧ ∃ dx es, S'.H a = some (.ins (He.ga K cn) dx es) ∧ RpO (S'.wd K Z) fs es := by
  have ea : S'.ad (.inl 0) = a := (T'.o 0 _ (cont_own h0)).2
  have le : (S'.wd K Z).Le (S'.bare.wd K (addZ Z a)) := ⟨rfl, fun b o e m => ⟨e, by
    rintro ((z | z) | ⟨q, c, hq, eq⟩)
    · exact m (.inl z)
    · exact m (.inr ⟨.inl 0, _, cont_own h0, ea.trans z.symm⟩)
    · obtain ⟨k, rfl, h2⟩ := bare_cont hq
      exact m (.inr ⟨_, c, h2, eq⟩)⟩, Nat.le_refl _, fun _ _ => rfl, fun _ _ _ h => h⟩
  obtain ⟨dx, es, e2, ro⟩ := R'.cell (.inl 0) _ (cont_own h0)
  have e2' : S'.H a = some (.ins (He.ga K cn) dx es) := by rw [← ea]; exact e2
  refine ⟨⟨rfl, fun i d h => by simp at h, fun i c h => by simp at h, fun p c h => ?_, fun p q c d hp hq e => ?_, fun p c h => ?_, fun b z => ?_⟩, ⟨T'.dom, fun b o hb hn => T'.keep b o hb fun p c hp e => ?_, fun p c h => ?_, T'.n, T'.c, T'.frz, fun i c h => by cases h⟩, le, dx, es, e2', ro⟩
  · obtain ⟨k, rfl, h2⟩ := bare_cont h
    exact le.cell rfl (R'.cell _ c h2)
  · obtain ⟨k, rfl, h1⟩ := bare_cont hp
    obtain ⟨j, rfl, h2⟩ := bare_cont hq
    exact R'.inj _ _ c d h1 h2 e
  · obtain ⟨k, rfl, h2⟩ := bare_cont h
    rintro (z | z)
    · exact R'.zf _ c h2 z
    · have := R'.inj (.inr k) (.inl 0) c _ h2 (cont_own h0) (by rw [ea]; exact z)
      cases this
  · rcases z with z | z
    · exact R'.zt b z
    · rw [z]; show S'.H a ≠ none; rw [e2']; intro q; cases q
  · rcases selfed_cont hp with ⟨rfl, rfl⟩ | ⟨k, rfl, h2⟩
    · exact hn (.inl 0) (.obj cn []) rfl e
    · exact hn (.inr k) c h2 e
  · obtain ⟨k, rfl, h2⟩ := bare_cont h
    rcases T'.fresh (.inr k) c h2 with ⟨q, d, hq, eq⟩ | hn
    · rcases selfed_cont hq with ⟨rfl, rfl⟩ | ⟨j, rfl, h3⟩
      · exact .inl ⟨.inl 0, .obj cn [], rfl, eq⟩
      · exact .inl ⟨.inr j, d, h3, eq⟩
    · exact .inr hn
theorem WpS.ofI {n : Nat} {cn : Str} {ds : List D} {a : Addr} {r : SR} {Q : VK} {E : XK} (h : WpI K mg Z S a cn (r.ir cn) Q E) :
    WpS K mg (fun cls d _ H' => E cls d H') Z (S.selfed a (startI n cn ds)) r { nx := fun _ H' => Q .non H', rt := Q } := by
  have key : ∀ {e : PEnv} {s : Store}, WpI K mg Z S a cn (match selfOf cn e with | some fs => .ok fs s | none => .bad) Q E →
      ∀ (σ' : L2.St) (S' : S8), S'.env = e → S'.st = s → Rel K Z σ' S' → Tr (S.selfed a (startI n cn ds)) S' → Q .non S'.H := by
    intro e s h σ' S' h1 h2 R' T'
    cases e0 : selfOf cn e with
    | none => rw [e0] at h; exact h.elim
    | some fs =>
      rw [e0] at h
      obtain ⟨R2, T2, le, dx, es, e2, ro⟩ := R'.exitI T' (by rw [h1]; exact selfOf_some e0)
      exact h S'.bare rfl h2 R2 T2 dx es e2 (le.rpO _ _ ro)
  cases r with
  | nx e s => exact fun σ' S' h1 h2 R' T' => key h σ' S' h1 h2 R' T'
  | ret d e s =>
    cases d with
    | non =>
      intro σ' S' h1 h2 R' T' v rv
      have rv' : Rp (S'.wd K Z) .non v := rv
      unfold Rp at rv'
      subst rv'
      exact key h σ' S' h1 h2 R' T'
    | _ => exact h.elim
  | exc x e s =>
    intro σ' S' h1 h2 R' T' C dd hx
    have h : WpI K mg Z S a cn (match selfOf cn e with | some _ => .exc x s | none => .bad) Q E := h
    cases e0 : selfOf cn e with
    | none => rw [e0] at h; exact h.elim
    | some fs =>
      rw [e0] at h
      obtain ⟨R2, T2, le, _⟩ := R'.exitI T' (by rw [h1]; exact selfOf_some e0)
      exact h S'.bare rfl h2 R2 T2 C dd (ExAt.le le hx)
  | bk _ _ => exact h.elim
  | ct _ _ => exact h.elim
  | bad => exact h.elim
end
section
variable {P : Program} {w : World} {K : PySem.W.Frag} {mg : Str → Option Value} {base : Heap} {x qual : Str} {params : Arguments} {body : List Stmt} {scope : Scope} {k : Nat} {f : Addr} {fd : FuncData} {ps : List Str}
/-- an __init__ keeps its promise -/
theorem fn_init {N : List Str} {n np : Nat} {cn : Str} {m : SM} (F : FunD K x qual params body scope [] [] f fd) (S : FnScope N ps scope) (hn : N.length = n) (hp : ps.length = np + 1)
    (hbody : ∀ (cdv : Value) (A : Around) (outer : List Env) (s : Shared) (H : Hp) (E : XK), Room k (A.deeper (envOfC qual scope s.heap.objs.size f cdv)) →
      let X := cxOf (L2.CX P w) P w K mg base N qual scope f cdv A outer s H E
      L2.Takes X (fun cls d _ H' => E cls d H') → PassesOwn (model X.prog X.w) X.A X.env X.xe → PSsv X (fun cls d _ H' => E cls d H') body m) : FnOk P w K mg base (L2.CX P w) (k + 1) f fd ps (spI K mg np cn (runI n np cn m)) := by
  refine F.ok S (fun vs H Q E h => (spI_len h).trans hp.symm) fun cdv A outer s H vs Q E hr h => ?_
  obtain ⟨Z, S1, ds, a, dx, ws, h1, rfl, rfl, ha, hz, R, r, hl, hw⟩ := h
  refine ⟨_, hbody cdv A outer s S1.H E hr (L2.takes_of rfl rfl rfl rfl) (L2.passes_of rfl), ?_⟩
  have hle : ds.length + 1 ≤ N.length := by
    have := congrArg List.length S.pre
    rw [List.length_take] at this
    omega
  have R1 := R.entryI (N := N) h1 ha hz r hle
  refine ⟨Z, S1.selfed a (startI N.length cn ds), rfl, R1, ?_⟩
  have hw' : WpI K mg Z S1 a cn ((m (startI N.length cn ds) S1.st).ir cn) Q E := by
    have e : runI n np cn m ds S1.st = (m (startI N.length cn ds) S1.st).ir cn := by
      unfold runI; rw [if_pos hl, hn]
    rw [← e]; exact hw
  exact WpS.ofI hw'
end
/-! ### C(..) -/
section
variable {K : PySem.W.Frag} {mg : Str → Option Value} {Z : Addr → Prop} {σ : L2.St} {S : S8}
theorem ownZ_addZ {x : Addr} : ownZ (addZ Z x) S = addZ (ownZ Z S) x := by
  funext a
  apply propext
  constructor
  · rintro ((z | z) | z)
    · exact .inl (.inl z)
    · exact .inr z
    · exact .inl (.inr z)
  · rintro ((z | z) | z)
    · exact .inl (.inl z)
    · exact .inr z
    · exact .inl (.inr z)
theorem Tr.made {x : Addr} {cn : Str} {H2 : Hp} {S3 : S8} (hx : S.H x = none) (ext : ∀ a o, S.H a = some o → H2 a = some o) (T : Tr ⟨[.own (.obj cn [])], S.st, adSelf S x, H2⟩ S3) (he : S3.env = []) (hz : ∀ p c, S3.cont p = some c → S3.ad p ≠ x) : Tr S.bare S3 where
  dom := fun a h => T.dom a (by
    cases e : S.H a with
    | none => exact absurd e h
    | some o => show H2 a ≠ none; rw [ext a o e]; intro z; cases z)
  keep := fun a o h hn => T.keep a o (ext a o h) fun p c hp e => by
    cases p with
    | inr k => exact hn (.inr k) c hp e
    | inl i =>
      have e' : x = a := e
      rw [← e'] at h
      have h' : S.H x = some o := h
      rw [hx] at h'; cases h'
  fresh := fun p c h => by
    rcases T.fresh p c h with ⟨q, d, hq, eq⟩ | hn
    · cases q with
      | inr k => exact .inl ⟨.inr k, d, hq, eq⟩
      | inl i =>
        have eq' : x = S3.ad p := eq
        exact absurd eq'.symm (hz p c h)
    · refine .inr ?_
      cases e : S.H (S3.ad p) with
      | none => rfl
      | some o => have h2 : H2 (S3.ad p) = none := hn; rw [ext _ o e] at h2; cases h2
  n := T.n
  c := T.c
  frz := fun a o u h => T.frz a o u (ext a _ h)
  o := fun i c h => by
    have h' : (match S3.env[i]? with | some (.own c) => some c | _ => none) = some c := h
    rw [he] at h'; cases h'
end
/-- a new instance: n values, m keywords -/
def makeK (cn : Str) (g : FnI) (n m : Nat) (ix : List Nat) (ms mk : M (List D)) : M D := bnd ms fun ds => bnd mk fun es => chk (decide (ds.length = n ∧ es.length = m)) fun e s => match g (permL ix (ds ++ es)) s with
  | .ok fs s' => .ok (.obj cn fs) e s'
  | .exc x s' => .exc x e s'
  | .bad => .bad
section
variable {X : Cx} {W : WX} {x cn : Str} {p pos : Pos} {e : Expr} {es : List Expr} {kws : List Keyword} {k n np : Nat} {f : Addr} {fd : FuncData} {ps ks : List Str} {ix ix' : List Nat} {g : FnI} {ms mk : M (List D)}
theorem make_go {σ : L2.St} {H : Hp} {Q : VK} {m : Nat} (hn : ∀ ds s, g ds s ≠ .bad → ds.length = np) (q : tG X.K X.mg W (rE X.K) (makeK cn g n m ix ms mk) σ H Q) :
    tGA X.K X.mg W ms σ H fun vs H1 => tGA X.K X.mg W mk σ H1 fun zs H2 => vs.length = n ∧ zs.length = m ∧ ∀ a dx, H2 a = none → H2 dx = none → dx ≠ a →
      spI X.K X.mg np cn g (.ref a :: permL ix (vs ++ zs)) (upd (upd H2 dx (.own a)) a (.ins (He.ga X.K cn) dx [])) (fun v H3 => v = .non ∧ Q (.ref a) H3) (WE W σ) := by
  obtain ⟨Z, S, rfl, R, hw⟩ := q
  refine ⟨Z, S, rfl, R, Wp.bnd hw fun ds S1 R1 T1 h1 vs r1 => ?_⟩
  refine ⟨Z, S1, rfl, R1, Wp.bnd h1 fun es S2 R2 T2 h2 zs r2 => ?_⟩
  obtain ⟨hb, h3⟩ := h2.chk
  have hl := of_decide_eq_true hb
  refine ⟨r1.length.trans hl.1, r2.length.trans hl.2, fun a dx ha hdx hne => ?_⟩
  have hx1 : upd S2.H dx (.own a) a = none := by rw [upd_ne (fun z => hne z.symm)]; exact ha
  have Ra : Rel X.K Z σ (S2.up (upd S2.H dx (.own a))) := R2.up (ext_new hdx)
  have Rb : Rel X.K (addZ Z a) σ ((S2.up (upd S2.H dx (.own a))).up (upd (upd S2.H dx (.own a)) a (.ins (He.ga X.K cn) dx []))) := Ra.addNew hx1
  have Rc := Rb.bare
  rw [ownZ_addZ] at Rc
  have ext : ∀ b o, S2.H b = some o → upd (upd S2.H dx (.own a)) a (.ins (He.ga X.K cn) dx []) b = some o := fun b o hb => ext_new hx1 b o (ext_new hdx b o hb)
  have nown : ¬ ownZ Z S2 a := by
    rintro (z | ⟨i, c, h, e⟩)
    · exact R2.zt a z ha
    · have := (R2.cell _ c h).ne
      rw [e] at this
      exact this ha
  have rr : RpL (((S2.up (upd S2.H dx (.own a))).up (upd (upd S2.H dx (.own a)) a (.ins (He.ga X.K cn) dx []))).bare.wd X.K (addZ (ownZ Z S2) a)) (permL ix (ds ++ es)) (permL ix (vs ++ zs)) := by
    have q1 := permL_rp (ix := ix) ((T2.rpL r1).append r2)
    have q2 := (Tr.up (S := S2) (ext_new (o := .own a) hdx)).rpL q1
    have q3 := (le_new (o := .ins (He.ga X.K cn) dx []) Ra hx1).rpL _ _ q2
    have q4 := (le_bare (K := X.K) (Z := addZ Z a) (S := (S2.up (upd S2.H dx (.own a))).up (upd (upd S2.H dx (.own a)) a (.ins (He.ga X.K cn) dx [])))).rpL _ _ q3
    rw [ownZ_addZ] at q4
    exact q4
  refine ⟨ownZ Z S2, ((S2.up (upd S2.H dx (.own a))).up (upd (upd S2.H dx (.own a)) a (.ins (He.ga X.K cn) dx []))).bare, permL ix (ds ++ es), a, dx, _, rfl, rfl, rfl, upd_same, nown, Rc, rr, hn _ S2.st fun z => ?_, ?_⟩
  · rw [z] at h3; exact h3
  · show WpI X.K X.mg (ownZ Z S2) _ a cn (g (permL ix (ds ++ es)) S2.st) _ _
    cases e : g (permL ix (ds ++ es)) S2.st with
    | bad => rw [e] at h3; exact h3
    | ok fs s' =>
      rw [e] at h3
      intro S3 he hs R3 T3 dx' es' e3 ro
      have T4 : Tr S2.bare S3 := Tr.made (S := S2) ha ext T3 he fun p c hp z => R3.zf p c hp (.inr z)
      obtain ⟨R5, T5⟩ := R2.back R3.dropZ T4 he
      refine ⟨rfl, h3 (S2.back S3) rfl hs R5 T5 _ ?_⟩
      show Rp _ (.obj cn fs) (.ref a)
      unfold Rp
      refine ⟨a, es', rfl, ⟨fun z => R3.notMu_z nown ((mu_back he).mpr z), dx', e3⟩, ?_⟩
      exact (le_back he).rpO _ _ (le_freeze.rpO _ _ ro)
    | exc y s' =>
      rw [e] at h3
      intro S3 he hs R3 T3 C dd hx
      have T4 : Tr S2.bare S3 := Tr.made (S := S2) ha ext T3 he fun p c hp z => R3.zf p c hp (.inr z)
      obtain ⟨R5, T5⟩ := R2.back R3.dropZ T4 he
      exact h3 (S2.back S3) rfl hs R5 T5 C dd (ExAt.le (le_back he) (ExAt.le le_freeze hx))
theorem permL_self {α : Type} {x : α} {l : List α} : permL (0 :: ix.map (· + 1)) (x :: l) = x :: permL ix l := by
  unfold permL
  rw [List.filterMap_cons]
  show x :: (ix.map (· + 1)).filterMap _ = _
  rw [List.filterMap_map]
  rfl
theorem run_makeG {C : Addr} {sp : Sp} {pins : List (Addr × Obj)} {σ : L2.St} {H : Hp} {s : Shared} {Q : VK} {E : XK} {us ws : List Value} {vs zs : List V} (M : Mk X.K C f) (F : FnOk X.prog X.w X.K X.mg X.base (L2.CX X.prog X.w) k f fd ps sp) (hr : Room (k + 1) X.A) (hb : KwB X.K fd ps (n + 1) ks ix') (hix : ix' = 0 :: ix.map (· + 1))
    (hx : L2.PassesAt (L2.CX X.prog X.w) X σ E) (I : Inv X pins σ H s) (r : Vals vs us) (rz : Vals zs ws) (l1 : vs.length = n) (l2 : zs.length = ks.length)
    (h : ∀ a dx, H a = none → H dx = none → dx ≠ a → sp (.ref a :: permL ix (vs ++ zs)) (upd (upd H dx (.own a)) a (.ins C dx [])) (fun v H2 => v = .non ∧ Q (.ref a) H2) E) :
    wpAny (model X.prog X.w) X.A (call (.ref C) us (ks.zip ws)) (EP X pins σ Q) X.xe s := by
  have hq := h (s.heap.objs.size + 1) s.heap.objs.size (I.hok.fresh (Nat.le_succ _)) (I.hok.fresh (Nat.le_refl _)) (Nat.ne_of_lt (Nat.lt_succ_self _))
  have I2 := Inv.made (C := C) I
  have r1 : Vals (V.ref (s.heap.objs.size + 1) :: permL ix (vs ++ zs)) (Value.ref (s.heap.objs.size + 1) :: permL ix (us ++ ws)) := .cons rfl (permL_vals (r.append rz))
  have e1 : (Value.ref (s.heap.objs.size + 1) :: us).length = n + 1 := congrArg Nat.succ (r.length.symm.trans l1)
  have e2 : ws.length = ks.length := rz.length.symm.trans l2
  have hb2 := hb.to { s with heap := (s.heap.push PySem.W.emptyDict).push (PySem.W.instObj C s.heap.objs.size) } (Value.ref (s.heap.objs.size + 1) :: us) ws e1 e2
  rw [hix, List.cons_append, permL_self] at hb2
  refine wpAny_call (make_map (f := f) I.kIn M.makes M.init (beq_iff_eq.mp M.fn) (codeAny_mono (F.run _ X.stack _ _ ⟨Value.ref (s.heap.objs.size + 1) :: us, ks.zip ws⟩ (Value.ref (s.heap.objs.size + 1) :: permL ix (us ++ ws)) _ _ E (hr.make C us (ks.zip ws))
    (I2.env0.make C us (ks.zip ws)) hb2 r1 hq) fun r s' hq' => ?_))
  cases r with
  | error e => exact hx pins _ _ e s' I2 hq'
  | ok fl =>
    cases fl with
    | ret u =>
      obtain ⟨v, H', I3, rv, ev, q3⟩ := I2.after hq'
      subst ev
      exact ⟨rv, ⟨V.ref (s.heap.objs.size + 1), H', I3, rfl, q3⟩⟩
    | next => exact False.elim hq'
    | brk => exact False.elim hq'
    | cont => exact False.elim hq'
/-- C(e, ..) -/
theorem ev_make (M : Mk X.K (He.ga X.K cn) f) (F : FnOk X.prog X.w X.K X.mg X.base (L2.CX X.prog X.w) k f fd ps (spI X.K X.mg np cn g)) (hn : ∀ ds s, g ds s ≠ .bad → ds.length = np) (hr : Room (k + 1) X.A) (hm : X.mg x = some (.ref (He.ga X.K cn))) (hb : KwB X.K fd ps (n + 1) [] ix') (hix : ix' = 0 :: ix.map (· + 1)) (tk : L2.Takes X W) (ha : PAv X W (e :: es) ms)
    (hg : Gl X x := by rfl) (hdb : (x == ("__debug__" : Str)) = false := by decide) (he : starEach (e :: es) X.env = (false, eval e X.env) :: starEach es X.env := by rfl) (hpl : (backTo pos (starEach es X.env)).any (·.1) = false := by rfl) :
    PEv X W (.Call (.Name x p) (e :: es) [] pos) (makeK cn g n 0 ix ms (rt [])) := by
  refine ⟨fun pins s σ H Q I h => ?_⟩
  have h := make_go hn h
  refine wpAny_Call_Name_kw (ld_glob I hg hm ?_ hdb)
  refine PySem.W.callWith_K (h₀ := X.base) I.ok.mod.kin M.kp (thn (ha.run pos pins s σ H _ I h) fun us s1 ⟨vs, H1, I1, r, q⟩ => ⟨I1.kIn, ?_⟩) he hpl
  obtain ⟨Z, S, rfl, R, hw⟩ := q
  have h2 := hw.here R [] RpL.nil
  exact run_makeG (ks := []) (ws := []) (zs := []) M F hr hb hix (L2.passAt tk σ) I1 r .nil h2.1 h2.2.1 h2.2.2
/-- C(k = v, ..) -/
theorem ev_makeK0 (M : Mk X.K (He.ga X.K cn) f) (F : FnOk X.prog X.w X.K X.mg X.base (L2.CX X.prog X.w) k f fd ps (spI X.K X.mg np cn g)) (hn : ∀ ds s, g ds s ≠ .bad → ds.length = np) (hr : Room (k + 1) X.A) (hm : X.mg x = some (.ref (He.ga X.K cn))) (hb : KwB X.K fd ps 1 ks ix') (hix : ix' = 0 :: ix.map (· + 1)) (tk : L2.Takes X W) (hkw : PKv X W kws mk)
    (hg : Gl X x := by rfl) (hdb : (x == ("__debug__" : Str)) = false := by decide) (hall : (backToKw pos (keywordEach kws X.env)).all (·.1.isSome) = true := by rfl) (hks : (backToKw pos (keywordEach kws X.env)).filterMap (·.1) = ks := by rfl)
    (hpl : ((backTo pos (starEach [] X.env)).any (·.1) || (backToKw pos (keywordEach kws X.env)).any (·.1.isNone)) = false := by rfl) : PEv X W (.Call (.Name x p) [] kws pos) (makeK cn g 0 ks.length ix (rt []) mk) := by
  refine ⟨fun pins s σ H Q I h => ?_⟩
  have h := make_go hn h
  obtain ⟨Z, S, rfl, R, h⟩ := h
  have h2 := h.here R [] RpL.nil
  refine wpAny_Call_Name_kw (ld_glob I hg hm ?_ hdb)
  refine PySem.W.callWith_KW0 (h₀ := X.base) I.ok.mod.kin M.kp hall (thn (hkw.run pos pins s σ _ _ I h2) fun ws s2 ⟨zs, H2, I2, rz, l1, l2, q2⟩ => ⟨I2.kIn, ?_⟩) hpl
  rw [hks]
  exact run_makeG (us := []) (vs := []) M F hr hb hix (L2.passAt tk σ) I2 .nil rz l1 l2 q2
end
end QB

/-! The pure layer, part 36: enumerate(tuple). -/
namespace QB
open PySem PySem.Spec PyProof.Rows L2

theorem meets_enumerate_new1 {v : Value} {o : Obj} {H : Heap → Prop} (B : Begins v o H) :
    Meets (Builtin.«enumerate.__new__» ⟨[.type "enumerate", v], []⟩) (fun _ R s => H s.heap ∧
      R (.ok (.ret (.ref (s.heap.push o).objs.size))) { s with heap := (s.heap.push o).push { cls := .type "enumerate", data := .fields #[.none, .bool false, .ref s.heap.objs.size, rawInt 0, .none, .none] } }) :=
  .of_wp fun prog w A R s h => by
    obtain ⟨hp, g, d, tk, os⟩ := s; obtain ⟨h1, h⟩ := h
    have hsub := sub_enumerate
    have q1 : ∀ {A' : Around} {E : Value → Shared → Prop} {Q : Value → Shared → Prop}, Q (.ref hp.objs.size) ⟨hp.push o, g, d, tk, os⟩ → wpAny (model prog w) A' (pyIter v) Q E ⟨hp, g, d, tk, os⟩ :=
      fun q => B.iter prog w _ _ ⟨hp, g, d, tk, os⟩ _ h1 q
    wp_walk using q1
    refine wpAny_stack_any fun st => wpAny_pure ?_
    split
    · rename_i c _ _ _ _ _
      cases (c == Value.type "enumerate")
      · wp_walk using q1
        exact ⟨_, rfl, h⟩
      · wp_walk using q1
        exact ⟨_, rfl, h⟩
    · wp_walk using q1
      exact ⟨_, rfl, h⟩
section
variable {prog : Program} {w : World} {A : Around} {E : Value → Shared → Prop} {s : Shared}
theorem enum_begins1 {v : Value} {o : Obj} {H : Heap → Prop} {Q : Value → Shared → Prop} (B : Begins v o H) (h1 : H s.heap)
    (h : ∀ h', IsEnum h' (s.heap.objs.size + 1) s.heap.objs.size 0 .none → h'.get? s.heap.objs.size = some o → h'.objs.size = s.heap.objs.size + 2 →
      (∀ b o, s.heap.get? b = some o → h'.get? b = some o) → Q (.ref (s.heap.objs.size + 1)) { s with heap := h' }) :
    wpAny (model prog w) A (call (.type "enumerate") [v]) Q E s := by
  refine callType_new F.called_enumerate (by decide) (F.typeCall_enumerate_1 _) (F.newCall_enumerate_1 _) (fun obj => F.args_object_init_2 obj _) F.entry_enumerate_new
    (meets_enumerate_new1 B) ⟨h1, ?_⟩
  have hz : (s.heap.push o).objs.size = s.heap.objs.size + 1 := Heap.size_push ..
  show _ ∧ _
  rw [hz]
  have he : IsEnum ((s.heap.push o).push { cls := .type "enumerate", data := .fields #[.none, .bool false, .ref s.heap.objs.size, rawInt 0, .none, .none] }) (s.heap.objs.size + 1) s.heap.objs.size 0 .none := by
    have := Heap.get?_push_size (s.heap.push o) (o := { cls := .type "enumerate", data := .fields #[.none, .bool false, .ref s.heap.objs.size, rawInt 0, .none, .none] }) rfl
    rw [hz] at this; exact this
  refine ⟨⟨_, he, rfl⟩, h _ he (Heap.get?_push_of_some _ (Heap.get?_push_size _ B.free)) (by rw [Heap.size_push, hz]) fun b o x => Heap.get?_push_of_some _ (Heap.get?_push_of_some _ x)⟩
end
theorem pyNext_enumT_end {prog : Program} {w : World} {A : Around} {E : Value → Shared → Prop} {s : Shared} {e it a : Addr} {items : Array Value} {i : Nat} {c : Int} {old : Value} {Q : Option Value → Shared → Prop}
    (hh : A.handled = none) (he : IsEnum s.heap e it c old) (hit : s.heap.IsTupleIter it a i) (ht : s.heap.IsTuple a items) (hx : items[i]? = none)
    (hQ : ∀ h', Heap.ExtBut it s.heap h' → Q none { s with heap := h' }) : wpAny (model prog w) A (pyNext (.ref e)) Q E s := by
  have hT : s.TypeIs (.ref e) "enumerate" := ⟨_, he, rfl⟩
  unfold pyNext
  refine wpAny_bind (wpAny_attempt (wpAny_callSpecial?_slot (name := Str.ofString "__next__") hT F.slot_enumerate_next
    (wpAny_call_entry F.slot_enumerate_next hT F.entry_enumerate_next ?_ (F.args_enumerate_next_1 _))))
  show wpAny _ _ (field (.ref e) 2 >>= _) _ _ _
  refine wpAny_bind (wpAny_field he rfl (x := .ref it) rfl ?_)
  refine wpAny_bind (wpAny_nextOf_tuple_end (A := A.in1) hh hit ht hx fun h' x he' hx' => ?_)
  obtain ⟨o, ho, hc⟩ := hx'
  refine wpAny_bind (wpAny_isInstance (T := "StopIteration") (b := true) ⟨o, ho, hc⟩ isSubtype_stop ?_)
  exact wpAny_pure (hQ _ he')
/-- the tuple at a, each item in a new pair -/
def IteT (K : PySem.W.Frag) (a : Addr) : It :=
  ⟨fun i H => ∃ (xs : List V) (x : V), SqT K H a xs ∧ xs[i]? = some x, fun i H v H' => ∃ T x, v = .ref T ∧ H T = none ∧ H' = upd H T (.tup [.int (i : Nat), x]) ∧ ∀ xs, SqT K H a xs → xs[i]? = some x, fun i H => ∃ xs : List V, SqT K H a xs ∧ xs.length ≤ i⟩
theorem turn_enumT {P : Program} {w : World} {K : PySem.W.Frag} {elts : List Expr} {kk : Nat} {tpos : Pos} (a e it : Addr) (hai : a ≠ it) (hae : a ≠ e) :
    Turn P w K (.Tuple elts kk tpos) (IteT K a) [e, it] e (fun i h => (∃ old, IsEnum h e it ((i : Nat) : Int) old) ∧ h.IsTupleIter it a i ∧ e ≠ it) where
  mem := by simp
  obj := fun i h st b hb => by
    obtain ⟨⟨old, he⟩, ⟨o, ho, hc, hd⟩, _⟩ := st
    have e' : b = e ∨ b = it := by simpa using hb
    rcases e' with z | z
    · rw [z]; exact ⟨_, he, fun v q => nomatch q⟩
    · rw [z]; exact ⟨o, ho, fun v q => by rw [hd] at q; cases q⟩
  keep := fun i h h' st k => let ⟨⟨old, he⟩, ⟨o, ho, r⟩, hne⟩ := st; ⟨⟨old, k e (by simp) _ he⟩, ⟨o, k it (by simp) _ ho, r⟩, hne⟩
  item := by
    intro X hP hw hK hc i pins s σ H E I hf st hg
    subst hP hw hK
    obtain ⟨⟨old, he⟩, hit, hne⟩ := st
    obtain ⟨xs, x, hq, hx⟩ := hg
    obtain ⟨its, rv, p, hz⟩ := I.tuple hq
    have hT : s.heap.IsTuple a its.toArray := p
    obtain ⟨u, hu, ru⟩ := rv.get hx
    have hel : e < s.heap.objs.size := Heap.lt_size he
    have hil : it < s.heap.objs.size := by obtain ⟨_, q, _⟩ := hit; exact Heap.lt_size q
    have hlt : i < its.toArray.size := by have := (List.getElem?_eq_some_iff.mp hu).1; simpa using this
    refine wpAny_pyNext_enum_itemD (Draws.tuple (A := X.A.in1) (show X.A.in1.handled = none from I.ok.hd hc) it a hai its.toArray) he ⟨hit, hT⟩ hlt hne (by simp [Ne.symm hae, hne]) fun y h' tk hP ho hSt hTn hsz hk => ?_
    have hy : y = u := by
      have h1 : its.toArray[i]? = some y := hP
      have h2 : its.toArray[i]? = some u := by simpa using hu
      rw [h1] at h2; exact Option.some.inj h2
    subst hy
    refine ⟨_, rfl, wpAny_letOwnedTupleGo_enum (s := { s with heap := h', toks := tk + 1 }) ho fun h'' he' sb => ?_⟩
    have hT2 : h''.get? s.heap.objs.size = some { cls := .type "tuple", data := .seq #[.int i tk, y] } := (sb.2 _ (Nat.ne_of_gt hel)).trans hTn
    have new : ObjOk X.prog X.w (upd H s.heap.objs.size (.tup [.int (i : Nat), x])) h'' s.heap.objs.size (.tup [.int (i : Nat), x]) :=
      ⟨by show 2 ≤ sizeLine; decide, [.int i tk, y], .cons ⟨_, rfl⟩ (.cons ru .nil), ⟨_, hT2, rfl, _, rfl⟩⟩
    have I1 : Inv X pins σ (upd H s.heap.objs.size (.tup [.int (i : Nat), x])) { s with heap := h'', toks := tk + 1 } :=
      I.turnedNew (ch := [e, it]) (fun b ob hb q => (sb.2 b (fun z => hb (by simp [z]))).trans (hk b ob (fun z => hb (by simp [z])) (fun z => hb (by simp [z])) q)) hf (Nat.le_refl _) new
    obtain ⟨oi, hoi, ri⟩ := hSt.1
    refine ⟨.ref s.heap.objs.size, _, I1, rfl, ⟨_, x, rfl, I.hok.fresh (Nat.le_refl _), rfl, fun ys hy => by rw [I.tuple_inj hy hq]; exact hx⟩, ⟨⟨y, ?_⟩, ⟨oi, (sb.2 it (Ne.symm hne)).trans hoi, ri⟩, hne⟩, fun b hb => ?_⟩
    · have e1 : ((i + 1 : Nat) : Int) = (i : Int) + 1 := by omega
      rw [e1]; exact he'
    · have hb' : b < s.heap.objs.size := by
        have e' : b = e ∨ b = it := by simpa using hb
        rcases e' with z | z
        · rw [z]; exact hel
        · rw [z]; exact hil
      rw [upd_ne (Nat.ne_of_lt hb')]
      exact (hf b hb).1
  done := by
    intro X hP hw hK hc i pins s σ H E I hf st hg
    subst hP hw hK
    obtain ⟨⟨old, he⟩, hit, hne⟩ := st
    obtain ⟨xs, hq, hx⟩ := hg
    obtain ⟨its, rv, p, hz⟩ := I.tuple hq
    obtain ⟨f0, f1, f2, f3, f4, f5⟩ := hf it (by simp)
    have hl := rv.length
    have hT : s.heap.IsTuple a its.toArray := p
    exact pyNext_enumT_end (I.ok.hd hc) he hit hT (by simp; omega) fun h' eb => ⟨rfl, I.turned (t' := s.toks) (fun b o hb q => eb b o hb q) f0 f1 f3 f4 f5⟩
  self := fun A i s Q E st h => let ⟨⟨_, he⟩, _⟩ := st; wpAny_pyIter_enum he h
def iEnumA (K : PySem.W.Frag) (ta : TA) : TI := fun σ H R => ta σ H fun vs H1 => ∃ a xs, vs = [.ref a] ∧ ((SqL K H1 a xs ∧ R (Ite K a) H1) ∨ (SqT K H1 a xs ∧ R (IteT K a) H1))
theorem pi_enumA {X : Cx} {e : Expr} {ta : TA} {p pos tpos : Pos} {elts : List Expr} {kk : Nat} (hg : Gl X "enumerate") (hm : X.mg "enumerate" = none) (ha : PA X [e] ta) (hs : starEach [e] X.env = [(false, eval e X.env)] := by rfl) :
    PI X (.Tuple elts kk tpos) (.Call (.Name "enumerate" p) [e] [] pos) (iEnumA X.K ta) := by
  refine ⟨fun pins s σ H R I h => ?_⟩
  refine Call_ (ld_blt I hg hm boot_enumerate (PyProof.Rows.callWith_type1 (thn (ha.run pos pins s σ H _ I h) fun us s1 ⟨vs, H1, I1, r1, q1⟩ => ?_) hs rfl))
  obtain ⟨a, xs, ex, q1⟩ := q1
  subst ex
  cases r1 with
  | cons r rr =>
    cases rr
    cases r
    have fresh2 : ∀ b, b ∈ [s1.heap.objs.size + 1, s1.heap.objs.size] → FpOk X pins H1 b := fun b hb => by
      have e' : b = s1.heap.objs.size + 1 ∨ b = s1.heap.objs.size := by simpa using hb
      have hle : s1.heap.objs.size ≤ b := by
        rcases e' with z | z
        · rw [z]; exact Nat.le_add_right _ _
        · rw [z]; exact Nat.le_refl _
      exact I1.fpOk hle (I1.hok.fresh hle)
    rcases q1 with ⟨hq, q⟩ | ⟨hq, q⟩
    · obtain ⟨its, rv, p', hz⟩ := I1.list hq
      refine call_enumerate_list p'.isList fun h' he hit hsz hk => wpAny_pyIter_enum he ?_
      have I2 : Inv X pins σ H1 { s1 with heap := h' } := I1.kept (t' := s1.toks) hk
      exact ⟨s1.heap.objs.size + 1, [s1.heap.objs.size + 1, s1.heap.objs.size], _, _, H1, rfl, I2, turn_enum a (s1.heap.objs.size + 1) s1.heap.objs.size, ⟨⟨.none, he⟩, hit, Nat.succ_ne_self _⟩, fresh2, q⟩
    · obtain ⟨its, rv, p', hz⟩ := I1.tuple hq
      obtain ⟨o1, ho1, _⟩ := id p'
      have hlt := Heap.lt_size ho1
      refine enum_begins1 (begins_tuple a its.toArray) p' fun h' he hit hsz hk => wpAny_pyIter_enum he ?_
      have I2 : Inv X pins σ H1 { s1 with heap := h' } := I1.kept (t' := s1.toks) hk
      exact ⟨s1.heap.objs.size + 1, [s1.heap.objs.size + 1, s1.heap.objs.size], _, _, H1, rfl, I2, turn_enumT a (s1.heap.objs.size + 1) s1.heap.objs.size (Nat.ne_of_lt hlt) (Nat.ne_of_lt (Nat.lt_succ_of_lt hlt)), ⟨⟨.none, he⟩, ⟨_, hit, rfl, rfl⟩, Nat.succ_ne_self _⟩, fresh2, q⟩
section
variable {K : PySem.W.Frag} {Z : Addr → Prop} {σ : L2.St} {S : S8}
theorem it_enumT {d : D} {a : Addr} (r : Rp (S.wd K Z) d (.ref a)) (ht : isTup d = true) : ItOk K Z (.enum d) S (IteT K a) := by
  intro Z' σ2 S2 le R2 l hl i
  have hl' : (topD d S2.st).map (enumL 0) = some l := hl
  cases e0 : topD d S2.st with
  | none => rw [e0] at hl'; cases hl'
  | some ds =>
    rw [e0] at hl'; cases hl'
    obtain ⟨a', xs, e, rl, h2, _⟩ := R2.top (le.rp _ _ r) e0
    cases e
    have sq := h2 ht
    rw [enumL_get]
    cases e1 : ds[i]? with
    | none => exact ⟨fun _ => ⟨xs, sq, by rw [rl.length]; exact List.getElem?_eq_none_iff.mp e1⟩, fun x hx => by cases hx⟩
    | some x =>
      obtain ⟨v, hv, _⟩ := rl.get e1
      refine ⟨(fun z => by cases z), fun y hy => ⟨⟨xs, v, sq, hv⟩, ?_⟩⟩
      cases hy
      rintro y H' ⟨T, x', rfl, hT, rfl, hx⟩
      refine ⟨ext_new hT, ?_⟩
      have e : ((0 + i : Nat) : Int) = (i : Nat) := by omega
      rw [e]
      exact R2.newTup hT (.cons rp_int (.cons (rl.get_of e1 (hx xs sq)) .nil))
end
def enumA (m : M (List D)) : M Src := bnd m fun ds => fun e s => match ds with
  | [d] => (match topD d s with
    | some _ => .ok (.enum d) e s
    | none => .bad)
  | _ => .bad
theorem it_enumA {X : Cx} {W : WX} {a : Expr} {p pos : Pos} {m : M (List D)} {tpos : Pos} {elts : List Expr} {kk : Nat} (hg : Gl X "enumerate") (hm : X.mg "enumerate" = none) (h : PAv X W [a] m) (hs : starEach [a] X.env = [(false, eval a X.env)] := by rfl) : PIt X W (.Tuple elts kk tpos) (.Call (.Name "enumerate" p) [a] [] pos) (enumA m) := by
  refine PI.weak (pi_enumA hg hm h hs) fun σ H Q q => ?_
  obtain ⟨Z, S, rfl, R, hw⟩ := q
  refine ⟨Z, S, rfl, R, Wp.bnd hw fun ds S1 R1 T1 h1 vs r1 => ?_⟩
  match ds, h1, r1 with
  | [], h1, _ => exact h1.elim
  | _ :: _ :: _, h1, _ => exact h1.elim
  | [d], h1, r1 =>
    obtain ⟨v, xs, rfl, rv, rn⟩ := r1.of_cons
    rw [rn.of_nil]
    dsimp only at h1
    cases e0 : topD d S1.st with
    | none => rw [e0] at h1; exact h1.elim
    | some ds =>
      rw [e0] at h1
      obtain ⟨a', ys, e, rl, h2, h3⟩ := R1.top rv e0
      subst e
      cases ht : isTup d with
      | true => exact ⟨a', ys, rfl, .inr ⟨h2 ht, h1 S1 rfl rfl R1 (Tr.refl S1) _ (it_enumT rv ht)⟩⟩
      | false => exact ⟨a', ys, rfl, .inl ⟨h3 ht, h1 S1 rfl rfl R1 (Tr.refl S1) _ (it_enum rv ht)⟩⟩
end QB

/-! The pure layer, part 37: sets of ints: set(list), sorted(set(x)), len(set(x)). -/
namespace QB
open PySem PySem.Spec PyProof.Rows L2

/-- the object of a new set -/
abbrev set0 (w : World) : Obj := { cls := .type "set", dict := none, data := .set #[] 0 (.fresh 0 0 (!w.params.followText "set-order")) }
section
variable {P : Program} {w : World} {A : Around} {E : Value → Shared → Prop} {s : Shared}
/-- the making of a set of a list of ints: SetFor's road for a tuple, turned to a list -/
theorem set_of_list {l : Addr} {items : Array Value} (ns : List Int) {Q : Value → Shared → Prop} (hh : A.handled = none) (hl : s.heap.IsList l items) (hit : IntsAre items.toList ns) (hb : ns.length + 1 < scanBound)
    (h : ∀ (h' : Heap) (tk c : Nat), SetR w h' s.heap.objs.size (fun j => decide (j ∈ ns)) c → c ≤ ns.length → (∀ b o, s.heap.get? b = some o → h'.get? b = some o) → Q (.ref s.heap.objs.size) { s with heap := h', toks := tk }) :
    wpAny (model P w) A (call (.type "set") [.ref l]) Q E s := by
  have hisz : items.size = ns.length := by rw [← IntsAre.length hit, Array.length_toList]
  obtain ⟨c, tl, hmro⟩ := F.called_set.mro
  have hmade := F.called_set.made
  have hsub := F.called_set.sub
  refine wpAny_call (codeAny_of_tree ?_)
  show wpAny _ _ (callAny (.type "set") _) _ _ _
  refine wpAny_pure ⟨Code.quiet_builtin _ (by decide +kernel), codeAny_builtin F.entry_type_call ?_⟩
  rw [Around.under_plain (weight_type_call_type "set" [.ref l] []) rfl]
  have h1 := F.called_set.notType
  have h2 := F.called_set.canCreate
  have hct := F.typeCall_set_1 (.ref l)
  repeat (any_goals (first | assumption | wp_step))
  refine codeAny_mono (code_set_led1 (.ref l) (E := E) (Q₁ := fun obj s₁ => obj = .ref s.heap.objs.size ∧ s₁ = { s with heap := s.heap.push (set0 w) }) ⟨rfl, rfl⟩) fun r s₁ hr => ?_
  cases r with
  | error e => exact hr
  | ok fl => cases fl with
    | next => exact hr.elim
    | brk => exact hr.elim
    | cont => exact hr.elim
    | ret obj =>
      obtain ⟨rfl, rfl⟩ := hr
      have hS : (s.heap.push (set0 w)).get? s.heap.objs.size = some (set0 w) := Heap.get?_push_size _ rfl
      have hT : Shared.TypeIs { s with heap := s.heap.push (set0 w) } (.ref s.heap.objs.size) "set" := ⟨_, hS, rfl⟩
      have hli := F.called_set.init.lookup
      have hbi := F.called_set.init.bind (.ref s.heap.objs.size)
      repeat (any_goals (first | assumption | wp_step))
      refine codeAny_mono (codeAny_call_builtin (R := wants (fun r s₂ => r = .none ∧ ∃ h' tk c, s₂ = { s with heap := h', toks := tk } ∧ SetR w h' s.heap.objs.size (fun j => decide (j ∈ ns)) c ∧ c ≤ ns.length ∧
          (∀ b o, s.heap.get? b = some o → h'.get? b = some o)) E) F.called_set.init.plain F.entry_set_init (check_set_init_1 hT ?_)) fun r₂ s₂ hr₂ => ?_
      · obtain ⟨ol, hol, hcl, nl, hdl⟩ := hl
        obtain ⟨ocls, odict, odata, oslots⟩ := ol
        simp only at hcl hdl
        subst hcl hdl
        have hol' : (s.heap.push (set0 w)).get? l = some { cls := .type "list", dict := odict, data := .seq items nl, slots := oslots } := Heap.get?_push_of_some _ hol
        have f1 := F.sub_list_set
        have f2 := F.sub_list_frozenset
        have f3 : (Value.type "list" == Value.type "dict") = false := by decide
        have hl1 : (s.heap.push (set0 w)).IsList l items := ⟨_, hol', rfl, nl, rfl⟩
        have hlS : l < s.heap.objs.size := Heap.lt_size hol
        have hz : (s.heap.push (set0 w)).objs.size = s.heap.objs.size + 1 := Heap.size_push ..
        unfold Builtin.«set.__init__» noKeywords Builtin.Frozenset.updateFrom
        generalize hPI : pyIter = PI
        wp_walk
        subst hPI
        refine wpAny_pyIter_list hl1 (wpAny_bind (wpAny_runValue ?_))
        have hh3 : A.in1.in1.in1.handled = none := by simp [hh]
        have hneI : l ≠ (s.heap.push (set0 w)).objs.size := by rw [hz]; exact Nat.ne_of_lt (Nat.lt_succ_of_lt hlS)
        have hSf : s.heap.objs.size ∉ [(s.heap.push (set0 w)).objs.size, l] := by
          rw [hz]
          intro q
          rcases List.mem_cons.mp q with q | q
          · exact Nat.ne_of_lt (Nat.lt_succ_self _) q
          · exact Nat.ne_of_gt hlS (List.mem_singleton.mp q)
        have hval : ∀ (i : Nat) (v : Value), items[i]? = some v → ∃ k t, ns[i]? = some k ∧ v = .int k t := fun i v hv => by
          have hi : i < ns.length := by rw [← hisz]; exact (Array.getElem?_eq_some_iff.mp hv).1
          obtain ⟨t, e⟩ := PyProof.Rows.IntsAre.int_at hit i v (by rw [Array.getElem?_toList]; exact hv)
          exact ⟨ns[i], t, List.getElem?_eq_getElem hi, by rw [e, List.getD_eq_getElem?_getD, List.getElem?_eq_getElem hi]; rfl⟩
        refine set_update_ints ((Walks.list hh3 _ l hneI items).toS) s.heap.objs.size hSf ns hisz hb hval (items.size - 0) 0 _ (by omega) (Nat.zero_le _)
          ⟨⟨_, Heap.get?_push_size _ rfl, rfl, rfl⟩, hl1.push _⟩ ⟨0, Nat.le_refl 0, setR_new_at (Heap.get?_push_of_some _ hS)⟩ ?_
        intro s' c' hm hc' hS'
        obtain ⟨h', g2, d', tk', os'⟩ := s'
        cases (show g2 = s.gens from hm.gens)
        cases (show d' = s.drawn from hm.drawn)
        cases (show os' = s.os from hm.os)
        show wpAny _ _ _ _ _ _
        refine wpAny_pure ?_
        show wpAny _ _ (ret Value.none) _ _ _
        rw [hisz] at hc'
        refine wpAny_pure ⟨rfl, h', tk', c', rfl, hS', hc', fun b o e => ?_⟩
        have hb0 : b < s.heap.objs.size := Heap.lt_size e
        refine hm.heap b o (fun q => ?_) (Heap.get?_push_of_some _ (Heap.get?_push_of_some _ e))
        rcases List.mem_cons.mp q with q | q
        · exact Nat.ne_of_lt hb0 q
        · have q' := List.mem_singleton.mp q
          rw [hz] at q'
          exact Nat.ne_of_lt (Nat.lt_succ_of_lt hb0) q'
      · cases r₂ with
        | error e => exact hr₂
        | ok fl₂ => cases fl₂ with
          | next => exact hr₂.elim
          | brk => exact hr₂.elim
          | cont => exact hr₂.elim
          | ret r =>
            obtain ⟨rfl, h', tk, c', rfl, hS', hc', hk'⟩ := hr₂
            repeat (any_goals (first | assumption | wp_step))
            exact h _ _ _ hS' hc' hk'
end
/-! ### the different ones of a list, ascending -/
def ddup : List Int → List Int
  | [] => []
  | x :: xs => if x ∈ xs then ddup xs else x :: ddup xs
theorem mem_ddup {k : Int} : ∀ {ns : List Int}, k ∈ ddup ns ↔ k ∈ ns
  | [] => Iff.rfl
  | x :: xs => by
    unfold ddup
    by_cases h : x ∈ xs
    · rw [if_pos h, mem_ddup]
      exact ⟨fun q => List.mem_cons_of_mem _ q, fun q => (List.mem_cons.mp q).elim (fun e => by rw [e]; exact h) id⟩
    · rw [if_neg h, List.mem_cons, List.mem_cons, mem_ddup]
theorem nodup_ddup : ∀ ns : List Int, (ddup ns).Nodup
  | [] => List.nodup_nil
  | x :: xs => by
    unfold ddup
    by_cases h : x ∈ xs
    · rw [if_pos h]; exact nodup_ddup xs
    · rw [if_neg h]; exact List.nodup_cons.mpr ⟨fun q => h (mem_ddup.mp q), nodup_ddup xs⟩
theorem ddup_len : ∀ ns : List Int, (ddup ns).length ≤ ns.length
  | [] => Nat.le_refl _
  | x :: xs => by
    unfold ddup
    have := ddup_len xs
    by_cases h : x ∈ xs
    · rw [if_pos h, List.length_cons]; omega
    · rw [if_neg h, List.length_cons, List.length_cons]; omega
theorem ddup_self : ∀ {ns : List Int}, ns.Nodup → ddup ns = ns
  | [], _ => rfl
  | x :: xs, h => by
    have h' := List.nodup_cons.mp h
    unfold ddup
    rw [if_neg h'.1, ddup_self h'.2]
theorem len_sub : ∀ {l l' : List Int}, l.Nodup → (∀ x ∈ l, x ∈ l') → l.length ≤ l'.length
  | [], _, _, _ => Nat.zero_le _
  | x :: l, l', h, k => by
    have h' := List.nodup_cons.mp h
    have hx := k x List.mem_cons_self
    have ih := len_sub (l' := l'.erase x) h'.2 fun y hy => by
      have ne : y ≠ x := fun e => h'.1 (by rw [← e]; exact hy)
      exact (List.mem_erase_of_ne ne).mpr (k y (List.mem_cons_of_mem _ hy))
    have := List.length_erase_of_mem hx
    have : 0 < l'.length := List.length_pos_of_mem hx
    rw [List.length_cons]; omega
theorem len_same {l l' : List Int} (h : l.Nodup) (h' : l'.Nodup) (k : ∀ x, x ∈ l ↔ x ∈ l') : l.length = l'.length :=
  Nat.le_antisymm (len_sub h fun x hx => (k x).mp hx) (len_sub h' fun x hx => (k x).mpr hx)
theorem asc_uniq : ∀ {l l' : List Int}, l.Pairwise (· < ·) → l'.Pairwise (· < ·) → (∀ x, x ∈ l ↔ x ∈ l') → l = l'
  | [], [], _, _, _ => rfl
  | [], y :: _, _, _, k => absurd ((k y).mpr List.mem_cons_self) (by simp)
  | x :: _, [], _, _, k => absurd ((k x).mp List.mem_cons_self) (by simp)
  | x :: l, y :: l', h, h', k => by
    have a := List.pairwise_cons.mp h
    have b := List.pairwise_cons.mp h'
    have e : x = y := by
      rcases List.mem_cons.mp ((k x).mp List.mem_cons_self) with e | e
      · exact e
      · have h1 := b.1 x e
        rcases List.mem_cons.mp ((k y).mpr List.mem_cons_self) with e2 | e2
        · exact e2.symm
        · have h2 := a.1 y e2; omega
    subst e
    rw [asc_uniq a.2 b.2 fun z => ⟨fun hz => ?_, fun hz => ?_⟩]
    · rcases List.mem_cons.mp ((k z).mp (List.mem_cons_of_mem _ hz)) with e | e
      · have := a.1 z hz; omega
      · exact e
    · rcases List.mem_cons.mp ((k z).mpr (List.mem_cons_of_mem _ hz)) with e | e
      · have := b.1 z hz; omega
      · exact e
def ascS (ns : List Int) : List Int := (ddup ns).mergeSort fun a b => decide (a ≤ b)
theorem mem_ascS {ns : List Int} {k : Int} : k ∈ ascS ns ↔ k ∈ ns := by
  unfold ascS
  rw [(List.mergeSort_perm _ _).mem_iff, mem_ddup]
theorem asc_ascS (ns : List Int) : (ascS ns).Pairwise (· < ·) := by
  have h1 : (ascS ns).Pairwise fun a b => decide (a ≤ b) = true := List.pairwise_mergeSort (fun a b c h1 h2 => by simp at *; omega) (fun a b => by simp; omega) _
  have h2 : (ascS ns).Nodup := (List.mergeSort_perm (ddup ns) _).nodup_iff.mpr (nodup_ddup ns)
  refine (h1.and h2).imp fun {a b} h => ?_
  have h3 : a ≤ b := by simpa using h.1
  have h4 := h.2
  omega
theorem ascS_eq {ns l : List Int} (h : l.Pairwise (· < ·)) (k : ∀ x, x ∈ l ↔ x ∈ ns) : ascS ns = l :=
  asc_uniq (asc_ascS ns) h fun x => mem_ascS.trans (k x).symm
theorem ascS_len (ns : List Int) : (ascS ns).length = (ddup ns).length := (List.mergeSort_perm _ _).length_eq
/-- a list or tuple of ints -/
def seqI : D → Option (List Int)
  | .lst ds => intsOf ds
  | .wls ds => intsOf ds
  | .tup ds => intsOf ds
  | _ => none
theorem seqI_ok {K : PySem.W.Frag} {Z : Addr → Prop} {S : S8} {d : D} {u : V} {ns : List Int} (t : Rt (S.wd K Z) d u) (h : seqI d = some ns) : ∃ a, u = .ref a ∧ (SqL K S.H a (ns.map V.int) ∨ SqT K S.H a (ns.map V.int)) := by
  cases d with
  | lst ds =>
    obtain ⟨a, xs, rfl, h1, h2⟩ := t
    have e : intsOf ds = some ns := h
    rw [intsOf_map e] at h2
    rw [h2.of_ints] at h1
    exact ⟨a, rfl, .inl (.inl (.inl h1))⟩
  | wls ds =>
    obtain ⟨a, xs, rfl, h1, h2⟩ := t
    have e : intsOf ds = some ns := h
    rw [intsOf_map e] at h2
    rw [h2.of_ints] at h1
    exact ⟨a, rfl, .inl h1.sq⟩
  | tup ds =>
    obtain ⟨a, xs, rfl, h1, h2⟩ := t
    have e : intsOf ds = some ns := h
    rw [intsOf_map e] at h2
    rw [h2.of_ints] at h1
    exact ⟨a, rfl, .inr h1.sq⟩
  | _ => cases h
def rSetIA (K : PySem.W.Frag) (w : World) : List V → Hp → VK → Prop := fun vs H Q => ∃ a ns, vs = [V.ref a] ∧ (SqL K H a (ns.map V.int) ∨ SqT K H a (ns.map V.int)) ∧ ns.length ≤ 1000 ∧
  ∀ p, H p = none → Q (.ref p) (upd H p (SetO w p (fun j => decide (j ∈ ns)) (ddup ns).length))
theorem setR_count {w : World} {h : Heap} {a : Addr} {ns : List Int} {c : Nat} (R : SetR w h a (fun j => decide (j ∈ ns)) c) : c = (ddup ns).length := by
  obtain ⟨o, es, ep, t, _, _, _, _, nd, hm, _, _, hn, _⟩ := R
  have e : (es.toList.map L2.keyOf).length = c := by rw [List.length_map, Array.length_toList]; exact hn
  rw [← e]
  exact len_same nd (nodup_ddup ns) fun x => by rw [← hm x, mem_ddup, decide_eq_true_eq]
theorem cr_setIA {X : Cx} (hc : X.calm = true) : CallR X (.type "set") (rSetIA X.K X.w) := by
  intro pins s σ H vs us Q I r h
  obtain ⟨a, ns, rfl, hs, hl, q⟩ := h
  rw [Vals.ref1 r]
  have fin : ∀ (h' : Heap) (tk c : Nat), SetR X.w h' s.heap.objs.size (fun j => decide (j ∈ ns)) c → (∀ b o, s.heap.get? b = some o → h'.get? b = some o) → EP X pins σ Q (.ref s.heap.objs.size) { s with heap := h', toks := tk } := by
    intro h' tk c R k
    have hp := I.hok.fresh (Nat.le_refl s.heap.objs.size)
    have I1 := I.laid (a := s.heap.objs.size) (o := SetO X.w s.heap.objs.size (fun j => decide (j ∈ ns)) c) (h' := h') (t' := tk) k (Nat.le_refl _) (setO_new R)
    rw [setR_count R] at I1
    exact ⟨.ref s.heap.objs.size, _, I1, rfl, q _ hp⟩
  rcases hs with hs | hs
  · obtain ⟨its, rv, p1, _⟩ := I.list hs
    exact set_of_list ns (I.ok.hd hc) p1.isList (by simpa using rv.ints) (by unfold scanBound; omega) fun h' tk c R _ k => fin h' tk c R k
  · obtain ⟨its, rv, p1, _⟩ := I.tuple hs
    exact call_set_tupI ns (I.ok.hd hc) (show s.heap.IsTuple a its.toArray from p1) (by simpa using rv.ints) (by unfold scanBound; omega) fun h' tk c R _ k => fin h' tk c R k
def rLenSO (w : World) : List V → Hp → VK → Prop := fun vs H Q => ∃ (a : Addr) (S : Int → Bool) (n : Nat), vs = [V.ref a] ∧ H a = some (SetO w a S n) ∧ n ≤ 1000 ∧ Q (.int n) H
theorem cr_lenSO {X : Cx} : CallR X (.builtin "len") (rLenSO X.w) := by
  intro pins s σ H vs us Q I r h
  obtain ⟨a, S, n, rfl, ha, hn, q⟩ := h
  rw [Vals.ref1 r]
  obtain ⟨o, es, ep, t, ho, hex, hd, _, _, _, _, hf, hz, _⟩ := setO_get I ha
  exact call_len_set ho hex hd hf (by rw [hz]; omega) ⟨.int n, H, I.tok _, ⟨_, by rw [hz]⟩, q⟩
section
variable {X : Cx} {W : WX} {a : Expr} {ma : M Bv} {p p2 q pos : Pos}
/-- sorted(set(x)) -/
def sortSetD (d : D) : Option Cell := (seqI d).bind fun ns => if decide (ns.length < 64) = true then some (.lst ((ascS ns).map D.int)) else none
theorem fr_sortSet (hm : X.mg "sorted" = none) (hm2 : X.mg "set" = none) (ha : PBv X W a ma) (hc : X.calm = true := by rfl) (hg : Gl X "sorted" := by rfl) (hg2 : Gl X "set" := by rfl)
    (hst : starEach [a] X.env = (false, eval a X.env) :: starEach [] X.env := by rfl) (hst2 : starEach [.Call (.Name "set" p2) [a] [] q] X.env = (false, eval (.Call (.Name "set" p2) [a] [] q) X.env) :: starEach [] X.env := by rfl) :
    PFr X W (.Call (.Name "sorted" p) [.Call (.Name "set" p2) [a] [] q] [] pos) (op1F sortSetD ma) := by
  refine PE.weak (pe_callB (cr_sortedSet hc) hg hm rfl (pa_cons (pe_callTy (cr_setIA hc) hg2 hm2 rfl (pa_cons ha pa_nil hst) (by decide) (by decide) hst rfl) pa_nil hst2) (by decide) (by decide) hst2 rfl) fun σ H Q q => ?_
  obtain ⟨Z, S, rfl, R, hw⟩ := q
  refine ⟨Z, S, rfl, R, Wp.bnd hw fun x S1 R1 T1 h1 u r1 => ?_⟩
  obtain ⟨d, t1, h2⟩ := R1.rd_ok (S0 := S) r1 h1
  obtain ⟨c, e, h3⟩ := h2.opt
  unfold sortSetD at e
  cases el : seqI d with
  | none => rw [el] at e; cases e
  | some ns =>
    rw [el] at e
    simp only [Option.bind] at e
    split at e
    · rename_i hl
      have hl := of_decide_eq_true hl
      cases e
      obtain ⟨b, rfl, hs⟩ := seqI_ok t1 el
      refine ⟨b, ns, rfl, hs, by omega, fun p hp => ?_⟩
      refine ⟨p, _, _, rfl, upd_same, by have := ddup_len ns; omega, fun ns' p' hs' hm' hn' hp' => ?_⟩
      have e' : ns' = ascS ns := (ascS_eq hs' fun x => (hm' x).trans (by rw [decide_eq_true_eq])).symm
      subst e'
      have R2 := R1.up (ext_new (o := SetO X.w p (fun j => decide (j ∈ ns)) (ddup ns).length) hp)
      have T2 : Tr S1 (S1.up (upd S1.H p (SetO X.w p (fun j => decide (j ∈ ns)) (ddup ns).length))) := Tr.up (ext_new hp)
      exact (Wp.finF R2 (T1.trans T2) (h3.from T2)).lst R2 (RpL.ints _) p' hp'
    · cases e
/-- len(set(x)) -/
def lenSetA (d : D) : Option D := (seqI d).bind fun ns => if decide (ns.length ≤ 1000) = true then some (.int (ddup ns).length) else none
theorem ev_lenSetA (hm : X.mg "len" = none) (hm2 : X.mg "set" = none) (ha : PBv X W a ma) (hc : X.calm = true := by rfl) (hg : Gl X "len" := by rfl) (hg2 : Gl X "set" := by rfl)
    (hst : starEach [a] X.env = (false, eval a X.env) :: starEach [] X.env := by rfl) (hst2 : starEach [.Call (.Name "set" p2) [a] [] q] X.env = (false, eval (.Call (.Name "set" p2) [a] [] q) X.env) :: starEach [] X.env := by rfl) :
    PEv X W (.Call (.Name "len" p) [.Call (.Name "set" p2) [a] [] q] [] pos) (op1M lenSetA ma) := by
  refine PE.weak (pe_callB cr_lenSO hg hm rfl (pa_cons (pe_callTy (cr_setIA hc) hg2 hm2 rfl (pa_cons ha pa_nil hst) (by decide) (by decide) hst rfl) pa_nil hst2) (by decide) (by decide) hst2 rfl) fun σ H Q q => ?_
  obtain ⟨Z, S, rfl, R, hw⟩ := q
  refine ⟨Z, S, rfl, R, Wp.bnd hw fun x S1 R1 T1 h1 u r1 => ?_⟩
  obtain ⟨d, t1, h2⟩ := R1.rd_ok (S0 := S) r1 h1
  obtain ⟨c, e, h3⟩ := h2.opt
  unfold lenSetA at e
  cases el : seqI d with
  | none => rw [el] at e; cases e
  | some ns =>
    rw [el] at e
    simp only [Option.bind] at e
    split at e
    · rename_i hl
      have hl := of_decide_eq_true hl
      cases e
      obtain ⟨b, rfl, hs⟩ := seqI_ok t1 el
      refine ⟨b, ns, rfl, hs, hl, fun p hp => ?_⟩
      refine ⟨p, _, _, rfl, upd_same, by have := ddup_len ns; omega, ?_⟩
      exact Wp.fin R1 h3 _ (ext_new hp) _ (by unfold Rp; rfl)
    · cases e
end
end QB

/-! The pure layer, part 38: range(a, b, -1), displays of dicts, extend, constants that are tuples, isinstance and == of own classes, a dict locked where its name is read. -/
namespace QB
open PySem PySem.Spec PyProof.Rows L2

/-! ### range(a, b, -1) -/
section
variable {K : PySem.W.Frag} {Z : Addr → Prop} {σ : L2.St} {S : S8}
theorem it_dn {a : Int} {n : Nat} : ItOk K Z (.dn a n) S (Itc a (-1) n) := by
  intro Z' σ2 S2 le R2 l hl i
  cases hl
  rw [List.getElem?_map]
  by_cases h : i < n
  · rw [List.getElem?_range h]
    refine ⟨(fun z => by cases z), fun d hd => ⟨h, ?_⟩⟩
    cases hd
    rintro y H' ⟨rfl, rfl⟩
    refine ⟨fun _ _ e => e, ?_⟩
    have e : a - (i : Nat) = a + (i : Nat) * (-1) := by omega
    show Rp _ (.int (a - (i : Nat))) _
    rw [e]; exact rp_int
  · rw [List.getElem?_eq_none (by simp; omega)]
    exact ⟨fun _ => Nat.le_of_not_lt h, fun d hd => by cases hd⟩
end
def rg3S (m : M (List D)) : M Src := bnd m fun ds => match ds with
  | [.int i, .int j, .int c] => chk (decide (c = -1) && (rngOk i && rngOk j)) (rt (.dn i (i - j).toNat))
  | _ => fail
section
variable {X : Cx} {W : WX} {tg a b c : Expr} {pos p : Pos}
theorem it_rg3 {m : M (List D)} (hg : Gl X "range") (hm : X.mg "range" = none) (h : PAv X W [a, b, c] m) (hs : starEach [a, b, c] X.env = (false, eval a X.env) :: starEach [b, c] X.env := by rfl) (hpl : (backTo pos (starEach [b, c] X.env)).any (·.1) = false := by rfl) :
    PIt X W tg (.Call (.Name "range" p) [a, b, c] [] pos) (rg3S m) := by
  refine PI.weak (pi_range3 hg hm h hs hpl) fun σ H Q q => ?_
  obtain ⟨Z, S, rfl, R, hw⟩ := q
  refine ⟨Z, S, rfl, R, Wp.bnd hw fun ds S1 R1 T1 h1 vs r1 => ?_⟩
  split at h1
  · rename_i i j c
    obtain ⟨hb, h2⟩ := h1.chk
    simp only [Bool.and_eq_true, decide_eq_true_eq] at hb
    obtain ⟨rfl, hi, hj⟩ := hb
    have hi := rngOk_ok hi
    have hj := rngOk_ok hj
    exact ⟨i, j, -1, _, r1.of_ints (ns := [i, j, -1]), RgC.neg hi.1 hi.2 hj.1 hj.2, h2.here R1 _ it_dn⟩
  · exact h1.elim
end
/-! ### {k: v, ..} -/
def pairsM : List (M D × M D) → M (List (Key × D))
  | [] => rt []
  | (k, v) :: r => bnd k fun kd => bnd v fun vd => bnd (pairsM r) fun ps => match keyOf kd with
    | some kk => rt ((kk, vd) :: ps)
    | none => fail
def dispM (l : List (M D × M D)) : M Cell := bnd (pairsM l) fun kvs => chk (Nat.ble kvs.length 15) (rt (.dct (mergeD [] kvs)))
def PDv (X : Cx) (W : WX) (pos : Pos) (ks : List (Option Expr)) (vs : List Expr) (l : List (M D × M D)) : Prop := PPs X pos ks vs (l.map fun p => (tG X.K X.mg W (rE X.K) p.1, tG X.K X.mg W (rE X.K) p.2))
section
variable {X : Cx} {W : WX} {pos : Pos} {k v : Expr} {ks : List (Option Expr)} {vs : List Expr} {mk mv : M D} {l : List (M D × M D)}
theorem dv_nil : PDv X W pos [] [] [] := pps_nil
theorem dv_cons (hk : PEv X W k mk) (hv : PEv X W v mv) (hr : PDv X W pos ks vs l) : PDv X W pos (some k :: ks) (v :: vs) ((mk, mv) :: l) := pps_cons hk hv hr
theorem Wp.z {K : PySem.W.Frag} {mg : Str → Option Value} {Z : Addr → Prop} {σ : L2.St} {S : S8} {p : Addr} {α : Type} {r : Res α} {Q : α → S8 → Prop} (h : Wp K Z σ S r Q (Qx K mg W Z σ)) : Wp K (addZ Z p) σ S r (fun a S' => Q a S') (Qx K mg W (addZ Z p) σ) := by
  cases r with
  | ok a e s => exact fun S' h1 h2 R T => h S' h1 h2 R.dropZ T
  | exc x e s => exact fun S' h1 h2 R T C dd hx => h S' h1 h2 R.dropZ T C dd (ExAt.le le_freeze hx)
  | bad => exact h
theorem pairs_go {Z : Addr → Prop} {σ : L2.St} : ∀ (l : List (M D × M D)) (S : S8) (Q : List (V × V) → Hp → Prop), Rel X.K Z σ S → Wp X.K Z σ S (pairsM l S.env S.st) (fun kvs S' => Rel X.K Z σ S' → Tr S S' → ∀ es, RpK (S'.wd X.K Z) kvs es → Q (es.map fun kv => (kV kv.1, kv.2)) S'.H) (Qx X.K X.mg W Z σ) →
    tPairs (l.map fun p => (tG X.K X.mg W (rE X.K) p.1, tG X.K X.mg W (rE X.K) p.2)) σ S.H Q
  | [], S, Q, R, hw => (hw.here R) R (Tr.refl S) [] .nil
  | (mk, mv) :: r, S, Q, R, hw => by
    refine ⟨Z, S, rfl, R, Wp.bnd hw fun kd S1 R1 T1 h1 kv rk => ?_⟩
    refine ⟨Z, S1, rfl, R1, Wp.bnd h1 fun vd S2 R2 T2 h2 v rv => ?_⟩
    refine pairs_go r S2 _ R2 (Wp.bnd h2 fun kvs S3 R3 T3 h3 _ T3' es re => ?_)
    cases ek : keyOf kd with
    | none => rw [ek] at h3; exact h3.elim
    | some kk =>
      rw [ek] at h3
      have hkv : kv = kV kk := keyOf_rp ek rk
      have := (h3.here R3) R3 (T1.trans (T2.trans T3)) ((kk, v) :: es) (.cons (T3.rp rv) re)
      rw [hkv]; exact this
theorem fr_disp (h : PDv X W pos ks vs l) (hall : ks.all (·.isSome) = true := by rfl) (hl : ks.length = vs.length := by rfl) (h0 : ks ≠ [] := by intro z; cases z) (h15 : ks.length ≤ 15 := by decide) : PFr X W (.Dict ks vs pos) (dispM l) := by
  refine PE.weak (pe_disp h hall hl h0 h15) fun σ H Q q => ?_
  obtain ⟨Z, S, rfl, R, hw⟩ := q
  intro p hp
  have R1 : Rel X.K (addZ Z p) σ (S.up (upd S.H p (.dK []))) := R.addNew hp
  have T1 : Tr S (S.up (upd S.H p (.dK []))) := Tr.up (ext_new hp)
  have hz : ¬ Z p := fun z => R.zt p z hp
  have hw1 : Wp X.K Z σ S (bnd (pairsM l) (fun kvs => chk (Nat.ble kvs.length 15) (rt (Cell.dct (mergeD [] kvs)))) S.env S.st) (fun a S' => ∀ v, rF X.K Z σ S S' a v → Q v S'.H) (Qx X.K X.mg W Z σ) := hw
  rw [bnd_app] at hw1
  refine pairs_go l (S.up (upd S.H p (.dK []))) _ R1 ?_
  show Wp X.K (addZ Z p) σ _ (pairsM l S.env S.st) _ _
  cases e1 : pairsM l S.env S.st with
  | bad => rw [e1] at hw1; exact hw1
  | exc x e' s' =>
    rw [e1] at hw1
    exact fun S' h1 h2 R' T' C dd hx => hw1 S' h1 h2 R'.dropZ (T1.trans T') C dd (ExAt.le le_freeze hx)
  | ok kvs e' s' =>
    rw [e1] at hw1
    intro S2 h1 h2 R2 T2 _ _ es re
    have hc0 : CellAt ((S.up (upd S.H p (.dK []))).wd X.K (addZ Z p)) (.dct []) p := ⟨[], upd_same, .nil⟩
    obtain ⟨es0, e0, r0⟩ := T2.cellZ R1 hc0
    have e0' : S2.H p = some (.dK []) := by rw [r0.of_nil] at e0; exact e0
    have nf : ∀ ob u, S2.H p ≠ some (.frz ob u) := fun ob u z => by rw [e0'] at z; cases z
    cases hb : Nat.ble kvs.length 15 with
    | false =>
      have hw2 : Wp X.K Z σ S (chk (Nat.ble kvs.length 15) (rt (Cell.dct (mergeD [] kvs))) e' s') (fun a S' => ∀ v, rF X.K Z σ S S' a v → Q v S'.H) (Qx X.K X.mg W Z σ) := hw1
      rw [hb] at hw2; exact hw2.elim
    | true =>
      have hw2 : Wp X.K Z σ S (chk (Nat.ble kvs.length 15) (rt (Cell.dct (mergeD [] kvs))) e' s') (fun a S' => ∀ v, rF X.K Z σ S S' a v → Q v S'.H) (Qx X.K X.mg W Z σ) := hw1
      rw [hb] at hw2
      refine ⟨e0', es, rfl, by rw [re.length]; exact Nat.le_of_ble_eq_true hb, ?_⟩
      have R3 := R2.turn (o := .dK (mergeK [] es)) (.inr rfl) nf
      have lt := le_turn (K := X.K) (S := S2) (Z := addZ Z p) (o := .dK (mergeK [] es)) (.inl (.inr rfl)) nf
      exact hw2 (S2.up (upd S2.H p (.dK (mergeK [] es)))) h1 h2 R3.dropZ ((T1.trans T2).turn hp) _ ⟨p, rfl, hp, hz, R3, mergeK [] es, upd_same, rpK_merge .nil (lt.rpK _ _ re)⟩
end
end QB

/-! The pure layer, part 39: extend, constants that are tuples, isinstance and == of own classes, a dict locked where its name is read. -/
namespace QB
open PySem PySem.Spec PyProof.Rows L2

/-! ### o.extend(x) -/
def extC (ds : List D) (c : Cell) : Option Cell := match c with
  | .lst es => if szOk (es.length + ds.length) = true then some (.lst (es ++ ds)) else none
  | _ => none
def lstOf : D → M (List D)
  | .lst ds => rt ds
  | _ => fail
def extM (mo : M D) (me : M Bv) : M D := bnd mo fun o => bnd (needL o) fun _ => bnd me fun x => bnd (rd x) fun d => bnd (lstOf d) fun ds => bnd (updM o (extC ds)) fun _ => rt .non
section
variable {X : Cx} {W : WX} {o a : Expr} {pos apos : Pos} {mo : M D} {ma : M Bv}
theorem szOk_le2 {n : Nat} (h : szOk n = true) : n ≤ sizeLine := szOk_le h
theorem ev_extend (ho : PEv X W o mo) (ha : PBv X W a ma) (hst : starEach [a] X.env = (false, eval a X.env) :: starEach [] X.env := by rfl) (hbase : attributeBase o "extend" X.env (eval o X.env) = eval o X.env := by rfl)
    (hfew : ((backTo pos (starEach [a] X.env)).all (fun x => !x.1) && (backToKw pos (keywordEach [] X.env)).all (fun x => x.1.isSome)
      && decide (([a] : List Expr).length + ([] : List Keyword).length + (if ([] : List Keyword).isEmpty then 0 else 1) < 30)) = true := by rfl)
    (hline : (apos.endLine == pos.line) = true := by rfl) (hplain : (backTo pos (starEach [] X.env)).any (·.1) = false := by rfl) : PEv X W (.Call (.Attribute o "extend" apos) [a] [] pos) (extM mo ma) := by
  refine PE.weak (pe_bm PySem.F.plainAttrs_list PySem.F.slot_list_extend PySem.F.type_list_extend mt_extend ho (pa_cons ha pa_nil hst) hbase hfew hline hst hplain) fun σ H Q q => ?_
  obtain ⟨Z, S, rfl, R, hw⟩ := q
  refine ⟨Z, S, rfl, R, Wp.bnd hw fun x S1 R1 T1 h1 u r1 => ?_⟩
  obtain ⟨hl, h2⟩ := needL_ok h1
  obtain ⟨k, ds, rfl, e1⟩ := isLst_ok hl
  have r1' : Rp (S1.wd X.K Z) (.ref k) u := r1
  unfold Rp at r1'
  obtain ⟨hk, rfl⟩ := r1'
  obtain ⟨xs, e2, r2⟩ := R1.cell (.inr k) _ e1
  refine ⟨.inl ⟨rfl, xs, .inl (.inl e2)⟩, Z, S1, rfl, R1, Wp.bnd h2 fun b S2 R2 T2 h3 v rv => ?_⟩
  obtain ⟨d, t2, h4⟩ := R2.rd_ok (S0 := S1) rv h3
  cases d with
  | lst zs =>
    obtain ⟨pz, zvs, rfl, ez, rz⟩ := t2
    have h5 : Wp X.K Z σ S2 (bnd (updM (.ref k) (extC zs)) (fun _ => rt D.non) S2.env S2.st) (fun a S' => ∀ v, rE X.K Z σ S S' a v → Q v S'.H) (Qx X.K X.mg W Z σ) := h4
    rw [bnd_app, updM_ref] at h5
    cases e3 : S2.st[k]? with
    | none => rw [e3] at h5; exact h5.elim
    | some c =>
      rw [e3] at h5
      dsimp only at h5
      cases c with
      | dct _ => exact h5.elim
      | obj _ _ => exact h5.elim
      | fdc _ => exact h5.elim
      | lst es =>
        obtain ⟨ys, e4, r4⟩ := R2.cell (.inr k) _ e3
        by_cases hz : szOk (es.length + zs.length) = true
        · have hc : extC zs (.lst es) = some (.lst (es ++ zs)) := by show (if szOk (es.length + zs.length) = true then _ else _) = _; rw [if_pos hz]
          rw [hc] at h5
          refine ⟨_, _, ys, zvs, rfl, rfl, ?_, ez, by rw [r4.length, rz.length]; exact szOk_le hz, ?_⟩
          · show S2.H (S1.ad (.inr k)) = _
            rw [← T2.c k hk]; exact e4
          · have R3 := R2.put (c := .lst (es ++ zs)) (o := .lst (ys ++ zvs)) e3 (R2.nofrz e3 rfl) fun w' le e => ⟨_, e, (le.rpL _ _ r4).append (le.rpL _ _ rz)⟩
            have q := h5 (S2.putCell k (.lst (es ++ zs)) (.lst (ys ++ zvs))) rfl rfl R3 (Tr.put e3 (R2.nofrz e3 rfl)) .non (by show Rp _ .non .non; unfold Rp; rfl)
            have ea : (S1.wd X.K Z).c k = S2.ad (.inr k) := (T2.c k hk).symm
            rw [ea]
            exact q
        · have hc : extC zs (.lst es) = none := by show (if szOk (es.length + zs.length) = true then _ else _) = _; rw [if_neg hz]
          rw [hc] at h5; exact h5.elim
  | _ => exact h4.elim
end
/-! ### constants that are tuples of flat values -/
def flatR : D → Value → Bool
  | .non, .none => true
  | .bl b, .bool c => decide (b = c)
  | .int i, .int j _ => decide (i = j)
  | .str x, .str y _ => decide (x = y)
  | _, _ => false
def flatsR : List D → List Value → Bool
  | [], [] => true
  | d :: ds, v :: vs => flatR d v && flatsR ds vs
  | _, _ => false
def flatV' : D → V
  | .bl b => .bl b
  | .int i => .int i
  | .str x => .str x
  | _ => .non
theorem flatR_ok {d : D} {v : Value} (h : flatR d v = true) : RelV (flatV' d) v ∧ ∀ w, Rp w d (flatV' d) := by
  unfold flatR at h
  split at h
  · exact ⟨rfl, fun w => by unfold Rp flatV'; rfl⟩
  · rename_i b c
    have e := of_decide_eq_true h; subst e
    exact ⟨rfl, fun w => by unfold Rp flatV'; rfl⟩
  · rename_i i j t
    have e := of_decide_eq_true h; subst e
    exact ⟨⟨t, rfl⟩, fun w => by unfold Rp flatV'; rfl⟩
  · rename_i x y t
    have e := of_decide_eq_true h; subst e
    exact ⟨⟨t, rfl⟩, fun w => by unfold Rp flatV'; rfl⟩
  · cases h
theorem flatsR_ok : ∀ {ds : List D} {vs : List Value}, flatsR ds vs = true → Vals (ds.map flatV') vs ∧ ∀ w, RpL w ds (ds.map flatV')
  | [], [], _ => ⟨.nil, fun w => .nil⟩
  | d :: ds, v :: vs, h => by
    have h' : (flatR d v && flatsR ds vs) = true := h
    simp only [Bool.and_eq_true] at h'
    obtain ⟨a1, a2⟩ := flatR_ok h'.1
    obtain ⟨b1, b2⟩ := flatsR_ok h'.2
    exact ⟨.cons a1 b1, fun w => .cons (a2 w) (b2 w)⟩
  | [], _ :: _, h => by cases h
  | _ :: _, [], h => by cases h
/-- the module's name x is a tuple of these -/
def tupB (K : PySem.W.Frag) (x : Str) (ds : List D) : Bool := match PySem.W.nsIn K mainGlobals x with
  | some (some (.ref a)) => (match K.lookup a with
    | some ⟨.type c, _, .seq its _, _⟩ => decide (c = "tuple") && (Nat.ble its.size 1000 && flatsR ds its.toList)
    | _ => false)
  | _ => false
def GTup (K : PySem.W.Frag) (mg : Str → Option Value) (x : Str) (ds : List D) : Prop := ∃ a, mg x = some (.ref a) ∧ ∀ w : Wd, w.K = K → Rp w (.tup ds) (.ref a)
theorem tupB_ok {K : PySem.W.Frag} {h : Heap} {mg : Str → Option Value} (X : K.In h) (G : h.Ns mainGlobals mg) {x : Str} {ds : List D} (c : tupB K x ds = true) : GTup K mg x ds := by
  unfold tupB at c
  split at c
  · rename_i a e
    split at c
    · rename_i cn dd its n sl e2
      simp only [Bool.and_eq_true, decide_eq_true_eq] at c
      obtain ⟨rfl, hz, hf⟩ := c
      obtain ⟨v1, r1⟩ := flatsR_ok hf
      refine ⟨a, PySem.W.mg_of X G e, fun w hw => ?_⟩
      unfold Rp
      refine ⟨a, _, rfl, .inr ⟨_, its, n, by rw [hw]; exact e2, rfl, rfl, ?_, v1⟩, r1 w⟩
      have := Nat.le_of_ble_eq_true hz
      rw [sizeLine_eq]; omega
    · cases c
  · cases c
section
variable {X : Cx} {W : WX} {pos p p2 : Pos} {x : Str} {a b : Expr} {ma mb : M Bv}
theorem ev_gtup {ds : List D} (h : GTup X.K X.mg x ds) (hg : Gl X x := by rfl) (hd : (x == ("__debug__" : Str)) = false := by decide) : PEv X W (.Name x pos) (rt (.tup ds)) := by
  obtain ⟨a, hm, r⟩ := h
  exact ev_glob (v := .ref a) hg hm rfl r hd
/-! ### isinstance(x, C) -/
/-- what is asked of an own class for it -/
structure ClsI (K : PySem.W.Frag) (C : Addr) : Prop where
  cl : Cls K C
  ha : PySem.W.findIn K (.ref C) "__class__" = some (some (.builtin "object.__class__"))
  hn : PySem.W.specialIn K (.builtin "object.__class__") "__get__" = some (some (.builtin "getset_descriptor.__get__"))
  htk : PySem.W.takesIn K (.builtin "object.__class__") = some true
  hm : PySem.W.mroIn K C (.type "object") = some true
def tyNames : List String := ["NoneType", "bool", "int", "str", "tuple", "list", "dict"]
theorem tyD_mem {d : D} (h : notObj d = true) (h2 : ∀ k, d ≠ .ref k) : tyD d ∈ tyNames := by
  cases d with
  | ref k => exact absurd rfl (h2 k)
  | obj _ _ => cases h
  | _ => simp [tyD, tyNames]
def isoB (cn : Str) (ok : Str → Bool) : D → Option D
  | .obj c _ => if ok c = true then some (.bl (decide (c = cn))) else none
  | _ => some (.bl false)
/-- the facts for a class cn among the classes ok -/
structure IsoT (K : PySem.W.Frag) (mg : Str → Option Value) (cn : Str) (ok : Str → Bool) : Prop where
  mg : mg cn = some (.ref (He.ga K cn))
  own : ∀ c, ok c = true → ClsI K (He.ga K c) ∧ PySem.W.kitOne K (.ref (He.ga K c)) (.ref (He.ga K cn)) = some (decide (c = cn))
  ty : ∀ n ∈ tyNames, PySem.W.kitOne K (.type n) (.ref (He.ga K cn)) = some false
theorem ev_iso {cn : Str} {ok : Str → Bool} (T : IsoT X.K X.mg cn ok) (hm : X.mg "isinstance" = none) (ha : PBv X W a ma) (hg : Gl X "isinstance" := by rfl) (hg2 : Gl X cn := by rfl)
    (hdb : (cn == ("__debug__" : Str)) = false := by decide)
    (hst : starEach [a, .Name cn p2] X.env = (false, eval a X.env) :: starEach [.Name cn p2] X.env := by rfl) (hst2 : starEach [.Name cn p2] X.env = (false, eval (.Name cn p2) X.env) :: starEach [] X.env := by rfl)
    (hpl : (backTo pos (starEach [.Name cn p2] X.env)).any (·.1) = false := by rfl) : PEv X W (.Call (.Name "isinstance" p) [a, .Name cn p2] [] pos) (op1M (isoB cn ok) ma) := by
  refine PE.weak (pe_callB call_isi hg hm rfl (pa_cons ha (pa_cons (pe_glob (v := .ref (He.ga X.K cn)) hg2 T.mg rfl hdb) pa_nil hst2) hst) (by decide) (by decide) hst hpl) fun σ H Q q => ?_
  obtain ⟨Z, S, rfl, R, hw⟩ := q
  refine ⟨Z, S, rfl, R, Wp.bnd hw fun x S1 R1 T1 h1 u r1 => ?_⟩
  obtain ⟨d, t1, h2⟩ := R1.rd_ok (S0 := S) r1 h1
  obtain ⟨z, hz, h3⟩ := h2.opt
  cases ho : notObj d with
  | true =>
    have e : isoB cn ok d = some (.bl false) := by cases d <;> first | rfl | cases ho
    rw [e] at hz; cases hz
    exact ⟨u, .ref (He.ga X.K cn), .type (tyD d), .ref (He.ga X.K cn), false, rfl, .own _, ty_of t1 ho, T.ty _ (tyD_mem ho t1.nref), (Wp.fin R1 h3).now rp_bl⟩
  | false =>
    cases d with
    | obj c fs =>
      have hz' : (if ok c = true then some (D.bl (decide (c = cn))) else none) = some z := hz
      split at hz'
      · rename_i hok
        cases hz'
        obtain ⟨I, kk⟩ := T.own c hok
        obtain ⟨b, dx, es, rfl, e, ro⟩ := t1
        exact ⟨.ref b, .ref (He.ga X.K cn), .ref (He.ga X.K c), .ref (He.ga X.K cn), _, rfl, .own _, .base (.ins e I.cl I.ha I.hn I.htk I.hm), kk, (Wp.fin R1 h3).now rp_bl⟩
      · cases hz'
    | _ => cases ho
end
/-! ### x == y by the own __eq__, which answers True -/
mutual
def noRef : D → Bool
  | .ref _ => false
  | .tup ds => noRefL ds
  | .lst ds => noRefL ds
  | .wls ds => noRefL ds
  | .dct kvs => noRefK kvs
  | .obj _ fs => noRefO fs
  | _ => true
def noRefL : List D → Bool
  | [] => true
  | d :: ds => noRef d && noRefL ds
def noRefK : List (Key × D) → Bool
  | [] => true
  | (_, d) :: ds => noRef d && noRefK ds
def noRefO : List (Str × D) → Bool
  | [] => true
  | (_, d) :: ds => noRef d && noRefO ds
end
/-- a world in which nothing may change -/
def still (w : Wd) : Wd := ⟨w.K, fun _ => False, 0, w.c, w.H⟩
section
variable {w : Wd}
mutual
theorem rp_still : ∀ (d : D) (v : V), noRef d = true → Rp w d v → Rp (still w) d v
  | .non, _, _, h => by unfold Rp at *; exact h
  | .bl _, _, _, h => by unfold Rp at *; exact h
  | .int _, _, _, h => by unfold Rp at *; exact h
  | .str _, _, _, h => by unfold Rp at *; exact h
  | .tup ds, v, n, h => by
    unfold Rp at *
    obtain ⟨a, xs, e, h1, h2⟩ := h
    refine ⟨a, xs, e, ?_, rpL_still ds xs (by simpa [noRef] using n) h2⟩
    rcases h1 with h1 | h1
    · exact .inl ⟨id, h1.2⟩
    · exact .inr h1
  | .lst ds, v, n, h => by
    unfold Rp at *
    obtain ⟨a, xs, e, h1, h2⟩ := h
    exact ⟨a, xs, e, ⟨id, h1.2⟩, rpL_still ds xs (by simpa [noRef] using n) h2⟩
  | .wls ds, v, n, h => by
    unfold Rp at *
    obtain ⟨a, xs, e, h1, h2⟩ := h
    refine ⟨a, xs, e, ?_, rpL_still ds xs (by simpa [noRef] using n) h2⟩
    rcases h1 with h1 | h1
    · exact .inl ⟨id, h1.2⟩
    · exact .inr h1
  | .dct kvs, v, n, h => by
    unfold Rp at *
    obtain ⟨a, xs, e, h1, h2⟩ := h
    exact ⟨a, xs, e, h1, rpK_still kvs xs (by simpa [noRef] using n) h2⟩
  | .ref k, _, n, _ => by simp [noRef] at n
  | .obj cn fs, v, n, h => by
    unfold Rp at *
    obtain ⟨a, xs, e, h1, h2⟩ := h
    exact ⟨a, xs, e, ⟨id, h1.2⟩, rpO_still fs xs (by simpa [noRef] using n) h2⟩
theorem rpL_still : ∀ (ds : List D) (vs : List V), noRefL ds = true → RpL w ds vs → RpL (still w) ds vs
  | [], _, _, h => by unfold RpL at *; exact h
  | d :: ds, vs, n, h => by
    simp only [noRefL, Bool.and_eq_true] at n
    obtain ⟨x, xs, rfl, h1, h2⟩ := h.of_cons
    exact .cons (rp_still d x n.1 h1) (rpL_still ds xs n.2 h2)
theorem rpK_still : ∀ (ds : List (Key × D)) (vs : List (Key × V)), noRefK ds = true → RpK w ds vs → RpK (still w) ds vs
  | [], _, _, h => by unfold RpK at *; exact h
  | (k, d) :: ds, vs, n, h => by
    simp only [noRefK, Bool.and_eq_true] at n
    obtain ⟨x, xs, rfl, h1, h2⟩ := h.of_cons
    exact .cons (rp_still d x n.1 h1) (rpK_still ds xs n.2 h2)
theorem rpO_still : ∀ (ds : List (Str × D)) (vs : List (Str × V)), noRefO ds = true → RpO w ds vs → RpO (still w) ds vs
  | [], _, _, h => by unfold RpO at *; exact h
  | (k, d) :: ds, vs, n, h => by
    simp only [noRefO, Bool.and_eq_true] at n
    obtain ⟨x, xs, rfl, h1, h2⟩ := h.of_cons
    exact .cons (rp_still d x n.1 h1) (rpO_still ds xs n.2 h2)
end
end
def yes : FR → Bool
  | .ok (.bl true) _ => true
  | _ => false
/-- the instances at a, b are such data that g, asked without any cell, answers True -/
def EqAns (K : PySem.W.Frag) (g : Fn) (a b : Addr) (H : Hp) : Prop := ∃ x y, Rp ⟨K, fun _ => False, 0, (fun _ => 0), H⟩ x (.ref a) ∧ Rp ⟨K, fun _ => False, 0, (fun _ => 0), H⟩ y (.ref b) ∧ yes (g [x, y] []) = true
theorem eqans_ok {K : PySem.W.Frag} {mg : Str → Option Value} {g : Fn} {vs : List V} {H : Hp} {Q : VK} {E : XK} (h : spEq (EqAns K g) vs H Q E) : spOf K mg 2 g vs H Q E := by
  obtain ⟨a, b, rfl, ⟨x, y, rx, ry, e⟩, q⟩ := h
  have nc : ∀ p c, (⟨[], [], (fun _ => 0), H⟩ : S8).cont p = some c → False := fun p c h => by
    cases p with
    | inl i => cases h
    | inr k => cases h
  have le : (⟨K, fun _ => False, 0, (fun _ => 0), H⟩ : Wd).Le ((⟨[], [], (fun _ => 0), H⟩ : S8).wd K fun _ => False) :=
    ⟨rfl, fun a o e _ => ⟨e, by rintro (z | ⟨p, c, h, _⟩); exact z; exact nc p c h⟩, Nat.le_refl _, fun _ _ => rfl, fun _ _ _ h => h⟩
  refine ⟨fun _ => False, ⟨[], [], fun _ => 0, H⟩, [x, y], rfl, rfl, ⟨rfl, fun i d h => by simp at h, fun i c h => by simp at h, fun p c h => (nc p c h).elim, fun p _ c _ h => (nc p c h).elim, fun p c h => (nc p c h).elim, fun a z => z.elim⟩, .cons (le.rp _ _ rx) (.cons (le.rp _ _ ry) .nil), rfl, ?_⟩
  show WpF K mg _ _ (g [x, y] []) Q E
  unfold yes at e
  split at e
  · rename_i s' e2
    rw [e2]
    intro S' _ _ _ T v rv
    have rv' : Rp (S'.wd K fun _ => False) (.bl true) v := rv
    unfold Rp at rv'
    subst rv'
    exact q S'.H fun a o ha => T.keep a o ha fun p c h => (nc p c h).elim
  · cases e
def eqoD (cn : Str) (g : Fn) : Op2 := fun x y => match x, y with
  | .obj c _, .obj c' _ => if (decide (c = cn) && (decide (c' = cn) && (noRef x && (noRef y && yes (g [x, y] []))))) = true then some (.bl true) else none
  | _, _ => none
theorem rt_obj {w : Wd} {cn : Str} {fs : List (Str × D)} {v : V} (n : noRef (.obj cn fs) = true) (r : Rt w (.obj cn fs) v) (c : Nat → Addr) : ∃ a dx es, v = .ref a ∧ w.H a = some (.ins (He.ga w.K cn) dx es) ∧ Rp ⟨w.K, fun _ => False, 0, c, w.H⟩ (.obj cn fs) (.ref a) := by
  obtain ⟨a, dx, es, rfl, e, ro⟩ := r
  refine ⟨a, dx, es, rfl, e, ?_⟩
  have h1 := rpO_still fs es (by simpa [noRef] using n) ro
  have h2 : Rp (still w) (.obj cn fs) (.ref a) := by
    unfold Rp
    exact ⟨a, es, rfl, ⟨id, dx, e⟩, h1⟩
  have le : (still w).Le ⟨w.K, fun _ => False, 0, c, w.H⟩ := ⟨rfl, fun a o e m => ⟨e, m⟩, Nat.le_refl _, fun k h => absurd h (Nat.not_lt_zero _), fun _ _ _ h => h⟩
  exact le.rp _ _ h2
section
variable {X : Cx} {cn : Str} {g : Fn}
theorem opS_eqo : OpS X (eqoD cn g) (rEqG (DIns (He.ga X.K cn) (EqAns X.K g))) := by
  intro Z σ S x y u v d Q R t1 t2 e k
  unfold eqoD at e
  split at e
  · rename_i c fs c' fs'
    split at e
    · rename_i hb
      cases e
      simp only [Bool.and_eq_true, decide_eq_true_eq] at hb
      obtain ⟨rfl, rfl, n1, n2, hy⟩ := hb
      obtain ⟨a, dx, es, rfl, e1, r1⟩ := rt_obj n1 t1 fun _ => 0
      obtain ⟨b, dy, es', rfl, e2, r2⟩ := rt_obj n2 t2 fun _ => 0
      exact ⟨⟨a, b, dx, dy, es, es', rfl, rfl, e1, e2, _, _, r1, r2, hy⟩, fun H' hx => k H' hx _ (by unfold Rp; rfl)⟩
    · cases e
  · cases e
/-- the operator, from the promise of __eq__ -/
theorem op_eqo {n : Nat} {f : Addr} {fd : FuncData} {ps : List Str} (F : FnOk X.prog X.w X.K X.mg X.base (L2.CX X.prog X.w) n f fd ps (spOf X.K X.mg 2 g)) (hs : PySem.W.findIn X.K (.ref (He.ga X.K cn)) "__eq__" = some (some (.ref f))) (hf : PySem.W.isFn X.K (.ref f) = true) (hb : Binds X.K fd ps []) (hr : Room n X.A) :
    OpR X (compareOp .Eq) (rEqG (DIns (He.ga X.K cn) (EqAns X.K g))) := by
  have F2 : FnOk X.prog X.w X.K X.mg X.base (L2.CX X.prog X.w) n f fd ps (spEq (EqAns X.K g)) := F.imp fun vs H Q E h => eqans_ok h
  refine op_eqG (rcG_ins (E := fun _ _ _ => False) F2 hs hf hb fun pins σ H s e s' I c => ?_) hr
  obtain ⟨_, _, _, _, _, _, _, _, _, _, _, _, hE⟩ := c
  exact hE.elim
end
/-! ### a dict locked where its name is read -/
/-- the name in slot i, its dict locked for good -/
def lockVar (i : Nat) : M D := fun e s => match e[i]? with
  | some (.val (.ref k)) => (match s[k]? with
    | some (.dct kvs) => .ok (.dct kvs) e (s.set k (.fdc kvs))
    | _ => .bad)
  | _ => .bad
section
variable {X : Cx} {W : WX} {pos : Pos} {x : Str}
theorem ev_lock (i : Nat) (h : PE X (.Name x pos) (tVar i) := by exact pv _) : PEv X W (.Name x pos) (lockVar i) := by
  refine PE.weak (PE.ghost h) fun σ H Q q => ?_
  obtain ⟨Z, S, rfl, R, hw⟩ := q
  unfold lockVar at hw
  split at hw
  · rename_i k e0
    split at hw
    · rename_i kvs e1
      obtain ⟨v, ev, rv⟩ := R.val i _ e0
      have rv' : Rp (S.wd X.K Z) (.ref k) v := rv
      unfold Rp at rv'
      obtain ⟨hk, rfl⟩ := rv'
      obtain ⟨es, e2, rk⟩ := R.cell (.inr k) _ e1
      have e2' : S.H (S.ad (.inr k)) = some (.dK es) := e2
      refine ⟨_, ev, .inr ⟨S.ad (.inr k), .dK es, e2', trivial, fun od => ?_⟩⟩
      have nf := R.nofrz e1 rfl
      have R2 : Rel X.K Z σ (S.putCell k (.fdc kvs) (.frz od (.dK es))) := R.put e1 nf fun w' le e => ⟨es, od, e, le.rpK _ _ rk⟩
      refine hw (S.putCell k (.fdc kvs) (.frz od (.dK es))) rfl rfl R2 (Tr.put e1 nf) _ ?_
      show Rp _ (.dct kvs) _
      unfold Rp
      exact ⟨_, es, rfl, ⟨od, upd_same⟩, (le_put (K := X.K) (Z := Z) e1 nf).rpK _ _ rk⟩
    · exact hw.elim
  · exact hw.elim
end
end QB

/-! The pure layer, part 40: facts of the head: own classes, constants; a hook with further Bools. -/
namespace QB
open PySem PySem.Spec PyProof.Rows L2

section
variable {X : Cx} {W : WX} {x : Str} {pos : Pos}
theorem ev_gstr {i : Str} (h : ∃ t, X.mg x = some (.str i t)) (hg : Gl X x := by rfl) (hd : (x == ("__debug__" : Str)) = false := by decide) : PEv X W (.Name x pos) (rt (.str i)) := by
  obtain ⟨t, hm⟩ := h
  exact ev_glob (v := .str i) hg hm ⟨t, rfl⟩ (fun w _ => by unfold Rp; rfl) hd
end
abbrev XB := PySem.W.Frag → Bool
def clsIB (K : PySem.W.Frag) (x : Str) : Bool := (He.Fa.cls x).ok K && (He.eqO (PySem.W.findIn K (.ref (He.ga K x)) "__class__") (some (some (.builtin "object.__class__"))) &&
  (He.eqO (PySem.W.specialIn K (.builtin "object.__class__") "__get__") (some (some (.builtin "getset_descriptor.__get__"))) && (decide (PySem.W.takesIn K (.builtin "object.__class__") = some true) && decide (PySem.W.mroIn K (He.ga K x) (.type "object") = some true))))
theorem clsIB_ok {K : PySem.W.Frag} {x : Str} (h : clsIB K x = true) : ClsI K (He.ga K x) := by
  unfold clsIB at h
  simp only [Bool.and_eq_true, decide_eq_true_eq] at h
  exact ⟨He.cls_ok h.1, He.eqO_ok h.2.1, He.eqO_ok h.2.2.1, h.2.2.2.1, h.2.2.2.2⟩
def inL (cs : List Str) (c : Str) : Bool := cs.any fun x => decide (x = c)
def isoX (cn : Str) (cs : List Str) : XB := fun K => (He.Fa.glo cn).ok K && ((cs.all fun c => clsIB K c && decide (PySem.W.kitOne K (.ref (He.ga K c)) (.ref (He.ga K cn)) = some (decide (c = cn)))) &&
  tyNames.all fun n => decide (PySem.W.kitOne K (.type n) (.ref (He.ga K cn)) = some false))
theorem isoX_ok {K : PySem.W.Frag} {h : Heap} {mg : Str → Option Value} (X : K.In h) (G : h.Ns mainGlobals mg) {cn : Str} {cs : List Str} (q : isoX cn cs K = true) : IsoT K mg cn (inL cs) := by
  unfold isoX at q
  simp only [Bool.and_eq_true] at q
  refine ⟨He.glo_ok X G q.1, fun c hc => ?_, fun n hn => of_decide_eq_true (List.all_eq_true.mp q.2.2 n hn)⟩
  obtain ⟨y, hy, e⟩ := List.any_eq_true.mp hc
  have e := of_decide_eq_true e
  subst e
  have z := List.all_eq_true.mp q.2.1 y hy
  simp only [Bool.and_eq_true] at z
  exact ⟨clsIB_ok z.1, of_decide_eq_true z.2⟩
/-- the classes cs have a field f by what their objects hold alone -/
def attX (f : Str) (cs : List Str) : XB := fun K => cs.all fun c => (He.Fa.cls c).ok K && (He.Fa.noat c f).ok K
theorem attX_ok {K : PySem.W.Frag} {f : Str} {cs : List Str} (q : attX f cs K = true) : ∀ cn, inL cs cn = true → Cls K (He.ga K cn) ∧ NoAttr K (He.ga K cn) f := by
  intro cn hc
  obtain ⟨y, hy, e⟩ := List.any_eq_true.mp hc
  have e := of_decide_eq_true e
  subst e
  have z := List.all_eq_true.mp q y hy
  simp only [Bool.and_eq_true] at z
  exact ⟨He.cls_ok z.1, He.noat_ok z.2⟩
/-! ### the hook -/
def obsXG (n : Nat) (fa : List He.Fa) (fn : List He.DefD) (xs : List XB) (g : Addr → Option Obj) : He.AlD × Bool := (He.obsDG n fa fn g, xs.all fun t => t (He.frG g (He.asD g n)))
def SaysX (fa : List He.Fa) (fn : List He.DefD) (xs : List XB) (K : PySem.W.Frag) : Prop := He.SaysD fa fn K ∧ (xs.all fun t => t K) = true
def hookX (n : Nat) (fa : List He.Fa) (fn : List He.DefD) (xs : List XB) : PySem.W.Hook where
  α := He.AlD × Bool
  obs := fun s => obsXG n fa fn xs s.heap.get?
  val := fun _ => (He.valD fn, true)
  says := fun _ h => ∃ K : PySem.W.Frag, K.In h ∧ SaysX fa fn xs K
  of := fun _ _ e => ⟨_, He.frG_in, congrArg Prod.fst e, congrArg Prod.snd e⟩
  keeps := fun _ _ _ ⟨K, hK, c⟩ k => ⟨K, PySem.W.Frag.In.keeps hK k, c⟩
theorem obsXG_eq {n : Nat} {fa : List He.Fa} {fn : List He.DefD} {xs : List XB} {g : Addr → Option Obj} {s : Shared} (h : ∀ a, g a = s.heap.get? a) : obsXG n fa fn xs g = (hookX n fa fn xs).obs s := by
  have e : g = s.heap.get? := funext h
  rw [e]; rfl
theorem SaysX.at_ {fa : List He.Fa} {fn : List He.DefD} {xs : List XB} {K : PySem.W.Frag} (c : SaysX fa fn xs K) (i : Nat) {t : XB} (h : xs[i]? = some t := by rfl) : t K = true :=
  List.all_eq_true.mp c.2 t (List.mem_of_getElem? h)
end QB

/-! The pure layer, part 43: o.index(x) and o.count(x) for lists of plain data. -/
namespace QB
open PySem PySem.Spec PyProof.Rows L2
abbrev SeqF := List PyData → PyData → Option Int
def indexP : SeqF := fun ds d => if true ∈ ds.map (fun z => PyData.eqv z d) then some ((ds.map fun z => PyData.eqv z d).idxOf true : Nat) else none
def countP : SeqF := fun ds d => some (ds.countP (fun z => PyData.eqv z d) : Nat)
def rSeqL (K : PySem.W.Frag) (g : SeqF) : V → List V → Hp → VK → Prop := fun x xs H Q => ∃ a y d ds i, x = V.ref a ∧ xs = [y] ∧ Dp K H (.ref a) (.list ds) ∧ Dp K H y d ∧ SeqAt.shaped (.list ds) = true ∧ SeqAt.shaped d = true ∧ g ds d = some i ∧ Q (.int i) H
section
variable {X : Cx} {pins : List (Addr × Obj)} {σ : L2.St} {H : Hp} {s : Shared}
theorem items_bools {A : Around} {its : List Value} {ds : List PyData} {d : PyData} {uy : Value} {as bs : List Addr} (h4 : ReadsAll s.heap its ds as) (r1 : Reads s.heap uy d bs) (hxs : PyData.canLayAll0 ds = true) (hd : d.canLay0 = true) (hroom : A.units + 1 + min (PyData.depthAll ds) d.depth < cLine) :
    SeqAt.ItemsEq A.in1 s its (ds.map fun z => PyData.eqv z d) uy true := by
  have hn : its.length = ds.length := SeqAt.ReadsAll.length ds its as h4
  have hmap : its.map (SeqAt.readOf s.heap) = ds := SeqAt.readsAll_map ds its as hxs h4
  refine ⟨by rw [List.length_map]; exact hn, fun j h1 h2 => ?_⟩
  have q := SeqAt.items_eqAt (A := A) (vs := its.toArray) (show ReadsAll s.heap its.toArray.toList ds as from h4) r1 hxs hd hroom its[j] (by simp)
  have e : SeqAt.readOf s.heap its[j] = ds[j]'(by omega) := by
    have e1 : (its.map (SeqAt.readOf s.heap))[j]? = ds[j]? := by rw [hmap]
    rw [List.getElem?_map, List.getElem?_eq_getElem h1, List.getElem?_eq_getElem (by omega)] at e1
    exact Option.some.inj e1
  rw [e] at q
  have e2 : decide ((ds.map fun z => PyData.eqv z d)[j] = true) = PyData.eqv (ds[j]'(by omega)) d := by
    rw [List.getElem_map]
    cases PyData.eqv (ds[j]'(by omega)) d <;> rfl
  rw [e2]; exact q
theorem mt_indexL (hu : X.A.units + 65 < cLine) : MtR X "list.index" (rSeqL X.K indexP) := by
  intro pins s σ H x xs v us Q I rx rxs h
  obtain ⟨a, y, d, ds, i, rfl, rfl, hl, hy, sl, sd, hg, q⟩ := h
  cases rx
  obtain ⟨uy, rfl, ry⟩ := vals1 rxs
  obtain ⟨bs, r1⟩ := Dp.reads I d y uy hy ry
  have hxs : PyData.canLayAll0 ds = true := SeqAt.canLay_of_shaped sl
  have hroom : X.A.units + 1 + min (PyData.depthAll ds) d.depth < cLine := room_in_shaped sd hu
  cases hl with
  | lst hs ha =>
    obtain ⟨its, rv, pl, hlen⟩ := I.list hs
    obtain ⟨as, h4⟩ := Dp.readsAll I ds _ its ha rv
    have hn : its.length = ds.length := SeqAt.ReadsAll.length ds its as h4
    have hvl := rv.length
    unfold indexP at hg
    split at hg
    · rename_i hk
      cases hg
      exact SeqAt.call_list_index pl.isList (items_bools h4 r1 hxs (SeqAt.canLay_of_shaped sd) hroom) (by rw [List.length_map]; omega) hk ⟨.int _, H, I.tok _, ⟨_, rfl⟩, q⟩
    · cases hg
theorem countP_read {h : Heap} {its : List Value} {ds : List PyData} {d : PyData} (hmap : its.map (SeqAt.readOf h) = ds) : its.countP (fun u => PyData.eqv (SeqAt.readOf h u) d) = ds.countP fun z => PyData.eqv z d := by
  rw [← hmap, List.countP_map]; rfl
theorem mt_countL (hu : X.A.units + 65 < cLine) : MtR X "list.count" (rSeqL X.K countP) := by
  intro pins s σ H x xs v us Q I rx rxs h
  obtain ⟨a, y, d, ds, i, rfl, rfl, hl, hy, sl, sd, hg, q⟩ := h
  cases rx
  obtain ⟨uy, rfl, ry⟩ := vals1 rxs
  obtain ⟨bs, r1⟩ := Dp.reads I d y uy hy ry
  have hxs : PyData.canLayAll0 ds = true := SeqAt.canLay_of_shaped sl
  have hroom : X.A.units + 1 + min (PyData.depthAll ds) d.depth < cLine := room_in_shaped sd hu
  cases hl with
  | lst hs ha =>
    obtain ⟨its, rv, ⟨⟨cls, dd, data, sls⟩, n, ho, hc, hdn, hdt⟩, hlen⟩ := I.list hs
    simp only at hc hdt
    subst hc hdt
    obtain ⟨as, h4⟩ := Dp.readsAll I ds _ its ha rv
    have hmap : its.map (SeqAt.readOf s.heap) = ds := SeqAt.readsAll_map ds its as hxs h4
    cases hg
    refine call_meets PySem.F.slot_list_count ⟨_, ho, rfl⟩ PySem.F.entry_list_count (PySem.F.args_list_count_2 _ _) (SeqAt.list_countAt a its.toArray n dd sls uy fun u => PyData.eqv (SeqAt.readOf s.heap u) d)
      ⟨ho, SeqAt.items_eqAt (vs := its.toArray) (show ReadsAll s.heap its.toArray.toList ds as from h4) r1 hxs (SeqAt.canLay_of_shaped sd) hroom, ?_⟩
    show EP X pins σ Q (.int ((its.countP fun u => PyData.eqv (SeqAt.readOf s.heap u) d : Nat) : Int) s.toks) _
    rw [countP_read hmap]
    exact ⟨.int _, H, I.tok _, ⟨_, rfl⟩, q⟩
end
def isLs : D → Bool
  | .lst _ => true
  | _ => false
def sqF (g : SeqF) : Op2 := fun c x => match c with
  | .lst ds => if (okD x && okD (.lst ds)) = true then (g (toPs ds) (toP x)).map D.int else none
  | _ => none
/-- o.m(a), m of a list of plain data -/
def sqM (g : SeqF) (mo ma : M Bv) : M D := bnd mo fun x => bnd (rd x) fun d => bnd (chk (isLs d) (rt ())) fun _ => bnd ma fun y => bnd (rd x) fun dx => bnd (rd y) fun dy => opt (sqF g dx dy)
section
variable {X : Cx} {W : WX} {o a : Expr} {mo ma : M Bv} {pos apos : Pos} {name : Str} {idl : String} {g : SeqF}
theorem ev_sq (slot : _root_.PySem.Slot "list" name idl) (hty : typeOf (.builtin idl) = pure (.type "method_descriptor")) (hm : MtR X idl (rSeqL X.K g)) (ho : PBv X W o mo) (ha : PBv X W a ma)
    (hst : starEach [a] X.env = (false, eval a X.env) :: starEach [] X.env := by rfl) (hbase : attributeBase o name X.env (eval o X.env) = eval o X.env := by rfl)
    (hfew : ((backTo pos (starEach [a] X.env)).all (fun x => !x.1) && (backToKw pos (keywordEach [] X.env)).all (fun x => x.1.isSome)
      && decide (([a] : List Expr).length + ([] : List Keyword).length + (if ([] : List Keyword).isEmpty then 0 else 1) < 30)) = true := by rfl)
    (hline : (apos.endLine == pos.line) = true := by rfl) (hplain : (backTo pos (starEach [] X.env)).any (·.1) = false := by rfl) : PEv X W (.Call (.Attribute o name apos) [a] [] pos) (sqM g mo ma) := by
  refine PE.weak (pe_bm PySem.F.plainAttrs_list slot hty hm ho (pa_cons ha pa_nil hst) hbase hfew hline hst hplain) fun σ H Q q => ?_
  obtain ⟨Z, S, rfl, R, hw⟩ := q
  refine ⟨Z, S, rfl, R, Wp.bnd hw fun x S1 R1 T1 h1 u r1 => ?_⟩
  obtain ⟨d, t1, h2⟩ := R1.rd_ok (S0 := S) r1 h1
  cases d with
  | lst ds =>
    obtain ⟨p, xs, rfl, q1, q2⟩ := t1
    refine ⟨.inl ⟨rfl, xs, .inl (.inl q1)⟩, Z, S1, rfl, R1, Wp.bnd h2 fun y S2 R2 T2 h3 v r2 => ?_⟩
    obtain ⟨dx, t3, h4⟩ := R2.rd_ok (S0 := S) (rB_tr T2 r1) h3
    obtain ⟨dy, t4, h5⟩ := R2.rd_ok (S0 := S1) r2 h4
    obtain ⟨z, e, h6⟩ := Wp.opt h5
    have k := Wp.fin R2 h6
    cases dx with
    | lst es =>
      unfold sqF at e
      dsimp only at e
      split at e
      · rename_i hh
        simp only [Bool.and_eq_true] at hh
        cases hg : g (toPs es) (toP dy) with
        | none => rw [hg] at e; cases e
        | some i =>
          rw [hg] at e
          cases e
          have hl := dpt_of hh.2 t3
          have hy := dpt_of hh.1 t4
          have he : toP (.lst es) = .list (toPs es) := by unfold toP; rfl
          have sl := okD_shaped hh.2
          rw [he] at hl sl
          exact ⟨p, v, _, _, i, rfl, rfl, hl, hy, sl, okD_shaped hh.1, hg, k.now (by unfold Rp; rfl)⟩
      · cases e
    | _ => cases e
  | _ => exact h2.elim
theorem ev_index (hu : X.A.units + 65 < cLine) (ho : PBv X W o mo) (ha : PBv X W a ma)
    (hst : starEach [a] X.env = (false, eval a X.env) :: starEach [] X.env := by rfl) (hbase : attributeBase o "index" X.env (eval o X.env) = eval o X.env := by rfl)
    (hfew : ((backTo pos (starEach [a] X.env)).all (fun x => !x.1) && (backToKw pos (keywordEach [] X.env)).all (fun x => x.1.isSome)
      && decide (([a] : List Expr).length + ([] : List Keyword).length + (if ([] : List Keyword).isEmpty then 0 else 1) < 30)) = true := by rfl)
    (hline : (apos.endLine == pos.line) = true := by rfl) (hplain : (backTo pos (starEach [] X.env)).any (·.1) = false := by rfl) : PEv X W (.Call (.Attribute o "index" apos) [a] [] pos) (sqM indexP mo ma) :=
  ev_sq PySem.F.slot_list_index PySem.F.type_list_index (mt_indexL hu) ho ha hst hbase hfew hline hplain
theorem ev_count (hu : X.A.units + 65 < cLine) (ho : PBv X W o mo) (ha : PBv X W a ma)
    (hst : starEach [a] X.env = (false, eval a X.env) :: starEach [] X.env := by rfl) (hbase : attributeBase o "count" X.env (eval o X.env) = eval o X.env := by rfl)
    (hfew : ((backTo pos (starEach [a] X.env)).all (fun x => !x.1) && (backToKw pos (keywordEach [] X.env)).all (fun x => x.1.isSome)
      && decide (([a] : List Expr).length + ([] : List Keyword).length + (if ([] : List Keyword).isEmpty then 0 else 1) < 30)) = true := by rfl)
    (hline : (apos.endLine == pos.line) = true := by rfl) (hplain : (backTo pos (starEach [] X.env)).any (·.1) = false := by rfl) : PEv X W (.Call (.Attribute o "count" apos) [a] [] pos) (sqM countP mo ma) :=
  ev_sq PySem.F.slot_list_count PySem.F.type_list_count (mt_countL hu) ho ha hst hbase hfew hline hplain
end
end QB

/-! The pure layer, part 44: list(range(a, b)). -/
namespace QB
open PySem PySem.Spec PyProof.Rows L2
def lrgM (ma mb : M Bv) : M Cell := bnd ma fun x => bnd mb fun y => bnd (rd x) fun dx => bnd (rd y) fun dy => bnd (opt (rangeD dx dy)) fun r => rt (.lst (rgL r.1 r.2))
section
variable {X : Cx} {W : WX} {a b : Expr} {pos : Pos}
theorem fr_listRg2 {p p2 pos2 : Pos} {ma mb : M Bv} (hc : X.calm = true) (hm1 : X.mg "list" = none) (hm2 : X.mg "range" = none) (ha : PBv X W a ma) (hb : PBv X W b mb) (hg1 : Gl X "list" := by rfl) (hg2 : Gl X "range" := by rfl)
    (n1 : starEach [a, b] X.env = (false, eval a X.env) :: starEach [b] X.env := by rfl) (n3 : starEach [b] X.env = (false, eval b X.env) :: starEach [] X.env := by rfl)
    (n4 : (backTo pos2 (starEach [b] X.env)).any (·.1) = false := by rfl) (n2 : starEach [.Call (.Name "range" p2) [a, b] [] pos2] X.env = (false, eval (.Call (.Name "range" p2) [a, b] [] pos2) X.env) :: starEach [] X.env := by rfl) :
    PFr X W (.Call (.Name "list" p) [.Call (.Name "range" p2) [a, b] [] pos2] [] pos) (lrgM ma mb) := by
  refine PE.weak (pe_listRg hc hg1 hm1 (prg_2 hg2 hm2 ha hb n1 n3 n4) n2) fun σ H Q q => ?_
  obtain ⟨Z, S, rfl, R, hw⟩ := q
  refine ⟨Z, S, rfl, R, Wp.bnd hw fun x S1 R1 T1 h1 u r1 => ?_⟩
  refine ⟨Z, S1, rfl, R1, Wp.bnd h1 fun y S2 R2 T2 h2 v r2 => ?_⟩
  obtain ⟨dx, t1, h3⟩ := R2.rd_ok (S0 := S) (rB_tr T2 r1) h2
  obtain ⟨dy, t2, h4⟩ := R2.rd_ok (S0 := S1) r2 h3
  rw [bnd_app] at h4
  cases dx with
  | int i =>
    cases dy with
    | int j =>
      cases q : rgOk i j with
      | false =>
        have : rangeD (.int i) (.int j) = none := by
          rw [rangeD_int, q]; rfl
        rw [this] at h4; exact h4.elim
      | true =>
        have : rangeD (.int i) (.int j) = some (i, j) := by
          rw [rangeD_int, q]; rfl
        rw [this] at h4
        exact ⟨i, j, t1, t2, rgOk_ok q, (Wp.finF R2 (T1.trans T2) h4).lst R2 (rpL_rg i j)⟩
    | _ => exact h4.elim
  | _ => exact h4.elim
end
end QB

/-! The pure layer, part 45: (a, b, ..) = a list of that length. -/
namespace QB
open PySem PySem.Spec PyProof.Rows L2
section
variable {prog : Program} {w : World} {A : Around} {E : Value → Shared → Prop} {s : Shared}
/-- the next n items of a list, one after another -/
theorem drawn_list {it l : Addr} {its : Array Value} (far : l ≠ it) : ∀ (n i : Nat) (s : Shared) (Q : List Value → Shared → Prop), s.heap.IsListIter it l i → s.heap.IsList l its → i + n ≤ its.size →
    (∀ hp, hp.IsListIter it l (i + n) → Heap.SameBut it s.heap hp → Q ((its.toList.drop i).take n) { s with heap := hp }) → wpAny (model prog w) A (draw (.ref it) n) Q E s
  | 0, i, s, Q, at_, _, _, fin => wpAny_pure (by simpa using fin s.heap at_ (Heap.SameBut.refl ..))
  | n + 1, i, s, Q, at_, is, le, fin => by
    have lt : i < its.size := by omega
    show wpAny _ _ (pyNext (.ref it) >>= _) Q E s
    refine wpAny_bind (wpAny_pyNext_list_item at_ is (x := its[i]) (by simp [lt]) fun h1 at1 sb1 => ?_)
    refine wpAny_bind (wpAny_holding (drawn_list far n (i + 1) _ _ at1 (is.extBut sb1.extBut far) (by omega) fun h2 at2 sb2 => wpAny_pure ?_))
    have cut : its.toList.drop i = its[i] :: its.toList.drop (i + 1) := by simp [List.drop_eq_getElem_cons, lt]
    have q := fin h2 (by rw [show i + (n + 1) = i + 1 + n by omega]; exact at2) (sb1.trans sb2)
    rw [cut, List.take_succ_cons] at q
    exact q
theorem items_list {l : Addr} {its : Array Value} {Q : List Value → Shared → Prop} (calm : A.handled = none) (is : s.heap.IsList l its)
    (fin : ∀ hp, Heap.ExtBut s.heap.objs.size s.heap hp → Q its.toList { s with heap := hp }) : wpAny (model prog w) A (unpackItems (.ref l) its.size none) Q E s := by
  have far : l ≠ s.heap.objs.size := by obtain ⟨o, e, _⟩ := is; exact Nat.ne_of_lt (Heap.lt_size e)
  unfold unpackItems notIterableAtAll
  refine wpAny_bind (wpAny_bind (wpAny_specialOf is.typeIs slot_list_iter.lookup (wpAny_pure ?_)))
  simp only [Bool.false_eq_true, if_false]
  refine wpAny_bind (wpAny_holding (wpAny_pyIter_list is ?_))
  refine wpAny_bind (wpAny_holding (drawn_list far its.size 0 _ _ ⟨_, Heap.get?_push_size _ rfl, rfl, rfl⟩ (is.push _) (by omega) fun h1 at1 sb1 => ?_))
  have whole : List.take its.size (List.drop 0 its.toList) = its.toList := by
    rw [List.drop_zero]; exact List.take_of_length_le (by simp)
  rw [whole, if_neg (by simp)]
  have is1 : h1.IsList l its := (is.push _).extBut sb1.extBut far
  refine wpAny_bind (wpAny_holding (wpAny_pyNext_list_end calm at1 is1 (by simp) fun h2 e2 => ?_))
  simp only [Option.isSome_none, Bool.false_eq_true, if_false]
  exact wpAny_pure (fin h2 fun b o ne e => e2 b o ne (sb1.extBut b o ne (Heap.get?_push_of_some _ e)))
theorem assign_list {env : Env} {es : List Expr} {x1} {pos : Pos} {l : Addr} {its : Array Value} {Q : Unit → Shared → Prop} (calm : A.handled = none) (is : s.heap.IsList l its)
    (many : (assignEach es env).length = its.size) (plain : (assignEach es env).findIdx? (·.1) = none)
    (fin : ∀ hp, Heap.ExtBut s.heap.objs.size s.heap hp → wpAny (model prog w) A (assignInOrder ((assignEach es env).map (·.2)) its.toList) Q E { s with heap := hp }) :
    wpAny (model prog w) A (assign (.Tuple es x1 pos) env (.ref l)) Q E s := by
  rw [assign_Tuple]
  refine wpAny_bind (wpAny_standAt ?_)
  unfold unpack
  rw [many, plain]
  exact wpAny_bind (wpAny_holding (items_list calm is fin))
end
def gLst (K : PySem.W.Frag) (n : Nat) (t : TGs) : TG := fun v σ H Q => ∃ a xs, v = .ref a ∧ (SqT K H a xs ∨ SqL K H a xs) ∧ xs.length = n ∧ t xs σ H Q
section
variable {X : Cx} {W : WX} {pos : Pos}
theorem pg_sq {es : List Expr} {k : Nat} {t : TGs} {n : Nat} (hc : X.calm = true) (h : PGs X es t)
    (hn : (assignEach es X.env).length = n := by rfl) (hst : (assignEach es X.env).findIdx? (·.1) = none := by rfl) : PG X (.Tuple es k pos) (gLst X.K n t) := by
  refine ⟨fun pins s σ H v u Q I r hw => ?_⟩
  obtain ⟨a, xs, e1, hq, hl, hw⟩ := hw
  rcases hq with hq | hq
  · exact (pg_tup hc h hn hst).run pins s σ H v u Q I r ⟨a, xs, e1, hq, hl, hw⟩
  · subst e1
    cases r
    obtain ⟨its, rv, pl, hz⟩ := I.list hq
    refine assign_list (I.ok.hd hc) pl.isList (by simp [hn, ← hl, rv.length]) hst fun hp hx => ?_
    have I1 : Inv X pins σ H { s with heap := hp } := I.kept (t' := s.toks) fun b o e => hx b o (Nat.ne_of_lt (Heap.lt_size e)) e
    exact h.run pins _ σ H xs _ Q I1 (by simpa using rv) hw
/-- .. of a tuple or a list -/
def tupA (n : Nat) (g : List D → M Unit) : D → M Unit
  | .tup ds => if ds.length = n then g ds else fail
  | .lst ds => if ds.length = n then g ds else fail
  | _ => fail
theorem tg_sq {es : List Expr} {k n : Nat} {ts : List Nat} {g : List D → M Unit} (hc : X.calm = true) (h : PTgs X W es ts g) (h1 : (assignEach es X.env).length = n := by rfl) (h2 : (assignEach es X.env).findIdx? (·.1) = none := by rfl) :
    PTg X W (.Tuple es k pos) ts (tupA n g) := by
  refine PG.weak (pg_sq hc h h1 h2) fun v σ H Q q => ?_
  obtain ⟨Z, S, d, rfl, R, r, hw⟩ := q
  cases d with
  | tup ds =>
    have hw' : WpU X.K X.mg W Z S ((if ds.length = n then g ds else fail) S.env S.st) (fun σ' H' => Agr ts σ σ' → Q σ' H') := hw
    by_cases hl : ds.length = n
    · rw [if_pos hl] at hw'
      unfold Rp at r
      obtain ⟨a, xs, rfl, h1, h2⟩ := r
      exact ⟨a, xs, rfl, .inl h1.sq, h2.length.trans hl, Z, S, ds, rfl, R, h2, hw'⟩
    · rw [if_neg hl] at hw'; exact hw'.elim
  | lst ds =>
    have hw' : WpU X.K X.mg W Z S ((if ds.length = n then g ds else fail) S.env S.st) (fun σ' H' => Agr ts σ σ' → Q σ' H') := hw
    by_cases hl : ds.length = n
    · rw [if_pos hl] at hw'
      unfold Rp at r
      obtain ⟨a, xs, rfl, h1, h2⟩ := r
      exact ⟨a, xs, rfl, .inr h1.sq, h2.length.trans hl, Z, S, ds, rfl, R, h2, hw'⟩
    · rw [if_neg hl] at hw'; exact hw'.elim
  | _ => exact hw.elim
end
end QB

/-! The pure layer, part 47: t * 1 is t. -/
namespace QB
open PySem PySem.Spec PyProof.Rows L2
theorem tuple_mul1 (l : Addr) (items : Array Value) (n : Nat) (dd : Option Addr) (sl : Array (Option Value)) (u : Tok) :
    Meets (Builtin.«tuple.__mul__» ⟨[.ref l, .int 1 u], []⟩) (fun _ R s => s.heap.get? l = some { cls := .type "tuple", dict := dd, data := .seq items n, slots := sl } ∧ R (.ok (.ret (Value.ref l))) s) :=
  .of_wp fun prog w A R s h => by
    obtain ⟨hp, g, d, tk, os⟩ := s
    obtain ⟨hl, h⟩ := h
    have f1 := AutoSeq1.idx_int
    have one : (items.isEmpty || (1 : Int) == 1) = true := by rw [Bool.or_eq_true]; exact .inr rfl
    wp_walk using wpAny_loadPart' hl
    exact ⟨_, rfl, h⟩
def rOne (K : PySem.W.Frag) : R2 := fun x y H Q => ∃ l xs, x = .ref l ∧ y = .int 1 ∧ SqT K H l xs ∧ Q (.ref l) H
section
variable {X : Cx}
theorem op_one : OpR X (binaryOp .Mult) (rOne X.K) := by
  intro pins s σ H x y v u Q I rx ry h
  obtain ⟨l, xs, rfl, rfl, hT, q⟩ := h
  cases rx
  obtain ⟨t, rfl⟩ := ry
  obtain ⟨its, r, ⟨⟨cls, dd, data, sl⟩, ho, hc, n, hd⟩, hs⟩ := I.tuple hT
  simp only at hc hd
  subst hc hd
  exact wpAny_binaryOp_repeat_ref (T := "tuple") (U := "int") (by decide) ⟨_, ho, rfl⟩ (fun s' => typeIs_int s' 1 t) noFill_tuple_mul F.fills_int_mul F.slot_int_rmul repeat_tuple F.slot_int_index.lookup
    (call_meets F.slot_int_rmul (typeIs_int s 1 t) F.entry_int_rmul (F.args_int_rmul_2 _ _) (int_rmul_tuple 1 t l its.toArray n dd sl)
      ⟨ho, rfl, ⟨_, ho, rfl⟩, call_meets F.slot_tuple_mul ⟨_, ho, rfl⟩ F.entry_tuple_mul (F.args_tuple_mul_2 _ _) (tuple_mul1 l its.toArray n dd sl t) ⟨ho, .ref l, H, I, rfl, q⟩⟩)
def mulE : Op2 := fun x y => match x, y with
  | .tup xs, .int k => if k = 1 then some (.tup xs) else mulD (.tup xs) (.int k)
  | a, b => mulD a b
theorem op_mulE : OpR X (binaryOp .Mult) (fun x y H Q => rMulA X.K x y H Q ∨ rOne X.K x y H Q) := op_mulA.or op_one
theorem opS_mulE : OpS X mulE (fun x y H Q => rMulA X.K x y H Q ∨ rOne X.K x y H Q) := by
  intro Z σ S x y u v d Q R t1 t2 e k
  unfold mulE at e
  split at e
  · rename_i xs i
    split at e
    · rename_i h1
      subst h1
      cases e
      obtain ⟨a, us, rfl, q1, r1⟩ := id t1
      obtain rfl : v = .int 1 := t2
      exact .inr ⟨a, us, rfl, rfl, q1.sq, k.now (by unfold Rp; exact ⟨a, us, rfl, q1, r1⟩)⟩
    · exact .inl (opS_mul Z σ S _ _ u v d Q R t1 t2 e k)
  · exact .inl (opS_mul Z σ S _ _ u v d Q R t1 t2 e k)
end
@[simp] theorem r_mulE_int {i j : Int} : mulE (.int i) (.int j) = mulD (.int i) (.int j) := rfl
@[simp] theorem r_mulE_tup {xs : List D} {k : Int} : mulE (.tup xs) (.int k) = if k = 1 then some (.tup xs) else mulD (.tup xs) (.int k) := rfl
end QB

namespace K58
open PySem PySem.Spec PyProof.Rows L2 QB
def cls_all : Str → Bool := inL ["Watch"]
def cls_stops : Str → Bool := inL ["Watch"]
def cls_rows : Str → Bool := inL ["Watch"]
@[simp] theorem cls_stops_Watch : cls_stops "Watch" = true := rfl
@[simp] theorem cls_rows_Watch : cls_rows "Watch" = true := rfl
@[simp] theorem cls_all_Watch : cls_all "Watch" = true := rfl
def b_is_integer : SM := retS (andV (boolM (isiM [.int] (bvarM 0))) (notV (boolM (isiM [.bool] (bvarM 0)))))
def p_is_integer : Fn := runF 1 1 b_is_integer
theorem p_is_integer_len : ∀ ds s, p_is_integer ds s ≠ .bad → ds.length = 1 := fun ds s h => runF_len ds s h
def b_is_between : SM := retS (andV (boolM (callM p_is_integer (consM (varM 0) (rt [])))) (chainM leD leD (bvarM 1) (bvarM 0) (bvarM 2)))
def p_is_between : Fn := runF 3 3 b_is_between
theorem p_is_between_len : ∀ ds s, p_is_between ds s ≠ .bad → ds.length = 3 := fun ds s h => runF_len ds s h
def b_is_tuple_of : SM := retS (andV (boolM (isiM [.tuple] (bvarM 0))) (op2M eqD (toB (op1M lenD (bvarM 0))) (bvarM 1)))
def p_is_tuple_of : Fn := runF 2 2 b_is_tuple_of
theorem p_is_tuple_of_len : ∀ ds s, p_is_tuple_of ds s ≠ .bad → ds.length = 2 := fun ds s h => runF_len ds s h
def b_is_row : SM := retS (andV (boolM (callM p_is_tuple_of (consM (varM 0) (consM (varM 1) (rt []))))) (op1M allD (toB (frz (compM (.lst []) (seqM (varM 0)) (setM 4) (rt true) (stepL (callM p_is_between (consM (varM 4) (consM (varM 2) (consM (varM 3) (rt [])))))) [4])))))
def p_is_row : Fn := runF 5 4 b_is_row
theorem p_is_row_len : ∀ ds s, p_is_row ds s ≠ .bad → ds.length = 4 := fun ds s h => runF_len ds s h
def b_is_rising : SM := retS (op1M allD (toB (frz (compM (.lst []) (zipM (consM (varM 0) (consM (sliceM (bvarM 0) (partM (rt (.int 1))) (rt none)) (rt [])))) (tupA 2 (consT (setM 1) (consT (setM 2) nilT))) (rt true) (stepL (op2M ltD (bvarM 1) (bvarM 2))) [1, 2]))))
def p_is_rising : Fn := runF 3 1 b_is_rising
theorem p_is_rising_len : ∀ ds s, p_is_rising ds s ≠ .bad → ds.length = 1 := fun ds s h => runF_len ds s h
def b_is_set : SM := retS (andV (boolM (isiM [.tuple] (bvarM 0))) (andV (boolM (callM p_is_row (consM (varM 0) (consM (op1M lenD (bvarM 0)) (consM (rt (.int 0)) (consM (op2M subD (bvarM 1) (toB (rt (.int 1)))) (rt []))))))) (callM p_is_rising (consM (varM 0) (rt [])))))
def p_is_set : Fn := runF 2 2 b_is_set
theorem p_is_set_len : ∀ ds s, p_is_set ds s ≠ .bad → ds.length = 2 := fun ds s h => runF_len ds s h
def b_are_stops : SM := seqS (ifS (orT (notM (boolM (isiM [.tuple] (bvarM 0)))) (notM (boolM (chainM leD leD (toB (rt (.int 2))) (toB (op1M lenD (bvarM 0))) (toB (rt (.int 4))))))) (retS (rt (.bl false))) (.nx)) (seqS (ifS (notM (boolM (op1M allD (toB (frz (compM (.lst []) (seqM (varM 0)) (setM 1) (rt true) (stepL (orV (boolM (op2M (isD false) (bvarM 1) (toB (rt .non)))) (callM p_is_between (consM (varM 1) (consM (rt (.int 0)) (consM (rt (.int 8)) (rt []))))))) [1])))))) (retS (rt (.bl false))) (.nx)) (retS (op2M gtD (toB (op1M lenD (toB (frz (compM (.lst []) (seqM (varM 0)) (setM 1) (boolM (op2M (isD false) (bvarM 1) (toB (rt .non)))) (stepL (varM 1)) [1]))))) (toB (rt (.int 0))))))
def p_are_stops : Fn := runF 2 1 b_are_stops
theorem p_are_stops_len : ∀ ds s, p_are_stops ds s ≠ .bad → ds.length = 1 := fun ds s h => runF_len ds s h
def b_are_suspects : SM := retS (andV (boolM (isiM [.tuple] (bvarM 1))) (andV (boolM (op2M eqD (toB (op1M lenD (bvarM 1))) (bvarM 0))) (op1M allD (toB (frz (compM (.lst []) (seqM (varM 1)) (setM 2) (rt true) (stepL (callM p_is_set (consM (varM 2) (consM (varM 0) (rt []))))) [2]))))))
def p_are_suspects : Fn := runF 3 2 b_are_suspects
theorem p_are_suspects_len : ∀ ds s, p_are_suspects ds s ≠ .bad → ds.length = 2 := fun ds s h => runF_len ds s h
def b_are_rows : SM := seqS (ifS (orT (notM (boolM (isiM [.tuple] (bvarM 1)))) (notM (boolM (chainM leD leD (toB (rt (.int 1))) (toB (op1M lenD (bvarM 1))) (toB (op2M addD (toB (rt (.int 8))) (toB (rt (.int 1))))))))) (retS (rt (.bl false))) (.nx)) (seqS (ifS (notM (boolM (op1M allD (toB (frz (compM (.lst []) (seqM (varM 1)) (setM 2) (rt true) (stepL (callM p_are_suspects (consM (op1M lenD (bvarM 0)) (consM (varM 2) (rt []))))) [2])))))) (retS (rt (.bl false))) (.nx)) (retS (op2M ltD (toB (op1M maxD (toB (op2M addD (toB (frz (lstM (consM (rt (.int 0)) (rt []))))) (toB (frz (compM (.lst []) (seqM (varM 0)) (setM 3) (boolM (op2M (isD true) (bvarM 3) (toB (rt .non)))) (stepL (varM 3)) [3]))))))) (toB (op1M lenD (bvarM 1))))))
def p_are_rows : Fn := runF 4 2 b_are_rows
theorem p_are_rows_len : ∀ ds s, p_are_rows ds s ≠ .bad → ds.length = 2 := fun ds s h => runF_len ds s h
def b_Watch___init__ : SM := seqS (ifS (notM (boolM (callM p_are_stops (consM (varM 1) (rt []))))) (badS) (.nx)) (seqS (ifS (notM (boolM (callM p_are_rows (consM (varM 1) (consM (varM 2) (rt [])))))) (badS) (.nx)) (seqS (setF cls_stops 0 "stops" (varM 1)) (setF cls_rows 0 "rows" (varM 2))))
def p_Watch___init__ : FnI := runI 3 2 "Watch" b_Watch___init__
theorem p_Watch___init___len : ∀ ds s, p_Watch___init__ ds s ≠ .bad → ds.length = 2 := fun ds s h => runI_len ds s h
def b_Watch___eq__ : SM := retS (andV (boolM (op1M (isoB "Watch" cls_all) (bvarM 1))) (andV (boolM (op2M eqD (toB (op1M (attrD cls_stops "stops") (bvarM 0))) (toB (op1M (attrD cls_stops "stops") (bvarM 1))))) (op2M eqD (toB (op1M (attrD cls_rows "rows") (bvarM 0))) (toB (op1M (attrD cls_rows "rows") (bvarM 1))))))
def p_Watch___eq__ : Fn := runF 2 2 b_Watch___eq__
theorem p_Watch___eq___len : ∀ ds s, p_Watch___eq__ ds s ≠ .bad → ds.length = 2 := fun ds s h => runF_len ds s h
def b_up_at : SM := retS (frz (compM (.lst []) (enumA (consM (op1M (attrD cls_stops "stops") (bvarM 0)) (rt []))) (tupA 2 (consT (setM 2) (consT (setM 3) nilT))) (orT (boolM (op2M (isD false) (bvarM 3) (toB (rt .non)))) (boolM (op2M gtD (bvarM 3) (bvarM 1)))) (stepL (varM 2)) [2, 3]))
def p_up_at : Fn := runF 4 2 b_up_at
theorem p_up_at_len : ∀ ds s, p_up_at ds s ≠ .bad → ds.length = 2 := fun ds s h => runF_len ds s h
def b_lasting : SM := retS (frz (compM (.lst []) (enumA (consM (op1M (attrD cls_stops "stops") (bvarM 0)) (rt []))) (tupA 2 (consT (setM 1) (consT (setM 2) nilT))) (boolM (op2M (isD false) (bvarM 2) (toB (rt .non)))) (stepL (varM 1)) [1, 2]))
def p_lasting : Fn := runF 3 1 b_lasting
theorem p_lasting_len : ∀ ds s, p_lasting ds s ≠ .bad → ds.length = 1 := fun ds s h => runF_len ds s h
def b_suspected_by : SM := retS (frz (compM (.lst []) (seqM (varM 2)) (setM 3) (boolM (op2M (inD false) (bvarM 1) (toB (op2M ixD (bvarM 0) (bvarM 3))))) (stepL (varM 3)) [3]))
def p_suspected_by : Fn := runF 4 3 b_suspected_by
theorem p_suspected_by_len : ∀ ds s, p_suspected_by ds s ≠ .bad → ds.length = 3 := fun ds s h => runF_len ds s h
def b_is_complete : SM := seqS (asgS (frzL (compM (.lst []) (enumA (consM (op1M (attrD cls_stops "stops") (bvarM 0)) (rt []))) (tupA 2 (consT (setM 5) (consT (setM 6) nilT))) (boolM (op2M (isD true) (bvarM 6) (toB (rt .non)))) (stepL (varM 5)) [5, 6])) (setM 2)) (seqS (asgS (frzL (compM (.lst []) (seqM (varM 2)) (setM 5) (rt true) (stepL (op1M lenD (toB (callM p_suspected_by (consM (op2M ixD (toB (op1M (attrD cls_rows "rows") (bvarM 0))) (toB (op1M negD (toB (rt (.int 1)))))) (consM (varM 5) (consM (callM p_lasting (consM (varM 0) (rt []))) (rt [])))))))) [5])) (setM 3)) (seqS (asgS (ifM (boolM (varM 1)) (rt (.int 1)) (op1M lenD (toB (callM p_lasting (consM (varM 0) (rt [])))))) (setM 4)) (retS (op1M allD (toB (frz (compM (.lst []) (seqM (varM 3)) (setM 7) (rt true) (stepL (op2M geD (bvarM 7) (bvarM 4))) [7])))))))
def p_is_complete : Fn := runF 8 2 b_is_complete
theorem p_is_complete_len : ∀ ds s, p_is_complete ds s ≠ .bad → ds.length = 2 := fun ds s h => runF_len ds s h
def l_is_spared_0 : SM := seqS (asgS (callM p_up_at (consM (varM 0) (consM (varM 3) (rt [])))) (setM 5)) (ifS (andT (boolM (op2M (inD false) (bvarM 1) (bvarM 5))) (boolM (op2M neD (toB (callM p_suspected_by (consM (varM 4) (consM (varM 1) (consM (varM 5) (rt [])))))) (toB (frz (lstM (rt []))))))) (retS (rt (.bl false))) (.nx))
def b_is_spared : SM := seqS (ifS (boolM (varM 2)) (retS (op2M eqD (toB (callM p_suspected_by (consM (op2M ixD (toB (op1M (attrD cls_rows "rows") (bvarM 0))) (toB (op1M negD (toB (rt (.int 1)))))) (consM (varM 1) (consM (callM p_lasting (consM (varM 0) (rt []))) (rt [])))))) (toB (frz (lstM (rt [])))))) (.nx)) (seqS (forS (enumA (consM (op1M (attrD cls_rows "rows") (bvarM 0)) (rt []))) (tupA 2 (consT (setM 3) (consT (setM 4) nilT))) (l_is_spared_0)) (retS (rt (.bl true))))
def p_is_spared : Fn := runF 6 3 b_is_spared
theorem p_is_spared_len : ∀ ds s, p_is_spared ds s ≠ .bad → ds.length = 3 := fun ds s h => runF_len ds s h
def b_has_accuracy : SM := seqS (asgS (ifM (orT (boolM (varM 1)) (boolM (varM 2))) (callM p_lasting (consM (varM 0) (rt []))) (frz ((bnd (rg1M (toB (op1M lenD (toB (op1M (attrD cls_stops "stops") (bvarM 0)))))) fun r => rt (.lst (rgL r.1 r.2)))))) (setM 3)) (seqS (asgS (frzL (compM (.lst []) (seqM (varM 3)) (setM 5) (rt true) (stepL (callM p_is_spared (consM (varM 0) (consM (varM 5) (consM (varM 2) (rt [])))))) [5])) (setM 4)) (retS (ifM (boolM (varM 1)) (op1M anyD (bvarM 4)) (op1M allD (bvarM 4)))))
def p_has_accuracy : Fn := runF 6 3 b_has_accuracy
theorem p_has_accuracy_len : ∀ ds s, p_has_accuracy ds s ≠ .bad → ds.length = 3 := fun ds s h => runF_len ds s h
def b_has_name : SM := seqS (ifS (boolM (op2M (inD false) (bvarM 1) (toB (tupM (consM (rt (.str ("complete" : Str))) (consM (rt (.str ("weakly complete" : Str))) (rt []))))))) (retS (callM p_is_complete (consM (varM 0) (consM (op2M eqD (bvarM 1) (toB (rt (.str ("weakly complete" : Str))))) (rt []))))) (.nx)) (retS (callM p_has_accuracy (consM (varM 0) (consM (op2M (inD false) (toB (rt (.str ("weakly" : Str)))) (bvarM 1)) (consM (op2M (inD false) (toB (rt (.str ("later" : Str)))) (bvarM 1)) (rt []))))))
def p_has_name : Fn := runF 2 2 b_has_name
theorem p_has_name_len : ∀ ds s, p_has_name ds s ≠ .bad → ds.length = 2 := fun ds s h => runF_len ds s h
def b_watch_has : SM := seqS (ifS (orT (notM (boolM (isiM [.str] (bvarM 1)))) (boolM (op2M (inD true) (bvarM 1) (toB (rt (.tup [.str ("complete" : Str), .str ("weakly complete" : Str), .str ("accurate" : Str), .str ("weakly accurate" : Str), .str ("later accurate" : Str), .str ("later weakly accurate" : Str)])))))) (badS) (.nx)) (retS (callM p_has_name (consM (varM 0) (consM (varM 1) (rt [])))))
def p_watch_has : Fn := runF 2 2 b_watch_has
theorem p_watch_has_len : ∀ ds s, p_watch_has ds s ≠ .bad → ds.length = 2 := fun ds s h => runF_len ds s h
def b_watch_class : SM := seqS (ifS (notM (boolM (callM p_has_name (consM (varM 0) (consM (rt (.str ("complete" : Str))) (rt [])))))) (retS (rt (.str ("none" : Str)))) (.nx)) (seqS (asgS (frzL (compM (.lst []) (zipM (consM (rt (.tup [.str ("P" : Str), .str ("S" : Str), .str ("later P" : Str), .str ("later S" : Str)])) (consM (sliceM (toB (rt (.tup [.str ("complete" : Str), .str ("weakly complete" : Str), .str ("accurate" : Str), .str ("weakly accurate" : Str), .str ("later accurate" : Str), .str ("later weakly accurate" : Str)]))) (partM (rt (.int 2))) (rt none)) (rt [])))) (tupA 2 (consT (setM 2) (consT (setM 3) nilT))) (boolM (callM p_has_name (consM (varM 0) (consM (varM 3) (rt []))))) (stepL (varM 2)) [2, 3])) (setM 1)) (retS (ifM (boolM (op2M neD (bvarM 1) (toB (frz (lstM (rt [])))))) (op2M ixD (bvarM 1) (toB (rt (.int 0)))) (rt (.str ("none" : Str))))))
def p_watch_class : Fn := runF 4 1 b_watch_class
theorem p_watch_class_len : ∀ ds s, p_watch_class ds s ≠ .bad → ds.length = 1 := fun ds s h => runF_len ds s h
def b_shared_row : SM := seqS (asgS (callM p_up_at (consM (varM 0) (consM (varM 1) (rt [])))) (setM 3)) (seqS (asgS (frzL (compM (.lst []) (rg1S (consM (op1M lenD (bvarM 2)) (rt []))) (setM 5) (andT (boolM (op2M (inD true) (bvarM 5) (bvarM 3))) (boolM (op2M neD (toB (callM p_suspected_by (consM (varM 2) (consM (varM 5) (consM (varM 3) (rt [])))))) (toB (frz (lstM (rt []))))))) (stepL (varM 5)) [5])) (setM 4)) (retS (op1M tupleD (toB (frz (compM (.lst []) (rg1S (consM (op1M lenD (bvarM 2)) (rt []))) (setM 5) (rt true) (stepL (ifM (boolM (op2M (inD false) (bvarM 5) (bvarM 3))) (op1M tupleD (bvarM 4)) (tupM (rt [])))) [5]))))))
def p_shared_row : Fn := runF 6 3 b_shared_row
theorem p_shared_row_len : ∀ ds s, p_shared_row ds s ≠ .bad → ds.length = 3 := fun ds s h => runF_len ds s h
def b_shared_watch : SM := retS (makeK "Watch" p_Watch___init__ 2 0 [0, 1] (consM (op1M (attrD cls_stops "stops") (bvarM 0)) (consM (op1M tupleD (toB (frz (compM (.lst []) (enumA (consM (op1M (attrD cls_rows "rows") (bvarM 0)) (rt []))) (tupA 2 (consT (setM 1) (consT (setM 2) nilT))) (rt true) (stepL (callM p_shared_row (consM (varM 0) (consM (varM 1) (consM (varM 2) (rt [])))))) [1, 2])))) (rt []))) (rt []))
def p_shared_watch : Fn := runF 3 1 b_shared_watch
theorem p_shared_watch_len : ∀ ds s, p_shared_watch ds s ≠ .bad → ds.length = 1 := fun ds s h => runF_len ds s h
def b_leader_in : SM := seqS (asgS (frzL (compM (.lst []) (rg1S (consM (op1M lenD (bvarM 0)) (rt []))) (setM 3) (boolM (op2M (inD true) (bvarM 3) (toB (op2M ixD (bvarM 0) (bvarM 1))))) (stepL (varM 3)) [3])) (setM 2)) (retS (ifM (boolM (op2M neD (bvarM 2) (toB (frz (lstM (rt [])))))) (op2M ixD (bvarM 2) (toB (rt (.int 0)))) (rt .non)))
def p_leader_in : Fn := runF 4 2 b_leader_in
theorem p_leader_in_len : ∀ ds s, p_leader_in ds s ≠ .bad → ds.length = 2 := fun ds s h => runF_len ds s h
def b_leader_at : SM := seqS (ifS (notM (boolM (callM p_is_between (consM (varM 1) (consM (rt (.int 0)) (consM (rt (.int 1000)) (rt []))))))) (badS) (.nx)) (seqS (ifS (notM (boolM (callM p_is_between (consM (varM 2) (consM (rt (.int 0)) (consM (op2M subD (toB (op1M lenD (toB (op1M (attrD cls_stops "stops") (bvarM 0))))) (toB (rt (.int 1)))) (rt []))))))) (badS) (.nx)) (retS (callM p_leader_in (consM (op2M ixD (toB (op1M (attrD cls_rows "rows") (bvarM 0))) (toB (op1M minD (toB (frz (lstM (consM (varM 1) (consM (op2M subD (toB (op1M lenD (toB (op1M (attrD cls_rows "rows") (bvarM 0))))) (toB (rt (.int 1)))) (rt []))))))))) (consM (varM 2) (rt []))))))
def p_leader_at : Fn := runF 3 3 b_leader_at
theorem p_leader_at_len : ∀ ds s, p_leader_at ds s ≠ .bad → ds.length = 3 := fun ds s h => runF_len ds s h
def b_settles : SM := seqS (asgS (callM p_lasting (consM (varM 0) (rt []))) (setM 1)) (seqS (asgS (callM p_leader_in (consM (op2M ixD (toB (op1M (attrD cls_rows "rows") (bvarM 0))) (toB (op1M negD (toB (rt (.int 1)))))) (consM (op2M ixD (bvarM 1) (toB (rt (.int 0)))) (rt [])))) (setM 2)) (seqS (ifS (boolM (op2M (inD true) (bvarM 2) (bvarM 1))) (retS (rt .non)) (.nx)) (seqS (asgS (frzL (compM (.lst []) (seqM (op1M (attrD cls_rows "rows") (bvarM 0))) (setM 4) (rt true) (stepL (op1M allD (toB (frz (compM (.lst []) (seqM (varM 1)) (setM 5) (rt true) (stepL (op2M eqD (toB (callM p_leader_in (consM (varM 4) (consM (varM 5) (rt []))))) (bvarM 2))) [5]))))) [4])) (setM 3)) (seqS (ifS (notM (boolM (op2M ixD (bvarM 3) (toB (op1M negD (toB (rt (.int 1)))))))) (retS (rt .non)) (.nx)) (retS (op1M maxD (toB (op2M addD (toB (frz (lstM (consM (rt (.int 0)) (rt []))))) (toB (frz (compM (.lst []) (enumA (consM (varM 3) (rt []))) (tupA 2 (consT (setM 6) (consT (setM 7) nilT))) (notM (boolM (varM 7))) (stepL (op2M addD (bvarM 6) (toB (rt (.int 1))))) [6, 7])))))))))))
def p_settles : Fn := runF 8 1 b_settles
theorem p_settles_len : ∀ ds s, p_settles ds s ≠ .bad → ds.length = 1 := fun ds s h => runF_len ds s h
def b__law_cell : SM := retS (ifM (boolM (op2M ltD (bvarM 1) (toB (op1M lenD (bvarM 0))))) (op2M ixD (bvarM 0) (bvarM 1)) (op2M addD (toB (op2M mulE (toB (rt (.int 7979))) (bvarM 1))) (toB (op2M modD (toB (op1M toIntD (toB (op1M sumD (toB (sliceM (bvarM 0) (rt none) (partM (rt (.int 1))))))))) (toB (rt (.int 1000033)))))))
def p__law_cell : Fn := runF 2 2 b__law_cell
theorem p__law_cell_len : ∀ ds s, p__law_cell ds s ≠ .bad → ds.length = 2 := fun ds s h => runF_len ds s h
def b__law_box : SM := retS (cellM (lstM (consM (op1M absD (bvarM 0)) (consM (op2M geD (toB (op1M absD (bvarM 0))) (toB (op2M powD (toB (rt (.int 10))) (toB (rt (.int 18)))))) (consM (op2M modD (toB (op1M toIntD (toB (op1M absD (bvarM 0))))) (toB (rt (.int 2147483629)))) (consM (rt (.int 0)) (rt [])))))))
def p__law_box : Fn := runF 1 1 b__law_box
theorem p__law_box_len : ∀ ds s, p__law_box ds s ≠ .bad → ds.length = 1 := fun ds s h => runF_len ds s h
def b__law_take : SM := seqS (ifS (andT (boolM (op2M ixD (bvarM 0) (toB (rt (.int 1))))) (boolM (op2M gtD (toB (op2M ixD (bvarM 0) (toB (rt (.int 0))))) (toB (rt (.int 0)))))) (seqS (asgS (op2M modD (toB (op1M toIntD (toB (op2M ixD (bvarM 0) (toB (rt (.int 0))))))) (bvarM 1)) (setM 3)) (seqS (asgS (op2M fdivD (toB (op2M ixD (bvarM 0) (toB (rt (.int 0))))) (bvarM 1)) (subT (varM 0) (rt (.int 0)))) (retS (varM 3)))) (.nx)) (seqS (asgS (op2M addD (toB (op2M ixD (bvarM 0) (toB (rt (.int 3))))) (toB (rt (.int 1)))) (subT (varM 0) (rt (.int 3)))) (seqS (asgS (op2M modD (toB (op1M toIntD (toB (op2M powD (toB (op2M addD (toB (op2M addD (toB (op2M ixD (bvarM 0) (toB (rt (.int 2))))) (toB (op2M mulE (toB (rt (.int 15487371))) (toB (op2M ixD (bvarM 0) (toB (rt (.int 3))))))))) (toB (rt (.int 179424673))))) (toB (rt (.int 5))))))) (toB (rt (.int 2147483647)))) (setM 2)) (retS (op2M modD (toB (op1M toIntD (toB (op2M fdivD (toB (op2M modD (toB (op1M toIntD (toB (op2M powD (toB (op2M addD (toB (op2M mulE (bvarM 2) (toB (rt (.int 48271))))) (toB (op2M mulE (toB (rt (.int 104729))) (toB (op2M ixD (bvarM 0) (toB (rt (.int 3))))))))) (toB (rt (.int 3))))))) (toB (rt (.int 2147483587))))) (toB (rt (.int 64))))))) (bvarM 1)))))
def p__law_take : Fn := runF 4 2 b__law_take
theorem p__law_take_len : ∀ ds s, p__law_take ds s ≠ .bad → ds.length = 2 := fun ds s h => runF_len ds s h
def p__law_same : Nat → Fn
  | 0 => fun _ _ => .bad
  | n + 1 => runF 4 2 (seqS (ifS (boolM (op2M (isD false) (bvarM 1) (toB (rt .non)))) (retS (op2M (isD false) (bvarM 0) (toB (rt .non)))) (.nx)) (seqS (ifS (boolM (isiM [.bool] (bvarM 1))) (retS (andV (boolM (isiM [.bool] (bvarM 0))) (op2M eqD (toB (op2M (isD false) (bvarM 0) (toB (rt (.bl true))))) (toB (op2M (isD false) (bvarM 1) (toB (rt (.bl true)))))))) (.nx)) (seqS (ifS (boolM (isiM [.int] (bvarM 1))) (retS (andV (boolM (isiM [.int] (bvarM 0))) (andV (boolM (notV (boolM (isiM [.bool] (bvarM 0))))) (op2M eqD (toB (op2M subD (toB (op1M toIntD (bvarM 0))) (bvarM 1))) (toB (rt (.int 0))))))) (.nx)) (seqS (ifS (boolM (isiM [.str] (bvarM 1))) (retS (andV (boolM (isiM [.str] (bvarM 0))) (andV (boolM (op2M eqD (toB (op1M lenD (bvarM 0))) (toB (op1M lenD (bvarM 1))))) (op2M eqD (toB (frz (compM (.lst []) (rg1S (consM (op1M lenD (bvarM 1)) (rt []))) (setM 2) (boolM (op2M neD (toB (sliceM (bvarM 0) (partM (varM 2)) (partM (op2M addD (bvarM 2) (toB (rt (.int 1))))))) (toB (op2M ixD (bvarM 1) (bvarM 2))))) (stepL (varM 2)) [2]))) (toB (frz (lstM (rt [])))))))) (.nx)) (seqS (ifS (boolM (isiM [.dict] (bvarM 1))) (retS (andV (boolM (isiM [.dict] (bvarM 0))) (andV (boolM (op2M eqD (toB (op1M lenD (bvarM 0))) (toB (op1M lenD (bvarM 1))))) (op2M eqD (toB (frz (compM (.lst []) (keysM (varM 1)) (setM 3) (orT (boolM (op2M (inD true) (bvarM 3) (bvarM 0))) (notM (boolM (callM (p__law_same n) (consM (op2M ixD (bvarM 0) (bvarM 3)) (consM (op2M ixD (bvarM 1) (bvarM 3)) (rt []))))))) (stepL (varM 3)) [3]))) (toB (frz (lstM (rt [])))))))) (.nx)) (seqS (ifS (orT (notM (boolM (isiM [.list, .tuple] (bvarM 1)))) (notM (boolM (isiM [.list, .tuple] (bvarM 0))))) (retS (rt (.bl false))) (.nx)) (seqS (ifS (orT (boolM (op2M neD (toB (isiM [.list] (bvarM 0))) (toB (isiM [.list] (bvarM 1))))) (boolM (op2M neD (toB (op1M lenD (bvarM 0))) (toB (op1M lenD (bvarM 1)))))) (retS (rt (.bl false))) (.nx)) (retS (op2M eqD (toB (frz (compM (.lst []) (rg1S (consM (op1M lenD (bvarM 1)) (rt []))) (setM 2) (notM (boolM (callM (p__law_same n) (consM (op2M ixD (bvarM 0) (bvarM 2)) (consM (op2M ixD (bvarM 1) (bvarM 2)) (rt [])))))) (stepL (varM 2)) [2]))) (toB (frz (lstM (rt [])))))))))))))
theorem p__law_same_len : ∀ n ds s, p__law_same n ds s ≠ .bad → ds.length = 2
  | 0, _, _, h => absurd rfl h
  | _ + 1, ds, s, h => runF_len ds s h
def l__law_some_watch_0 : SM := seqS (asgS (frzL (compM (.lst []) (rg1S (consM (varM 1) (rt []))) (setM 12) (andT (boolM (op2M (isD true) (toB (op2M ixD (bvarM 3) (bvarM 12))) (toB (rt .non)))) (boolM (op2M leD (toB (op2M ixD (bvarM 3) (bvarM 12))) (bvarM 7)))) (stepL (varM 12)) [12])) (setM 10)) (seqS (asgS (frzL (compM (.lst []) (rg1S (consM (varM 1) (rt []))) (setM 12) (boolM (op2M eqD (toB (callM p__law_take (consM (varM 0) (consM (rt (.int 3)) (rt []))))) (toB (rt (.int 0))))) (stepL (varM 12)) [12])) (setM 11)) (seqS (ifS (boolM (op2M eqD (bvarM 4) (toB (rt (.int 0))))) (asgS (varM 10) (setM 11)) (ifS (boolM (op2M eqD (bvarM 4) (toB (rt (.int 1))))) (asgS (frz (op1F sortSetD (toB (op2M addD (bvarM 10) (toB (frz (compM (.lst []) (seqM (varM 11)) (setM 12) (boolM (op2M neD (bvarM 12) (bvarM 6))) (stepL (varM 12)) [12]))))))) (setM 11)) (ifS (boolM (op2M eqD (bvarM 4) (toB (rt (.int 2))))) (asgS (ifM (boolM (op2M eqD (bvarM 7) (toB (op2M subD (bvarM 2) (toB (rt (.int 1))))))) (varM 10) (varM 11)) (setM 11)) (ifS (boolM (op2M eqD (bvarM 4) (toB (rt (.int 3))))) (asgS (ifM (boolM (op2M eqD (bvarM 7) (toB (op2M subD (bvarM 2) (toB (rt (.int 1))))))) (frz (op1F sortSetD (toB (op2M addD (bvarM 10) (toB (frz (compM (.lst []) (seqM (varM 11)) (setM 12) (boolM (op2M neD (bvarM 12) (bvarM 6))) (stepL (varM 12)) [12]))))))) (varM 11)) (setM 11)) (ifS (boolM (op2M eqD (bvarM 4) (toB (rt (.int 4))))) (asgS (frzL (compM (.lst []) (seqM (varM 10)) (setM 12) (orT (boolM (op2M eqD (toB (op2M modD (toB (op1M toIntD (toB (op2M addD (bvarM 12) (bvarM 9))))) (toB (rt (.int 2))))) (toB (rt (.int 0))))) (boolM (op2M eqD (toB (callM p__law_take (consM (varM 0) (consM (rt (.int 2)) (rt []))))) (toB (rt (.int 0)))))) (stepL (varM 12)) [12])) (setM 11)) (.nx)))))) (exprS (appM (varM 8) (op1M tupleD (bvarM 11))))))
def l__law_some_watch_1 : SM := seqS (asgS (cellM (lstM (rt []))) (setM 8)) (seqS (forS (rg1S (consM (varM 1) (rt []))) (setM 9) (l__law_some_watch_0)) (exprS (appM (varM 5) (op1M tupleD (bvarM 8)))))
def b__law_some_watch : SM := seqS (asgS (tupM (consM (op2M addD (toB (rt (.int 2))) (toB (callM p__law_take (consM (varM 0) (consM (rt (.int 3)) (rt [])))))) (consM (op2M addD (toB (rt (.int 1))) (toB (callM p__law_take (consM (varM 0) (consM (op2M ixD (toB (frz (lstM (consM (rt (.int 3)) (consM (rt (.int 5)) (consM (rt (.int 9)) (rt []))))))) (toB (callM p__law_take (consM (varM 0) (consM (rt (.int 3)) (rt [])))))) (rt [])))))) (rt [])))) (tupA 2 (consT (setM 1) (consT (setM 2) nilT)))) (seqS (asgS (cellM (compM (.lst []) (rg1S (consM (varM 1) (rt []))) (setM 9) (rt true) (stepL (ifM (boolM (op2M eqD (toB (callM p__law_take (consM (varM 0) (consM (rt (.int 2)) (rt []))))) (toB (rt (.int 0))))) (callM p__law_take (consM (varM 0) (consM (varM 2) (rt [])))) (rt .non))) [9])) (setM 3)) (seqS (asgS (rt .non) (subT (varM 3) (callM p__law_take (consM (varM 0) (consM (varM 1) (rt [])))))) (seqS (parS (consM (callM p__law_take (consM (varM 0) (consM (rt (.int 6)) (rt [])))) (consM (cellM (lstM (rt []))) (rt []))) (par2 4 5)) (seqS (asgS (callM p__law_take (consM (varM 0) (consM (varM 1) (rt [])))) (setM 6)) (seqS (forS (rg1S (consM (varM 2) (rt []))) (setM 7) (l__law_some_watch_1)) (retS (frz (lstM (consM (op1M tupleD (bvarM 3)) (consM (op1M tupleD (bvarM 5)) (rt [])))))))))))
def p__law_some_watch : Fn := runF 13 1 b__law_some_watch
theorem p__law_some_watch_len : ∀ ds s, p__law_some_watch ds s ≠ .bad → ds.length = 1 := fun ds s h => runF_len ds s h
def b__law_up : SM := retS (orV (boolM (op2M (isD false) (toB (op2M ixD (bvarM 0) (bvarM 1))) (toB (rt .non)))) (op2M ltD (bvarM 2) (toB (op2M ixD (bvarM 0) (bvarM 1)))))
def p__law_up : Fn := runF 3 3 b__law_up
theorem p__law_up_len : ∀ ds s, p__law_up ds s ≠ .bad → ds.length = 3 := fun ds s h => runF_len ds s h
def l__law_has_0 : SM := ifS (boolM (callM p__law_up (consM (varM 2) (consM (varM 9) (consM (varM 12) (rt [])))))) (asgS (op2M addD (bvarM 11) (toB (frz (compM (.lst []) (rg1S (consM (varM 4) (rt []))) (setM 13) (andT (boolM (callM p__law_up (consM (varM 2) (consM (varM 13) (consM (varM 12) (rt [])))))) (boolM (op2M (inD false) (bvarM 9) (toB (op2M ixD (toB (op2M ixD (bvarM 3) (bvarM 12))) (bvarM 13)))))) (stepL (rt (.int 1))) [13])))) (setM 11)) (.nx)
def l__law_has_1 : SM := seqS (asgS (frz (lstM (consM (rt (.int 0)) (rt [])))) (setM 11)) (seqS (forS (rg1S (consM (op2M addD (bvarM 5) (toB (rt (.int 1)))) (rt []))) (setM 12) (l__law_has_0)) (ifS (boolM (op2M eqD (bvarM 11) (toB (frz (lstM (consM (rt (.int 0)) (rt []))))))) (exprS (appM (varM 8) (varM 9))) (.nx)))
def b__law_has : SM := seqS (asgS (varM 0) (tupA 2 (consT (setM 2) (consT (setM 3) nilT)))) (seqS (asgS (tupM (consM (op1M lenD (bvarM 2)) (consM (op2M subD (toB (op1M lenD (bvarM 3))) (toB (rt (.int 1)))) (rt [])))) (tupA 2 (consT (setM 4) (consT (setM 5) nilT)))) (seqS (asgS (frzL (compM (.lst []) (rg1S (consM (varM 4) (rt []))) (setM 13) (boolM (op2M (isD false) (toB (op2M ixD (bvarM 2) (bvarM 13))) (toB (rt .non)))) (stepL (varM 13)) [13])) (setM 6)) (seqS (asgS (frzL (compM (.lst []) (rg1S (consM (varM 4) (rt []))) (setM 13) (boolM (op2M (isD true) (toB (op2M ixD (bvarM 2) (bvarM 13))) (toB (rt .non)))) (stepL (varM 13)) [13])) (setM 7)) (seqS (ifS (boolM (op2M eqD (bvarM 1) (toB (rt (.str ("complete" : Str)))))) (retS (op2M eqD (toB (frz (compM (.lst []) (seqM (varM 7)) (setM 9) (boolM (op2M neD (toB (frz (compM (.lst []) (seqM (varM 6)) (setM 13) (boolM (op2M (inD true) (bvarM 9) (toB (op2M ixD (toB (op2M ixD (bvarM 3) (bvarM 5))) (bvarM 13))))) (stepL (varM 13)) [13]))) (toB (frz (lstM (rt [])))))) (stepL (varM 9)) [9]))) (toB (frz (lstM (rt [])))))) (.nx)) (seqS (ifS (boolM (op2M eqD (bvarM 1) (toB (rt (.str ("weakly complete" : Str)))))) (retS (op2M eqD (toB (frz (compM (.lst []) (seqM (varM 7)) (setM 9) (boolM (op2M eqD (toB (frz (compM (.lst []) (seqM (varM 6)) (setM 13) (boolM (op2M (inD false) (bvarM 9) (toB (op2M ixD (toB (op2M ixD (bvarM 3) (bvarM 5))) (bvarM 13))))) (stepL (varM 13)) [13]))) (toB (frz (lstM (rt [])))))) (stepL (varM 9)) [9]))) (toB (frz (lstM (rt [])))))) (.nx)) (seqS (asgS (cellM (lstM (rt []))) (setM 8)) (seqS (forS (rg1S (consM (varM 4) (rt []))) (setM 9) (l__law_has_1)) (seqS (ifS (boolM (op2M eqD (bvarM 1) (toB (rt (.str ("accurate" : Str)))))) (retS (op2M eqD (toB (op1M lenD (bvarM 8))) (bvarM 4))) (.nx)) (seqS (ifS (boolM (op2M eqD (bvarM 1) (toB (rt (.str ("weakly accurate" : Str)))))) (retS (op2M neD (toB (frz (compM (.lst []) (seqM (varM 8)) (setM 9) (boolM (op2M (inD false) (bvarM 9) (bvarM 6))) (stepL (varM 9)) [9]))) (toB (frz (lstM (rt [])))))) (.nx)) (seqS (asgS (frzL (compM (.lst []) (seqM (varM 6)) (setM 9) (boolM (op2M eqD (toB (frz (compM (.lst []) (seqM (varM 6)) (setM 13) (boolM (op2M (inD false) (bvarM 9) (toB (op2M ixD (toB (op2M ixD (bvarM 3) (bvarM 5))) (bvarM 13))))) (stepL (varM 13)) [13]))) (toB (frz (lstM (rt [])))))) (stepL (varM 9)) [9])) (setM 10)) (retS (ifM (boolM (op2M eqD (bvarM 1) (toB (rt (.str ("later accurate" : Str)))))) (op2M eqD (toB (op1M lenD (bvarM 10))) (toB (op1M lenD (bvarM 6)))) (op2M neD (bvarM 10) (toB (frz (lstM (rt [])))))))))))))))))
def p__law_has : Fn := runF 14 2 b__law_has
theorem p__law_has_len : ∀ ds s, p__law_has ds s ≠ .bad → ds.length = 2 := fun ds s h => runF_len ds s h
def l__law_class_0 : SM := ifS (boolM (callM p__law_has (consM (varM 0) (consM (varM 2) (rt []))))) (retS (varM 1)) (.nx)
def b__law_class : SM := seqS (ifS (notM (boolM (callM p__law_has (consM (varM 0) (consM (rt (.str ("complete" : Str))) (rt [])))))) (retS (rt (.str ("none" : Str)))) (.nx)) (seqS (forS (seqM (frz (lstM (consM (tupM (consM (rt (.str ("P" : Str))) (consM (rt (.str ("accurate" : Str))) (rt [])))) (consM (tupM (consM (rt (.str ("S" : Str))) (consM (rt (.str ("weakly accurate" : Str))) (rt [])))) (consM (tupM (consM (rt (.str ("later P" : Str))) (consM (rt (.str ("later accurate" : Str))) (rt [])))) (consM (tupM (consM (rt (.str ("later S" : Str))) (consM (rt (.str ("later weakly accurate" : Str))) (rt [])))) (rt [])))))))) (tupA 2 (consT (setM 1) (consT (setM 2) nilT))) (l__law_class_0)) (retS (rt (.str ("none" : Str)))))
def p__law_class : Fn := runF 3 1 b__law_class
theorem p__law_class_len : ∀ ds s, p__law_class ds s ≠ .bad → ds.length = 1 := fun ds s h => runF_len ds s h
def l__law_shared_0 : SM := seqS (asgS (frzL (compM (.lst []) (rg1S (consM (varM 3) (rt []))) (setM 8) (boolM (callM p__law_up (consM (varM 1) (consM (varM 8) (consM (varM 5) (rt [])))))) (stepL (varM 8)) [8])) (setM 6)) (seqS (asgS (op1M tupleD (toB (frz (compM (.lst []) (rg1S (consM (varM 3) (rt []))) (setM 9) (andT (boolM (op2M (inD true) (bvarM 9) (bvarM 6))) (boolM (op2M neD (toB (frz (compM (.lst []) (seqM (varM 6)) (setM 8) (boolM (op2M (inD false) (bvarM 9) (toB (op2M ixD (toB (op2M ixD (bvarM 2) (bvarM 5))) (bvarM 8))))) (stepL (varM 8)) [8]))) (toB (frz (lstM (rt []))))))) (stepL (varM 9)) [9])))) (setM 7)) (exprS (appM (varM 4) (op1M tupleD (toB (frz (compM (.lst []) (rg1S (consM (varM 3) (rt []))) (setM 8) (rt true) (stepL (ifM (boolM (op2M (inD false) (bvarM 8) (bvarM 6))) (varM 7) (tupM (rt [])))) [8])))))))
def b__law_shared : SM := seqS (asgS (varM 0) (tupA 2 (consT (setM 1) (consT (setM 2) nilT)))) (seqS (parS (consM (op1M lenD (bvarM 1)) (consM (cellM (lstM (rt []))) (rt []))) (par2 3 4)) (seqS (forS (rg1S (consM (op1M lenD (bvarM 2)) (rt []))) (setM 5) (l__law_shared_0)) (retS (frz (lstM (consM (varM 1) (consM (op1M tupleD (bvarM 4)) (rt []))))))))
def p__law_shared : Fn := runF 10 1 b__law_shared
theorem p__law_shared_len : ∀ ds s, p__law_shared ds s ≠ .bad → ds.length = 1 := fun ds s h => runF_len ds s h
def b__law_leader_of : SM := seqS (asgS (op2M ixD (toB (op2M ixD (toB (op2M ixD (bvarM 0) (toB (rt (.int 1))))) (toB (op2M min2D (bvarM 1) (toB (op2M subD (toB (op1M lenD (toB (op2M ixD (bvarM 0) (toB (rt (.int 1))))))) (toB (rt (.int 1))))))))) (bvarM 2)) (setM 3)) (seqS (asgS (frzL (compM (.lst []) (rg1S (consM (op1M lenD (toB (op2M ixD (bvarM 0) (toB (rt (.int 0)))))) (rt []))) (setM 5) (boolM (op2M (inD true) (bvarM 5) (bvarM 3))) (stepL (varM 5)) [5])) (setM 4)) (retS (ifM (boolM (op2M neD (bvarM 4) (toB (frz (lstM (rt [])))))) (op2M ixD (bvarM 4) (toB (rt (.int 0)))) (rt .non))))
def p__law_leader_of : Fn := runF 6 3 b__law_leader_of
theorem p__law_leader_of_len : ∀ ds s, p__law_leader_of ds s ≠ .bad → ds.length = 3 := fun ds s h => runF_len ds s h
def l__law_settles_0 : SM := seqS (asgS (frzL (compM (.lst []) (seqM (varM 3)) (setM 9) (rt true) (stepL (callM p__law_leader_of (consM (varM 0) (consM (varM 5) (consM (varM 9) (rt [])))))) [9])) (setM 7)) (seqS (asgS (op2M ixD (bvarM 7) (toB (rt (.int 0)))) (setM 8)) (exprS (appM (varM 4) (ifM (andT (boolM (op2M (isD true) (bvarM 8) (toB (rt .non)))) (andT (boolM (op2M (inD false) (bvarM 8) (bvarM 3))) (boolM (op2M eqD (toB (frz (compM (.lst []) (seqM (varM 7)) (setM 10) (boolM (op2M neD (bvarM 10) (bvarM 8))) (stepL (varM 10)) [10]))) (toB (frz (lstM (rt [])))))))) (varM 8) (rt .non)))))
def l__law_settles_1 : SM := asgS (op2M subD (bvarM 6) (toB (rt (.int 1)))) (setM 6)
def b__law_settles : SM := seqS (asgS (tupM (consM (op2M ixD (bvarM 0) (toB (rt (.int 0)))) (consM (op2M subD (toB (op1M lenD (toB (op2M ixD (bvarM 0) (toB (rt (.int 1))))))) (toB (rt (.int 1)))) (rt [])))) (tupA 2 (consT (setM 1) (consT (setM 2) nilT)))) (seqS (asgS (frzL (compM (.lst []) (rg1S (consM (op1M lenD (bvarM 1)) (rt []))) (setM 9) (boolM (op2M (isD false) (toB (op2M ixD (bvarM 1) (bvarM 9))) (toB (rt .non)))) (stepL (varM 9)) [9])) (setM 3)) (seqS (asgS (cellM (lstM (rt []))) (setM 4)) (seqS (forS (rg1S (consM (op2M addD (bvarM 2) (toB (rt (.int 1)))) (rt []))) (setM 5) (l__law_settles_0)) (seqS (ifS (boolM (op2M (isD false) (toB (op2M ixD (bvarM 4) (bvarM 2))) (toB (rt .non)))) (retS (rt .non)) (.nx)) (seqS (asgS (varM 2) (setM 6)) (seqS (whileGo (andT (boolM (op2M gtD (bvarM 6) (toB (rt (.int 0))))) (andT (boolM (op2M (isD true) (toB (op2M ixD (bvarM 4) (toB (op2M subD (bvarM 6) (toB (rt (.int 1))))))) (toB (rt .non)))) (boolM (op2M eqD (toB (op2M ixD (bvarM 4) (toB (op2M subD (bvarM 6) (toB (rt (.int 1))))))) (toB (op2M ixD (bvarM 4) (bvarM 2))))))) (l__law_settles_1) 1000000) (retS (varM 6))))))))
def p__law_settles : Fn := runF 11 1 b__law_settles
theorem p__law_settles_len : ∀ ds s, p__law_settles ds s ≠ .bad → ds.length = 1 := fun ds s h => runF_len ds s h
def b__law_made : SM := retS (ifM (boolM (varM 1)) (makeK "Watch" p_Watch___init__ 2 0 [0, 1] (consM (op2M ixD (bvarM 0) (toB (rt (.int 0)))) (consM (op2M ixD (bvarM 0) (toB (rt (.int 1)))) (rt []))) (rt [])) (makeK "Watch" p_Watch___init__ 0 2 [1, 0] (rt []) (consM (op2M ixD (bvarM 0) (toB (rt (.int 1)))) (consM (op2M ixD (bvarM 0) (toB (rt (.int 0)))) (rt [])))))
def p__law_made : Fn := runF 2 2 b__law_made
theorem p__law_made_len : ∀ ds s, p__law_made ds s ≠ .bad → ds.length = 2 := fun ds s h => runF_len ds s h
def b__law_shared_right : SM := seqS (asgS (callM p__law_shared (consM (varM 0) (rt []))) (setM 3)) (seqS (asgS (ifM (boolM (varM 2)) (callM p_shared_watch (consM (varM 1) (rt []))) (callK p_shared_watch 0 1 [0] (rt []) (consM (varM 1) (rt [])))) (setM 4)) (seqS (ifS (orT (notM (boolM (op1M (isoB "Watch" cls_all) (bvarM 4)))) (notM (boolM (callM (p__law_same 6) (consM (frz (lstM (consM (op1M (attrD cls_stops "stops") (bvarM 4)) (consM (op1M (attrD cls_rows "rows") (bvarM 4)) (rt []))))) (consM (varM 3) (rt []))))))) (retS (rt (.bl false))) (.nx)) (seqS (asgS (callM p__law_has (consM (varM 0) (consM (rt (.str ("weakly complete" : Str))) (rt [])))) (setM 5)) (seqS (ifS (notM (boolM (callM (p__law_same 6) (consM (frz (lstM (consM (callM p_watch_has (consM (varM 4) (consM (rt (.str ("accurate" : Str))) (rt [])))) (consM (callM p_watch_has (consM (varM 4) (consM (rt (.str ("complete" : Str))) (rt [])))) (consM (callM p_watch_class (consM (varM 4) (rt []))) (rt [])))))) (consM (frz (lstM (consM (rt (.bl true)) (consM (varM 5) (consM (ifM (boolM (varM 5)) (rt (.str ("P" : Str))) (rt (.str ("none" : Str)))) (rt [])))))) (rt [])))))) (retS (rt (.bl false))) (.nx)) (seqS (asgS (ifM (boolM (varM 2)) (callK p_shared_watch 0 1 [0] (rt []) (consM (varM 4) (rt []))) (callM p_shared_watch (consM (varM 4) (rt [])))) (setM 6)) (seqS (ifS (orT (notM (boolM (callM (p__law_same 6) (consM (frz (lstM (consM (op1M (attrD cls_stops "stops") (bvarM 6)) (consM (op1M (attrD cls_rows "rows") (bvarM 6)) (rt []))))) (consM (varM 3) (rt [])))))) (notM (boolM (callM (p__law_same 6) (consM (callM p_settles (consM (varM 4) (rt []))) (consM (callM p__law_settles (consM (varM 3) (rt []))) (rt []))))))) (retS (rt (.bl false))) (.nx)) (seqS (ifS (boolM (op2M ltD (toB (op1M lenD (toB (op2M ixD (bvarM 0) (toB (rt (.int 1))))))) (toB (rt (.int 9))))) (seqS (asgS (makeK "Watch" p_Watch___init__ 2 0 [0, 1] (consM (op2M ixD (bvarM 0) (toB (rt (.int 0)))) (consM (op2M addD (toB (op2M ixD (bvarM 0) (toB (rt (.int 1))))) (toB (tupM (consM (op2M ixD (toB (op2M ixD (bvarM 0) (toB (rt (.int 1))))) (toB (op1M negD (toB (rt (.int 1)))))) (rt []))))) (rt []))) (rt [])) (setM 7)) (ifS (notM (boolM (callM (p__law_same 6) (consM (frz (lstM (consM (callM p_watch_class (consM (varM 7) (rt []))) (consM (callM p_settles (consM (varM 7) (rt []))) (rt []))))) (consM (frz (lstM (consM (callM p__law_class (consM (varM 0) (rt []))) (consM (callM p__law_settles (consM (varM 0) (rt []))) (rt []))))) (rt [])))))) (retS (rt (.bl false))) (.nx))) (.nx)) (retS (rt (.bl true))))))))))
def p__law_shared_right : Fn := runF 8 3 b__law_shared_right
theorem p__law_shared_right_len : ∀ ds s, p__law_shared_right ds s ≠ .bad → ds.length = 3 := fun ds s h => runF_len ds s h
def l__law_right_0 : SM := ifS (orT (boolM (op2M neD (toB (frz (compM (.lst []) (seqM (varM 11)) (setM 15) (boolM (op2M neD (toB (callM p_leader_at (consM (varM 4) (consM (varM 13) (consM (varM 15) (rt [])))))) (bvarM 12))) (stepL (varM 15)) [15]))) (toB (frz (lstM (rt [])))))) (boolM (op2M (inD true) (bvarM 12) (bvarM 11)))) (retS (rt (.bl false))) (.nx)
def b__law_right : SM := seqS (asgS (varM 0) (tupA 2 (consT (setM 2) (consT (setM 3) nilT)))) (seqS (asgS (callM p__law_made (consM (varM 0) (consM (varM 1) (rt [])))) (setM 4)) (seqS (parS (consM (callM p__law_class (consM (varM 0) (rt []))) (consM (callM p__law_settles (consM (varM 0) (rt []))) (rt []))) (par2 5 6)) (seqS (asgS (ifM (boolM (varM 1)) (frz (lstM (consM (callM p_watch_class (consM (varM 4) (rt []))) (consM (callK p_settles 0 1 [0] (rt []) (consM (varM 4) (rt []))) (rt []))))) (frz (lstM (consM (callK p_watch_class 0 1 [0] (rt []) (consM (varM 4) (rt []))) (consM (callM p_settles (consM (varM 4) (rt []))) (rt [])))))) (setM 7)) (seqS (ifS (notM (boolM (callM (p__law_same 6) (consM (varM 7) (consM (frz (lstM (consM (varM 5) (consM (varM 6) (rt []))))) (rt [])))))) (retS (rt (.bl false))) (.nx)) (seqS (asgS (frz (lstM (consM (rt (.str ("complete" : Str))) (consM (rt (.str ("accurate" : Str))) (consM (rt (.str ("weakly accurate" : Str))) (consM (rt (.str ("later accurate" : Str))) (consM (rt (.str ("later weakly accurate" : Str))) (rt [])))))))) (setM 8)) (seqS (asgS (frzL (compM (.lst []) (seqM (varM 8)) (setM 14) (rt true) (stepL (callM p_watch_has (consM (varM 4) (consM (varM 14) (rt []))))) [14])) (setM 9)) (seqS (asgS (rt (.str ("none" : Str))) (setM 10)) (seqS (ifS (andT (boolM (op2M (isD false) (toB (op2M ixD (bvarM 9) (toB (rt (.int 0))))) (toB (rt (.bl true))))) (boolM (op2M (inD false) (toB (rt (.bl true))) (toB (sliceM (bvarM 9) (partM (rt (.int 1))) (rt none)))))) (asgS (op2M ixD (toB (frz (lstM (consM (rt (.str ("P" : Str))) (consM (rt (.str ("S" : Str))) (consM (rt (.str ("later P" : Str))) (consM (rt (.str ("later S" : Str))) (rt [])))))))) (toB (sqM indexP (toB (sliceM (bvarM 9) (partM (rt (.int 1))) (rt none))) (toB (rt (.bl true)))))) (setM 10)) (.nx)) (seqS (ifS (boolM (op2M neD (bvarM 10) (bvarM 5))) (retS (rt (.bl false))) (.nx)) (seqS (asgS (frzL (compM (.lst []) (rg1S (consM (op1M lenD (bvarM 2)) (rt []))) (setM 15) (boolM (op2M (isD false) (toB (op2M ixD (bvarM 2) (bvarM 15))) (toB (rt .non)))) (stepL (varM 15)) [15])) (setM 11)) (seqS (ifS (boolM (op2M (isD true) (bvarM 6) (toB (rt .non)))) (seqS (asgS (callM p_leader_at (consM (varM 4) (consM (varM 6) (consM (op2M ixD (bvarM 11) (toB (rt (.int 0)))) (rt []))))) (setM 12)) (forS (seqM (frz (lrgM (bvarM 6) (toB (op2M addD (toB (op1M lenD (bvarM 3))) (toB (rt (.int 2)))))))) (setM 13) (l__law_right_0))) (.nx)) (seqS (ifS (andT (boolM (op2M (isD false) (bvarM 6) (toB (rt .non)))) (andT (boolM (op2M (isD false) (toB (op2M ixD (bvarM 9) (toB (rt (.int 0))))) (toB (rt (.bl true))))) (boolM (op2M (isD false) (toB (op2M ixD (bvarM 9) (toB (rt (.int 3))))) (toB (rt (.bl true))))))) (retS (rt (.bl false))) (.nx)) (retS (callM p__law_shared_right (consM (varM 0) (consM (varM 4) (consM (varM 1) (rt []))))))))))))))))))
def p__law_right : Fn := runF 16 2 b__law_right
theorem p__law_right_len : ∀ ds s, p__law_right ds s ≠ .bad → ds.length = 2 := fun ds s h => runF_len ds s h
def l_law_0 : SM := seqS (asgS (callM p__law_some_watch (consM (varM 2) (rt []))) (setM 5)) (seqS (ifS (boolM (op2M eqD (bvarM 4) (toB (rt (.int 2))))) (seqS (asgS (op2M ixD (toB (frz (lstM (consM (op2M mulE (toB (tupM (consM (rt .non) (rt [])))) (toB (op1M lenD (toB (op2M ixD (bvarM 5) (toB (rt (.int 0)))))))) (consM (op2M addD (toB (tupM (consM (rt .non) (rt [])))) (toB (op2M mulE (toB (tupM (consM (rt (.int 0)) (rt [])))) (toB (op2M subD (toB (op1M lenD (toB (op2M ixD (bvarM 5) (toB (rt (.int 0))))))) (toB (rt (.int 1)))))))) (rt [])))))) (toB (callM p__law_take (consM (varM 2) (consM (rt (.int 2)) (rt [])))))) (setM 6)) (asgS (frz (lstM (consM (varM 6) (consM (op2M ixD (bvarM 5) (toB (rt (.int 1)))) (rt []))))) (setM 5))) (.nx)) (seqS (ifS (notM (boolM (callM p__law_right (consM (varM 5) (consM (varM 3) (rt [])))))) (retS (rt (.bl false))) (.nx)) (asgS (notV (boolM (varM 3))) (setM 3))))
def l_law_1 : SM := seqS (asgS (callM p__law_box (consM (callM p__law_cell (consM (varM 0) (consM (varM 1) (rt [])))) (rt []))) (setM 2)) (seqS (asgS (op2M eqD (toB (callM p__law_take (consM (varM 2) (consM (rt (.int 2)) (rt []))))) (toB (rt (.int 0)))) (setM 3)) (forS (rg1S (consM (rt (.int 3)) (rt []))) (setM 4) (l_law_0)))
def b_law : SM := seqS (forS (rg1S (consM (op2M max2D (toB (rt (.int 2))) (toB (op2M min2D (toB (rt (.int 4))) (toB (op1M lenD (bvarM 0)))))) (rt []))) (setM 1) (l_law_1)) (retS (rt (.bl true)))
def p_law : Fn := runF 7 1 b_law
theorem p_law_len : ∀ ds s, p_law ds s ≠ .bad → ds.length = 1 := fun ds s h => runF_len ds s h
end K58

namespace K58
open PySem PySem.Spec PyProof.Rows L2 QB
def top (i : Nat) : Stmt := PySem.Challenge.pw_quorumbench_k58_whole_classes_of_watches.main.body.getD i (.Pass ⟨0, 0, 0, 0⟩)
theorem sc_is_integer : FnScope ["value"] ["value"] (defScope (top 9)) := ⟨rfl, rfl, rfl, by decide +kernel, rfl, by decide +kernel, by decide +kernel⟩
theorem sc_is_between : FnScope ["value", "least", "most"] ["value", "least", "most"] (defScope (top 10)) := ⟨rfl, rfl, rfl, by decide +kernel, rfl, by decide +kernel, by decide +kernel⟩
theorem sc_is_tuple_of : FnScope ["value", "many"] ["value", "many"] (defScope (top 11)) := ⟨rfl, rfl, rfl, by decide +kernel, rfl, by decide +kernel, by decide +kernel⟩
theorem sc_is_row : FnScope ["value", "many", "least", "most", "item"] ["value", "many", "least", "most"] (defScope (top 12)) := ⟨rfl, rfl, rfl, by decide +kernel, rfl, by decide +kernel, by decide +kernel⟩
theorem sc_is_rising : FnScope ["items", "one", "other"] ["items"] (defScope (top 13)) := ⟨rfl, rfl, rfl, by decide +kernel, rfl, by decide +kernel, by decide +kernel⟩
theorem sc_is_set : FnScope ["value", "size"] ["value", "size"] (defScope (top 14)) := ⟨rfl, rfl, rfl, by decide +kernel, rfl, by decide +kernel, by decide +kernel⟩
theorem sc_are_stops : FnScope ["value", "time"] ["value"] (defScope (top 22)) := ⟨rfl, rfl, rfl, by decide +kernel, rfl, by decide +kernel, by decide +kernel⟩
theorem sc_are_suspects : FnScope ["machines", "value", "some"] ["machines", "value"] (defScope (top 23)) := ⟨rfl, rfl, rfl, by decide +kernel, rfl, by decide +kernel, by decide +kernel⟩
theorem sc_are_rows : FnScope ["stops", "value", "row", "time"] ["stops", "value"] (defScope (top 24)) := ⟨rfl, rfl, rfl, by decide +kernel, rfl, by decide +kernel, by decide +kernel⟩
theorem sc_Watch___init__ : FnScope ["self", "stops", "rows"] ["self", "stops", "rows"] (defScope (inClass (top 25) 0)) := ⟨rfl, rfl, rfl, by decide +kernel, rfl, by decide +kernel, by decide +kernel⟩
theorem sc_Watch___eq__ : FnScope ["self", "other"] ["self", "other"] (defScope (inClass (top 25) 1)) := ⟨rfl, rfl, rfl, by decide +kernel, rfl, by decide +kernel, by decide +kernel⟩
theorem sc_up_at : FnScope ["watch", "time", "machine", "stop"] ["watch", "time"] (defScope (top 26)) := ⟨rfl, rfl, rfl, by decide +kernel, rfl, by decide +kernel, by decide +kernel⟩
theorem sc_lasting : FnScope ["watch", "machine", "stop"] ["watch"] (defScope (top 27)) := ⟨rfl, rfl, rfl, by decide +kernel, rfl, by decide +kernel, by decide +kernel⟩
theorem sc_suspected_by : FnScope ["row", "machine", "some", "other"] ["row", "machine", "some"] (defScope (top 28)) := ⟨rfl, rfl, rfl, by decide +kernel, rfl, by decide +kernel, by decide +kernel⟩
theorem sc_is_complete : FnScope ["watch", "is_weak", "stopped", "counts", "fewest", "machine", "stop", "count"] ["watch", "is_weak"] (defScope (top 29)) := ⟨rfl, rfl, rfl, by decide +kernel, rfl, by decide +kernel, by decide +kernel⟩
theorem sc_is_spared : FnScope ["watch", "machine", "is_later", "time", "row", "ups"] ["watch", "machine", "is_later"] (defScope (top 30)) := ⟨rfl, rfl, rfl, by decide +kernel, rfl, by decide +kernel, by decide +kernel⟩
theorem sc_has_accuracy : FnScope ["watch", "is_weak", "is_later", "some", "spared", "machine"] ["watch", "is_weak", "is_later"] (defScope (top 31)) := ⟨rfl, rfl, rfl, by decide +kernel, rfl, by decide +kernel, by decide +kernel⟩
theorem sc_has_name : FnScope ["watch", "name"] ["watch", "name"] (defScope (top 32)) := ⟨rfl, rfl, rfl, by decide +kernel, rfl, by decide +kernel, by decide +kernel⟩
theorem sc_watch_has : FnScope ["watch", "name"] ["watch", "name"] (defScope (top 33)) := ⟨rfl, rfl, rfl, by decide +kernel, rfl, by decide +kernel, by decide +kernel⟩
theorem sc_watch_class : FnScope ["watch", "found", "word", "name"] ["watch"] (defScope (top 34)) := ⟨rfl, rfl, rfl, by decide +kernel, rfl, by decide +kernel, by decide +kernel⟩
theorem sc_shared_row : FnScope ["watch", "time", "row", "ups", "every", "machine"] ["watch", "time", "row"] (defScope (top 35)) := ⟨rfl, rfl, rfl, by decide +kernel, rfl, by decide +kernel, by decide +kernel⟩
theorem sc_shared_watch : FnScope ["watch", "time", "row"] ["watch"] (defScope (top 36)) := ⟨rfl, rfl, rfl, by decide +kernel, rfl, by decide +kernel, by decide +kernel⟩
theorem sc_leader_in : FnScope ["row", "machine", "trusted", "other"] ["row", "machine"] (defScope (top 37)) := ⟨rfl, rfl, rfl, by decide +kernel, rfl, by decide +kernel, by decide +kernel⟩
theorem sc_leader_at : FnScope ["watch", "time", "machine"] ["watch", "time", "machine"] (defScope (top 38)) := ⟨rfl, rfl, rfl, by decide +kernel, rfl, by decide +kernel, by decide +kernel⟩
theorem sc_settles : FnScope ["watch", "some", "leader", "good", "row", "machine", "time", "is_good"] ["watch"] (defScope (top 39)) := ⟨rfl, rfl, rfl, by decide +kernel, rfl, by decide +kernel, by decide +kernel⟩
theorem sc__law_cell : FnScope ["script", "k"] ["script", "k"] (defScope (top 41)) := ⟨rfl, rfl, rfl, by decide +kernel, rfl, by decide +kernel, by decide +kernel⟩
theorem sc__law_box : FnScope ["great"] ["great"] (defScope (top 42)) := ⟨rfl, rfl, rfl, by decide +kernel, rfl, by decide +kernel, by decide +kernel⟩
theorem sc__law_take : FnScope ["box", "many", "mixed", "digit"] ["box", "many"] (defScope (top 43)) := ⟨rfl, rfl, rfl, by decide +kernel, rfl, by decide +kernel, by decide +kernel⟩
theorem sc__law_same : FnScope ["told", "due", "k", "key"] ["told", "due"] (defScope (top 44)) := ⟨rfl, rfl, rfl, by decide +kernel, rfl, by decide +kernel, by decide +kernel⟩
theorem sc__law_some_watch : FnScope ["box", "many", "times", "stops", "way", "rows", "spared", "time", "row", "m", "gone", "some", "k"] ["box"] (defScope (top 45)) := ⟨rfl, rfl, rfl, by decide +kernel, rfl, by decide +kernel, by decide +kernel⟩
theorem sc__law_up : FnScope ["stops", "m", "time"] ["stops", "m", "time"] (defScope (top 46)) := ⟨rfl, rfl, rfl, by decide +kernel, rfl, by decide +kernel, by decide +kernel⟩
theorem sc__law_has : FnScope ["watch", "name", "stops", "rows", "many", "last", "always", "gone", "spared", "k", "later", "bad", "time", "m"] ["watch", "name"] (defScope (top 47)) := ⟨rfl, rfl, rfl, by decide +kernel, rfl, by decide +kernel, by decide +kernel⟩
theorem sc__law_class : FnScope ["watch", "word", "name"] ["watch"] (defScope (top 48)) := ⟨rfl, rfl, rfl, by decide +kernel, rfl, by decide +kernel, by decide +kernel⟩
theorem sc__law_shared : FnScope ["watch", "stops", "rows", "many", "found", "time", "up", "some", "m", "k"] ["watch"] (defScope (top 49)) := ⟨rfl, rfl, rfl, by decide +kernel, rfl, by decide +kernel, by decide +kernel⟩
theorem sc__law_leader_of : FnScope ["watch", "time", "m", "row", "free", "k"] ["watch", "time", "m"] (defScope (top 50)) := ⟨rfl, rfl, rfl, by decide +kernel, rfl, by decide +kernel, by decide +kernel⟩
theorem sc__law_settles : FnScope ["watch", "stops", "last", "always", "rows", "time", "found", "leaders", "one", "m", "x"] ["watch"] (defScope (top 51)) := ⟨rfl, rfl, rfl, by decide +kernel, rfl, by decide +kernel, by decide +kernel⟩
theorem sc__law_made : FnScope ["watch", "named"] ["watch", "named"] (defScope (top 52)) := ⟨rfl, rfl, rfl, by decide +kernel, rfl, by decide +kernel, by decide +kernel⟩
theorem sc__law_shared_right : FnScope ["watch", "made", "named", "due", "told", "weak", "again", "longer"] ["watch", "made", "named"] (defScope (top 54)) := ⟨rfl, rfl, rfl, by decide +kernel, rfl, by decide +kernel, by decide +kernel⟩
theorem sc__law_right : FnScope ["watch", "named", "stops", "rows", "made", "word", "time", "told", "names", "has", "due", "always", "one", "later", "name", "m"] ["watch", "named"] (defScope (top 53)) := ⟨rfl, rfl, rfl, by decide +kernel, rfl, by decide +kernel, by decide +kernel⟩
theorem sc_law : FnScope ["script", "k", "box", "named", "turn", "watch", "stops"] ["script"] (defScope (top 55)) := ⟨rfl, rfl, rfl, by decide +kernel, rfl, by decide +kernel, by decide +kernel⟩
structure G (K : PySem.W.Frag) (mg : Str → Option Value) where
  a_is_integer : Addr
  fd_is_integer : FuncData
  F_is_integer : FunD K "is_integer" "is_integer" (defArgs (top 9)) (defBody (top 9)) (defScope (top 9)) [] [] a_is_integer fd_is_integer
  g_is_integer : mg "is_integer" = some (.ref a_is_integer)
  a_is_between : Addr
  fd_is_between : FuncData
  F_is_between : FunD K "is_between" "is_between" (defArgs (top 10)) (defBody (top 10)) (defScope (top 10)) [] [] a_is_between fd_is_between
  g_is_between : mg "is_between" = some (.ref a_is_between)
  a_is_tuple_of : Addr
  fd_is_tuple_of : FuncData
  F_is_tuple_of : FunD K "is_tuple_of" "is_tuple_of" (defArgs (top 11)) (defBody (top 11)) (defScope (top 11)) [] [] a_is_tuple_of fd_is_tuple_of
  g_is_tuple_of : mg "is_tuple_of" = some (.ref a_is_tuple_of)
  a_is_row : Addr
  fd_is_row : FuncData
  F_is_row : FunD K "is_row" "is_row" (defArgs (top 12)) (defBody (top 12)) (defScope (top 12)) [] [] a_is_row fd_is_row
  g_is_row : mg "is_row" = some (.ref a_is_row)
  a_is_rising : Addr
  fd_is_rising : FuncData
  F_is_rising : FunD K "is_rising" "is_rising" (defArgs (top 13)) (defBody (top 13)) (defScope (top 13)) [] [] a_is_rising fd_is_rising
  g_is_rising : mg "is_rising" = some (.ref a_is_rising)
  a_is_set : Addr
  fd_is_set : FuncData
  F_is_set : FunD K "is_set" "is_set" (defArgs (top 14)) (defBody (top 14)) (defScope (top 14)) [] [] a_is_set fd_is_set
  g_is_set : mg "is_set" = some (.ref a_is_set)
  a_are_stops : Addr
  fd_are_stops : FuncData
  F_are_stops : FunD K "are_stops" "are_stops" (defArgs (top 22)) (defBody (top 22)) (defScope (top 22)) [] [] a_are_stops fd_are_stops
  g_are_stops : mg "are_stops" = some (.ref a_are_stops)
  a_are_suspects : Addr
  fd_are_suspects : FuncData
  F_are_suspects : FunD K "are_suspects" "are_suspects" (defArgs (top 23)) (defBody (top 23)) (defScope (top 23)) [] [] a_are_suspects fd_are_suspects
  g_are_suspects : mg "are_suspects" = some (.ref a_are_suspects)
  a_are_rows : Addr
  fd_are_rows : FuncData
  F_are_rows : FunD K "are_rows" "are_rows" (defArgs (top 24)) (defBody (top 24)) (defScope (top 24)) [] [] a_are_rows fd_are_rows
  g_are_rows : mg "are_rows" = some (.ref a_are_rows)
  a_Watch___init__ : Addr
  fd_Watch___init__ : FuncData
  F_Watch___init__ : FunD K "__init__" "Watch.__init__" (defArgs (inClass (top 25) 0)) (defBody (inClass (top 25) 0)) (defScope (inClass (top 25) 0)) [] [] a_Watch___init__ fd_Watch___init__
  a_Watch___eq__ : Addr
  fd_Watch___eq__ : FuncData
  F_Watch___eq__ : FunD K "__eq__" "Watch.__eq__" (defArgs (inClass (top 25) 1)) (defBody (inClass (top 25) 1)) (defScope (inClass (top 25) 1)) [] [] a_Watch___eq__ fd_Watch___eq__
  a_up_at : Addr
  fd_up_at : FuncData
  F_up_at : FunD K "up_at" "up_at" (defArgs (top 26)) (defBody (top 26)) (defScope (top 26)) [] [] a_up_at fd_up_at
  g_up_at : mg "up_at" = some (.ref a_up_at)
  a_lasting : Addr
  fd_lasting : FuncData
  F_lasting : FunD K "lasting" "lasting" (defArgs (top 27)) (defBody (top 27)) (defScope (top 27)) [] [] a_lasting fd_lasting
  g_lasting : mg "lasting" = some (.ref a_lasting)
  a_suspected_by : Addr
  fd_suspected_by : FuncData
  F_suspected_by : FunD K "suspected_by" "suspected_by" (defArgs (top 28)) (defBody (top 28)) (defScope (top 28)) [] [] a_suspected_by fd_suspected_by
  g_suspected_by : mg "suspected_by" = some (.ref a_suspected_by)
  a_is_complete : Addr
  fd_is_complete : FuncData
  F_is_complete : FunD K "is_complete" "is_complete" (defArgs (top 29)) (defBody (top 29)) (defScope (top 29)) [] [] a_is_complete fd_is_complete
  g_is_complete : mg "is_complete" = some (.ref a_is_complete)
  a_is_spared : Addr
  fd_is_spared : FuncData
  F_is_spared : FunD K "is_spared" "is_spared" (defArgs (top 30)) (defBody (top 30)) (defScope (top 30)) [] [] a_is_spared fd_is_spared
  g_is_spared : mg "is_spared" = some (.ref a_is_spared)
  a_has_accuracy : Addr
  fd_has_accuracy : FuncData
  F_has_accuracy : FunD K "has_accuracy" "has_accuracy" (defArgs (top 31)) (defBody (top 31)) (defScope (top 31)) [] [] a_has_accuracy fd_has_accuracy
  g_has_accuracy : mg "has_accuracy" = some (.ref a_has_accuracy)
  a_has_name : Addr
  fd_has_name : FuncData
  F_has_name : FunD K "has_name" "has_name" (defArgs (top 32)) (defBody (top 32)) (defScope (top 32)) [] [] a_has_name fd_has_name
  g_has_name : mg "has_name" = some (.ref a_has_name)
  a_watch_has : Addr
  fd_watch_has : FuncData
  F_watch_has : FunD K "watch_has" "watch_has" (defArgs (top 33)) (defBody (top 33)) (defScope (top 33)) [] [] a_watch_has fd_watch_has
  g_watch_has : mg "watch_has" = some (.ref a_watch_has)
  a_watch_class : Addr
  fd_watch_class : FuncData
  F_watch_class : FunD K "watch_class" "watch_class" (defArgs (top 34)) (defBody (top 34)) (defScope (top 34)) [] [] a_watch_class fd_watch_class
  g_watch_class : mg "watch_class" = some (.ref a_watch_class)
  a_shared_row : Addr
  fd_shared_row : FuncData
  F_shared_row : FunD K "shared_row" "shared_row" (defArgs (top 35)) (defBody (top 35)) (defScope (top 35)) [] [] a_shared_row fd_shared_row
  g_shared_row : mg "shared_row" = some (.ref a_shared_row)
  a_shared_watch : Addr
  fd_shared_watch : FuncData
  F_shared_watch : FunD K "shared_watch" "shared_watch" (defArgs (top 36)) (defBody (top 36)) (defScope (top 36)) [] [] a_shared_watch fd_shared_watch
  g_shared_watch : mg "shared_watch" = some (.ref a_shared_watch)
  a_leader_in : Addr
  fd_leader_in : FuncData
  F_leader_in : FunD K "leader_in" "leader_in" (defArgs (top 37)) (defBody (top 37)) (defScope (top 37)) [] [] a_leader_in fd_leader_in
  g_leader_in : mg "leader_in" = some (.ref a_leader_in)
  a_leader_at : Addr
  fd_leader_at : FuncData
  F_leader_at : FunD K "leader_at" "leader_at" (defArgs (top 38)) (defBody (top 38)) (defScope (top 38)) [] [] a_leader_at fd_leader_at
  g_leader_at : mg "leader_at" = some (.ref a_leader_at)
  a_settles : Addr
  fd_settles : FuncData
  F_settles : FunD K "settles" "settles" (defArgs (top 39)) (defBody (top 39)) (defScope (top 39)) [] [] a_settles fd_settles
  g_settles : mg "settles" = some (.ref a_settles)
  a__law_cell : Addr
  fd__law_cell : FuncData
  F__law_cell : FunD K "_law_cell" "_law_cell" (defArgs (top 41)) (defBody (top 41)) (defScope (top 41)) [] [] a__law_cell fd__law_cell
  g__law_cell : mg "_law_cell" = some (.ref a__law_cell)
  a__law_box : Addr
  fd__law_box : FuncData
  F__law_box : FunD K "_law_box" "_law_box" (defArgs (top 42)) (defBody (top 42)) (defScope (top 42)) [] [] a__law_box fd__law_box
  g__law_box : mg "_law_box" = some (.ref a__law_box)
  a__law_take : Addr
  fd__law_take : FuncData
  F__law_take : FunD K "_law_take" "_law_take" (defArgs (top 43)) (defBody (top 43)) (defScope (top 43)) [] [] a__law_take fd__law_take
  g__law_take : mg "_law_take" = some (.ref a__law_take)
  a__law_same : Addr
  fd__law_same : FuncData
  F__law_same : FunD K "_law_same" "_law_same" (defArgs (top 44)) (defBody (top 44)) (defScope (top 44)) [] [] a__law_same fd__law_same
  g__law_same : mg "_law_same" = some (.ref a__law_same)
  a__law_some_watch : Addr
  fd__law_some_watch : FuncData
  F__law_some_watch : FunD K "_law_some_watch" "_law_some_watch" (defArgs (top 45)) (defBody (top 45)) (defScope (top 45)) [] [] a__law_some_watch fd__law_some_watch
  g__law_some_watch : mg "_law_some_watch" = some (.ref a__law_some_watch)
  a__law_up : Addr
  fd__law_up : FuncData
  F__law_up : FunD K "_law_up" "_law_up" (defArgs (top 46)) (defBody (top 46)) (defScope (top 46)) [] [] a__law_up fd__law_up
  g__law_up : mg "_law_up" = some (.ref a__law_up)
  a__law_has : Addr
  fd__law_has : FuncData
  F__law_has : FunD K "_law_has" "_law_has" (defArgs (top 47)) (defBody (top 47)) (defScope (top 47)) [] [] a__law_has fd__law_has
  g__law_has : mg "_law_has" = some (.ref a__law_has)
  a__law_class : Addr
  fd__law_class : FuncData
  F__law_class : FunD K "_law_class" "_law_class" (defArgs (top 48)) (defBody (top 48)) (defScope (top 48)) [] [] a__law_class fd__law_class
  g__law_class : mg "_law_class" = some (.ref a__law_class)
  a__law_shared : Addr
  fd__law_shared : FuncData
  F__law_shared : FunD K "_law_shared" "_law_shared" (defArgs (top 49)) (defBody (top 49)) (defScope (top 49)) [] [] a__law_shared fd__law_shared
  g__law_shared : mg "_law_shared" = some (.ref a__law_shared)
  a__law_leader_of : Addr
  fd__law_leader_of : FuncData
  F__law_leader_of : FunD K "_law_leader_of" "_law_leader_of" (defArgs (top 50)) (defBody (top 50)) (defScope (top 50)) [] [] a__law_leader_of fd__law_leader_of
  g__law_leader_of : mg "_law_leader_of" = some (.ref a__law_leader_of)
  a__law_settles : Addr
  fd__law_settles : FuncData
  F__law_settles : FunD K "_law_settles" "_law_settles" (defArgs (top 51)) (defBody (top 51)) (defScope (top 51)) [] [] a__law_settles fd__law_settles
  g__law_settles : mg "_law_settles" = some (.ref a__law_settles)
  a__law_made : Addr
  fd__law_made : FuncData
  F__law_made : FunD K "_law_made" "_law_made" (defArgs (top 52)) (defBody (top 52)) (defScope (top 52)) [] [] a__law_made fd__law_made
  g__law_made : mg "_law_made" = some (.ref a__law_made)
  a__law_shared_right : Addr
  fd__law_shared_right : FuncData
  F__law_shared_right : FunD K "_law_shared_right" "_law_shared_right" (defArgs (top 54)) (defBody (top 54)) (defScope (top 54)) [] [] a__law_shared_right fd__law_shared_right
  g__law_shared_right : mg "_law_shared_right" = some (.ref a__law_shared_right)
  a__law_right : Addr
  fd__law_right : FuncData
  F__law_right : FunD K "_law_right" "_law_right" (defArgs (top 53)) (defBody (top 53)) (defScope (top 53)) [] [] a__law_right fd__law_right
  g__law_right : mg "_law_right" = some (.ref a__law_right)
  a_law : Addr
  fd_law : FuncData
  F_law : FunD K "law" "law" (defArgs (top 55)) (defBody (top 55)) (defScope (top 55)) [] [] a_law fd_law
  g_law : mg "law" = some (.ref a_law)
  b_abs : mg "abs" = none
  b_all : mg "all" = none
  b_any : mg "any" = none
  b_bool : mg "bool" = none
  b_dict : mg "dict" = none
  b_enumerate : mg "enumerate" = none
  b_int : mg "int" = none
  b_isinstance : mg "isinstance" = none
  b_len : mg "len" = none
  b_list : mg "list" = none
  b_max : mg "max" = none
  b_min : mg "min" = none
  b_range : mg "range" = none
  b_set : mg "set" = none
  b_sorted : mg "sorted" = none
  b_str : mg "str" = none
  b_sum : mg "sum" = none
  b_tuple : mg "tuple" = none
  b_zip : mg "zip" = none
  g_Watch : mg "Watch" = some (.ref (He.ga K "Watch"))
  mk_Watch : Mk K (He.ga K "Watch") a_Watch___init__
  iso_Watch : IsoT K mg "Watch" cls_all
  eq_Watch : PySem.W.findIn K (.ref (He.ga K "Watch")) "__eq__" = some (some (.ref a_Watch___eq__))
  eqf_Watch : PySem.W.isFn K (.ref a_Watch___eq__) = true
  at_stops : ∀ cn, cls_stops cn = true → Cls K (He.ga K cn) ∧ NoAttr K (He.ga K cn) "stops"
  at_rows : ∀ cn, cls_rows cn = true → Cls K (He.ga K cn) ∧ NoAttr K (He.ga K cn) "rows"
  t_NAMES : GTup K mg "NAMES" [.str ("complete" : Str), .str ("weakly complete" : Str), .str ("accurate" : Str), .str ("weakly accurate" : Str), .str ("later accurate" : Str), .str ("later weakly accurate" : Str)]
  t_CLASSES : GTup K mg "CLASSES" [.str ("P" : Str), .str ("S" : Str), .str ("later P" : Str), .str ("later S" : Str)]
  s_NONE : ∃ t, mg "NONE" = some (.str ("none" : Str) t)
  c_MOST_MACHINES : ∃ t, mg "MOST_MACHINES" = some (.int 4 t)
  c_MOST_TIME : ∃ t, mg "MOST_TIME" = some (.int 8 t)
  c_MOST_ASKED : ∃ t, mg "MOST_ASKED" = some (.int 1000 t)
section
variable {P : Program} {w : World} {K : PySem.W.Frag} {mg : Str → Option Value} {base : Heap}
theorem ok_is_integer (G : G K mg) : FnOk P w K mg base (L2.CX P w) 1 G.a_is_integer G.fd_is_integer ["value"] (spOf K mg 1 p_is_integer) := by
  refine fn_ok (k := 0) (n := 1) (np := 1) (m := b_is_integer) G.F_is_integer sc_is_integer rfl rfl ?_
  refine fun cdv A outer s H E hr => fun tk po => ?_
  have hu0 : (A.deeper (envOfC "is_integer" (defScope (top 9)) s.heap.objs.size G.a_is_integer cdv)).units < cLine := by have := hr.un; omega
  have hu1 : (A.deeper (envOfC "is_integer" (defScope (top 9)) s.heap.objs.size G.a_is_integer cdv)).units + 1 < cLine := by have := hr.un; omega
  have hu64 : (A.deeper (envOfC "is_integer" (defScope (top 9)) s.heap.objs.size G.a_is_integer cdv)).units + 64 < cLine := by have := hr.un; omega
  have hu65 : (A.deeper (envOfC "is_integer" (defScope (top 9)) s.heap.objs.size G.a_is_integer cdv)).units + 65 < cLine := by have := hr.un; omega
  unfold b_is_integer
  exact ss_one (st_ret (ev_and (ev_isi .int G.b_isinstance G.b_int rfl (bv_var 0)) (ev_one (ev_not (ev_isi .bool G.b_isinstance G.b_bool rfl (bv_var 0))))))
theorem ok_is_between (G : G K mg) : FnOk P w K mg base (L2.CX P w) 2 G.a_is_between G.fd_is_between ["value", "least", "most"] (spOf K mg 3 p_is_between) := by
  refine fn_ok (k := 1) (n := 3) (np := 3) (m := b_is_between) G.F_is_between sc_is_between rfl rfl ?_
  refine fun cdv A outer s H E hr => fun tk po => ?_
  have hu0 : (A.deeper (envOfC "is_between" (defScope (top 10)) s.heap.objs.size G.a_is_between cdv)).units < cLine := by have := hr.un; omega
  have hu1 : (A.deeper (envOfC "is_between" (defScope (top 10)) s.heap.objs.size G.a_is_between cdv)).units + 1 < cLine := by have := hr.un; omega
  have hu64 : (A.deeper (envOfC "is_between" (defScope (top 10)) s.heap.objs.size G.a_is_between cdv)).units + 64 < cLine := by have := hr.un; omega
  have hu65 : (A.deeper (envOfC "is_between" (defScope (top 10)) s.heap.objs.size G.a_is_between cdv)).units + 65 < cLine := by have := hr.un; omega
  unfold b_is_between
  exact ss_one (st_ret (ev_and (ev_call (ok_is_integer G) p_is_integer_len (hr.mono (by decide)) G.g_is_integer G.F_is_integer.kp (G.F_is_integer.bindsN fun _ _ _ _ _ _ us hl => match us, hl with | [_], _ => rfl) (by first | exact tk | exact L2.takes0) (av_cons (ev_var 0) av_nil)) (ev_one (ev_chain op_le op_le opB_le opB_le (bv_var 1) (bv_var 0) (bv_var 2)))))
theorem ok_is_tuple_of (G : G K mg) : FnOk P w K mg base (L2.CX P w) 1 G.a_is_tuple_of G.fd_is_tuple_of ["value", "many"] (spOf K mg 2 p_is_tuple_of) := by
  refine fn_ok (k := 0) (n := 2) (np := 2) (m := b_is_tuple_of) G.F_is_tuple_of sc_is_tuple_of rfl rfl ?_
  refine fun cdv A outer s H E hr => fun tk po => ?_
  have hu0 : (A.deeper (envOfC "is_tuple_of" (defScope (top 11)) s.heap.objs.size G.a_is_tuple_of cdv)).units < cLine := by have := hr.un; omega
  have hu1 : (A.deeper (envOfC "is_tuple_of" (defScope (top 11)) s.heap.objs.size G.a_is_tuple_of cdv)).units + 1 < cLine := by have := hr.un; omega
  have hu64 : (A.deeper (envOfC "is_tuple_of" (defScope (top 11)) s.heap.objs.size G.a_is_tuple_of cdv)).units + 64 < cLine := by have := hr.un; omega
  have hu65 : (A.deeper (envOfC "is_tuple_of" (defScope (top 11)) s.heap.objs.size G.a_is_tuple_of cdv)).units + 65 < cLine := by have := hr.un; omega
  unfold b_is_tuple_of
  exact ss_one (st_ret (ev_and (ev_isi .tuple G.b_isinstance G.b_tuple rfl (bv_var 0)) (ev_one (ev_cmp (op_eqD hu64) (OpB.s opB_eq) (PEv.b (ev_b1 call_lenA c1_len G.b_len rfl (bv_var 0))) (bv_var 1) (by first | rfl | exact nomark _)))))
theorem ok_is_row (G : G K mg) : FnOk P w K mg base (L2.CX P w) 3 G.a_is_row G.fd_is_row ["value", "many", "least", "most"] (spOf K mg 4 p_is_row) := by
  refine fn_ok (k := 2) (n := 5) (np := 4) (m := b_is_row) G.F_is_row sc_is_row rfl rfl ?_
  refine fun cdv A outer s H E hr => fun tk po => ?_
  have hu0 : (A.deeper (envOfC "is_row" (defScope (top 12)) s.heap.objs.size G.a_is_row cdv)).units < cLine := by have := hr.un; omega
  have hu1 : (A.deeper (envOfC "is_row" (defScope (top 12)) s.heap.objs.size G.a_is_row cdv)).units + 1 < cLine := by have := hr.un; omega
  have hu64 : (A.deeper (envOfC "is_row" (defScope (top 12)) s.heap.objs.size G.a_is_row cdv)).units + 64 < cLine := by have := hr.un; omega
  have hu65 : (A.deeper (envOfC "is_row" (defScope (top 12)) s.heap.objs.size G.a_is_row cdv)).units + 65 < cLine := by have := hr.un; omega
  unfold b_is_row
  exact ss_one (st_ret (ev_and (ev_call (ok_is_tuple_of G) p_is_tuple_of_len (hr.mono (by decide)) G.g_is_tuple_of G.F_is_tuple_of.kp (G.F_is_tuple_of.bindsN fun _ _ _ _ _ _ us hl => match us, hl with | [_, _], _ => rfl) (by first | exact tk | exact L2.takes0) (av_cons (ev_var 0) (av_cons (ev_var 1) av_nil))) (ev_one (ev_b1 (cr_all rfl) c1_all G.b_all rfl (PEv.b (PFr.frz (fr_lc (own := [("item", 4)]) rfl sc_is_row.nd (it_seq (ev_var 0)) (blkOk_by (by kernel_rfl)) (fun _ _ _ _ _ => tg_name 4 sc_is_row.nd rfl (by first | exact .inl rfl | exact .inr rfl)) (fun _ _ _ _ _ => ts_nil) (fun _ _ _ _ _ => ev_call (ok_is_between G) p_is_between_len (hr.mono (by decide)) G.g_is_between G.F_is_between.kp (G.F_is_between.bindsN fun _ _ _ _ _ _ us hl => match us, hl with | [_, _, _], _ => rfl) (by first | exact tk | exact L2.takes0) (av_cons (ev_var 4) (av_cons (ev_var 2) (av_cons (ev_var 3) av_nil)))) (by decide))))))))
theorem ok_is_rising (G : G K mg) : FnOk P w K mg base (L2.CX P w) 1 G.a_is_rising G.fd_is_rising ["items"] (spOf K mg 1 p_is_rising) := by
  refine fn_ok (k := 0) (n := 3) (np := 1) (m := b_is_rising) G.F_is_rising sc_is_rising rfl rfl ?_
  refine fun cdv A outer s H E hr => fun tk po => ?_
  have hu0 : (A.deeper (envOfC "is_rising" (defScope (top 13)) s.heap.objs.size G.a_is_rising cdv)).units < cLine := by have := hr.un; omega
  have hu1 : (A.deeper (envOfC "is_rising" (defScope (top 13)) s.heap.objs.size G.a_is_rising cdv)).units + 1 < cLine := by have := hr.un; omega
  have hu64 : (A.deeper (envOfC "is_rising" (defScope (top 13)) s.heap.objs.size G.a_is_rising cdv)).units + 64 < cLine := by have := hr.un; omega
  have hu65 : (A.deeper (envOfC "is_rising" (defScope (top 13)) s.heap.objs.size G.a_is_rising cdv)).units + 65 < cLine := by have := hr.un; omega
  unfold b_is_rising
  exact ss_one (st_ret (ev_b1 (cr_all rfl) c1_all G.b_all rfl (PEv.b (PFr.frz (fr_lc (own := [("one", 1), ("other", 2)]) rfl sc_is_rising.nd (it_zipr rfl G.b_zip (av_cons (ev_var 0) (av_cons (ev_slice (bv_var 0) (ov_some (ev_int)) (ov_none)) av_nil))) (blkOk_by (by kernel_rfl)) (fun _ _ _ _ _ => tg_sq rfl (tgs_cons (tg_name 1 sc_is_rising.nd rfl (by first | exact .inl rfl | exact .inr rfl)) (tgs_cons (tg_name 2 sc_is_rising.nd rfl (by first | exact .inl rfl | exact .inr rfl)) tgs_nil))) (fun _ _ _ _ _ => ts_nil) (fun _ _ _ _ _ => ev_cmp (op_ltA hu0) (OpB.s opB_lt) (bv_var 1) (bv_var 2) (by first | rfl | exact nomark _)) (by decide))))))
theorem ok_is_set (G : G K mg) : FnOk P w K mg base (L2.CX P w) 4 G.a_is_set G.fd_is_set ["value", "size"] (spOf K mg 2 p_is_set) := by
  refine fn_ok (k := 3) (n := 2) (np := 2) (m := b_is_set) G.F_is_set sc_is_set rfl rfl ?_
  refine fun cdv A outer s H E hr => fun tk po => ?_
  have hu0 : (A.deeper (envOfC "is_set" (defScope (top 14)) s.heap.objs.size G.a_is_set cdv)).units < cLine := by have := hr.un; omega
  have hu1 : (A.deeper (envOfC "is_set" (defScope (top 14)) s.heap.objs.size G.a_is_set cdv)).units + 1 < cLine := by have := hr.un; omega
  have hu64 : (A.deeper (envOfC "is_set" (defScope (top 14)) s.heap.objs.size G.a_is_set cdv)).units + 64 < cLine := by have := hr.un; omega
  have hu65 : (A.deeper (envOfC "is_set" (defScope (top 14)) s.heap.objs.size G.a_is_set cdv)).units + 65 < cLine := by have := hr.un; omega
  unfold b_is_set
  exact ss_one (st_ret (ev_and (ev_isi .tuple G.b_isinstance G.b_tuple rfl (bv_var 0)) (ev_and (ev_call (ok_is_row G) p_is_row_len (hr.mono (by decide)) G.g_is_row G.F_is_row.kp (G.F_is_row.bindsN fun _ _ _ _ _ _ us hl => match us, hl with | [_, _, _, _], _ => rfl) (by first | exact tk | exact L2.takes0) (av_cons (ev_var 0) (av_cons (ev_b1 call_lenA c1_len G.b_len rfl (bv_var 0)) (av_cons (ev_int) (av_cons (ev_bin op_subA opS_sub (bv_var 1) (PEv.b (ev_int))) av_nil))))) (ev_one (ev_call (ok_is_rising G) p_is_rising_len (hr.mono (by decide)) G.g_is_rising G.F_is_rising.kp (G.F_is_rising.bindsN fun _ _ _ _ _ _ us hl => match us, hl with | [_], _ => rfl) (by first | exact tk | exact L2.takes0) (av_cons (ev_var 0) av_nil))))))
theorem ok_are_stops (G : G K mg) : FnOk P w K mg base (L2.CX P w) 3 G.a_are_stops G.fd_are_stops ["value"] (spOf K mg 1 p_are_stops) := by
  refine fn_ok (k := 2) (n := 2) (np := 1) (m := b_are_stops) G.F_are_stops sc_are_stops rfl rfl ?_
  refine fun cdv A outer s H E hr => fun tk po => ?_
  have hu0 : (A.deeper (envOfC "are_stops" (defScope (top 22)) s.heap.objs.size G.a_are_stops cdv)).units < cLine := by have := hr.un; omega
  have hu1 : (A.deeper (envOfC "are_stops" (defScope (top 22)) s.heap.objs.size G.a_are_stops cdv)).units + 1 < cLine := by have := hr.un; omega
  have hu64 : (A.deeper (envOfC "are_stops" (defScope (top 22)) s.heap.objs.size G.a_are_stops cdv)).units + 64 < cLine := by have := hr.un; omega
  have hu65 : (A.deeper (envOfC "are_stops" (defScope (top 22)) s.heap.objs.size G.a_are_stops cdv)).units + 65 < cLine := by have := hr.un; omega
  unfold b_are_stops
  exact ss_cons (st_if (PWv.t (wv_or (tv_not (tv_val (ev_isi .tuple G.b_isinstance G.b_tuple rfl (bv_var 0)))) (wv_or1 (tv_not (tv_chain op_le op_le opB_le opB_le (PEv.b (ev_int)) (PEv.b (ev_b1 call_lenA c1_len G.b_len rfl (bv_var 0))) (PEv.b (ev_gint G.c_MOST_MACHINES))))))) (ss_one (st_ret (ev_bl))) (ss_nil)) (ss_cons (st_if (tv_not (tv_val (ev_b1 (cr_all rfl) c1_all G.b_all rfl (PEv.b (PFr.frz (fr_lc (own := [("time", 1)]) rfl sc_are_stops.nd (it_seq (ev_var 0)) (blkOk_by (by kernel_rfl)) (fun _ _ _ _ _ => tg_name 1 sc_are_stops.nd rfl (by first | exact .inl rfl | exact .inr rfl)) (fun _ _ _ _ _ => ts_nil) (fun _ _ _ _ _ => ev_or (ev_cmp op_isA (OpB.s (opB_is (neg := false))) (bv_var 1) (PEv.b (ev_non)) (by first | rfl | exact nomark _)) (ev_one (ev_call (ok_is_between G) p_is_between_len (hr.mono (by decide)) G.g_is_between G.F_is_between.kp (G.F_is_between.bindsN fun _ _ _ _ _ _ us hl => match us, hl with | [_, _, _], _ => rfl) (by first | exact tk | exact L2.takes0) (av_cons (ev_var 1) (av_cons (ev_int) (av_cons (ev_gint G.c_MOST_TIME) av_nil)))))) (by decide))))))) (ss_one (st_ret (ev_bl))) (ss_nil)) (ss_one (st_ret (ev_cmp op_gt (OpB.s opB_gt) (PEv.b (ev_b1 call_lenA c1_len G.b_len rfl (PEv.b (PFr.frz (fr_lc (own := [("time", 1)]) rfl sc_are_stops.nd (it_seq (ev_var 0)) (blkOk_by (by kernel_rfl)) (fun _ _ _ _ _ => tg_name 1 sc_are_stops.nd rfl (by first | exact .inl rfl | exact .inr rfl)) (fun _ _ _ _ _ => ts_one (tv_cmp op_isA (opB_is (neg := false)) (bv_var 1) (PEv.b (ev_non)) (by first | rfl | exact nomark _))) (fun _ _ _ _ _ => ev_var 1) (by decide)))))) (PEv.b (ev_int)) (by first | rfl | exact nomark _)))))
theorem ok_are_suspects (G : G K mg) : FnOk P w K mg base (L2.CX P w) 5 G.a_are_suspects G.fd_are_suspects ["machines", "value"] (spOf K mg 2 p_are_suspects) := by
  refine fn_ok (k := 4) (n := 3) (np := 2) (m := b_are_suspects) G.F_are_suspects sc_are_suspects rfl rfl ?_
  refine fun cdv A outer s H E hr => fun tk po => ?_
  have hu0 : (A.deeper (envOfC "are_suspects" (defScope (top 23)) s.heap.objs.size G.a_are_suspects cdv)).units < cLine := by have := hr.un; omega
  have hu1 : (A.deeper (envOfC "are_suspects" (defScope (top 23)) s.heap.objs.size G.a_are_suspects cdv)).units + 1 < cLine := by have := hr.un; omega
  have hu64 : (A.deeper (envOfC "are_suspects" (defScope (top 23)) s.heap.objs.size G.a_are_suspects cdv)).units + 64 < cLine := by have := hr.un; omega
  have hu65 : (A.deeper (envOfC "are_suspects" (defScope (top 23)) s.heap.objs.size G.a_are_suspects cdv)).units + 65 < cLine := by have := hr.un; omega
  unfold b_are_suspects
  exact ss_one (st_ret (ev_and (ev_isi .tuple G.b_isinstance G.b_tuple rfl (bv_var 1)) (ev_and (ev_cmp (op_eqD hu64) (OpB.s opB_eq) (PEv.b (ev_b1 call_lenA c1_len G.b_len rfl (bv_var 1))) (bv_var 0) (by first | rfl | exact nomark _)) (ev_one (ev_b1 (cr_all rfl) c1_all G.b_all rfl (PEv.b (PFr.frz (fr_lc (own := [("some", 2)]) rfl sc_are_suspects.nd (it_seq (ev_var 1)) (blkOk_by (by kernel_rfl)) (fun _ _ _ _ _ => tg_name 2 sc_are_suspects.nd rfl (by first | exact .inl rfl | exact .inr rfl)) (fun _ _ _ _ _ => ts_nil) (fun _ _ _ _ _ => ev_call (ok_is_set G) p_is_set_len (hr.mono (by decide)) G.g_is_set G.F_is_set.kp (G.F_is_set.bindsN fun _ _ _ _ _ _ us hl => match us, hl with | [_, _], _ => rfl) (by first | exact tk | exact L2.takes0) (av_cons (ev_var 2) (av_cons (ev_var 0) av_nil))) (by decide)))))))))
theorem ok_are_rows (G : G K mg) : FnOk P w K mg base (L2.CX P w) 6 G.a_are_rows G.fd_are_rows ["stops", "value"] (spOf K mg 2 p_are_rows) := by
  refine fn_ok (k := 5) (n := 4) (np := 2) (m := b_are_rows) G.F_are_rows sc_are_rows rfl rfl ?_
  refine fun cdv A outer s H E hr => fun tk po => ?_
  have hu0 : (A.deeper (envOfC "are_rows" (defScope (top 24)) s.heap.objs.size G.a_are_rows cdv)).units < cLine := by have := hr.un; omega
  have hu1 : (A.deeper (envOfC "are_rows" (defScope (top 24)) s.heap.objs.size G.a_are_rows cdv)).units + 1 < cLine := by have := hr.un; omega
  have hu64 : (A.deeper (envOfC "are_rows" (defScope (top 24)) s.heap.objs.size G.a_are_rows cdv)).units + 64 < cLine := by have := hr.un; omega
  have hu65 : (A.deeper (envOfC "are_rows" (defScope (top 24)) s.heap.objs.size G.a_are_rows cdv)).units + 65 < cLine := by have := hr.un; omega
  unfold b_are_rows
  exact ss_cons (st_if (PWv.t (wv_or (tv_not (tv_val (ev_isi .tuple G.b_isinstance G.b_tuple rfl (bv_var 1)))) (wv_or1 (tv_not (tv_chain op_le op_le opB_le opB_le (PEv.b (ev_int)) (PEv.b (ev_b1 call_lenA c1_len G.b_len rfl (bv_var 1))) (PEv.b (ev_bin op_addA opS_add (PEv.b (ev_gint G.c_MOST_TIME)) (PEv.b (ev_int))))))))) (ss_one (st_ret (ev_bl))) (ss_nil)) (ss_cons (st_if (tv_not (tv_val (ev_b1 (cr_all rfl) c1_all G.b_all rfl (PEv.b (PFr.frz (fr_lc (own := [("row", 2)]) rfl sc_are_rows.nd (it_seq (ev_var 1)) (blkOk_by (by kernel_rfl)) (fun _ _ _ _ _ => tg_name 2 sc_are_rows.nd rfl (by first | exact .inl rfl | exact .inr rfl)) (fun _ _ _ _ _ => ts_nil) (fun _ _ _ _ _ => ev_call (ok_are_suspects G) p_are_suspects_len (hr.mono (by decide)) G.g_are_suspects G.F_are_suspects.kp (G.F_are_suspects.bindsN fun _ _ _ _ _ _ us hl => match us, hl with | [_, _], _ => rfl) (by first | exact tk | exact L2.takes0) (av_cons (ev_b1 call_lenA c1_len G.b_len rfl (bv_var 0)) (av_cons (ev_var 2) av_nil))) (by decide))))))) (ss_one (st_ret (ev_bl))) (ss_nil)) (ss_one (st_ret (ev_cmp (op_ltA hu0) (OpB.s opB_lt) (PEv.b (ev_b1 (cr_max rfl) c1_max G.b_max rfl (PEv.b (ev_bin op_addA opS_add (PEv.b (PFr.frz (fr_lst (av_cons (ev_int) av_nil)))) (PEv.b (PFr.frz (fr_lc (own := [("time", 3)]) rfl sc_are_rows.nd (it_seq (ev_var 0)) (blkOk_by (by kernel_rfl)) (fun _ _ _ _ _ => tg_name 3 sc_are_rows.nd rfl (by first | exact .inl rfl | exact .inr rfl)) (fun _ _ _ _ _ => ts_one (tv_cmp op_isNotA (opB_is (neg := true)) (bv_var 3) (PEv.b (ev_non)) (by first | rfl | exact nomark _))) (fun _ _ _ _ _ => ev_var 3) (by decide)))))))) (PEv.b (ev_b1 call_lenA c1_len G.b_len rfl (bv_var 1))) (by first | rfl | exact nomark _)))))
theorem ok_Watch___init__ (G : G K mg) : FnOk P w K mg base (L2.CX P w) 7 G.a_Watch___init__ G.fd_Watch___init__ ["self", "stops", "rows"] (spI K mg 2 "Watch" p_Watch___init__) := by
  refine fn_init (k := 6) (n := 3) (np := 2) (m := b_Watch___init__) G.F_Watch___init__ sc_Watch___init__ rfl rfl ?_
  refine fun cdv A outer s H E hr => fun tk po => ?_
  have hu0 : (A.deeper (envOfC "Watch.__init__" (defScope (inClass (top 25) 0)) s.heap.objs.size G.a_Watch___init__ cdv)).units < cLine := by have := hr.un; omega
  have hu1 : (A.deeper (envOfC "Watch.__init__" (defScope (inClass (top 25) 0)) s.heap.objs.size G.a_Watch___init__ cdv)).units + 1 < cLine := by have := hr.un; omega
  have hu64 : (A.deeper (envOfC "Watch.__init__" (defScope (inClass (top 25) 0)) s.heap.objs.size G.a_Watch___init__ cdv)).units + 64 < cLine := by have := hr.un; omega
  have hu65 : (A.deeper (envOfC "Watch.__init__" (defScope (inClass (top 25) 0)) s.heap.objs.size G.a_Watch___init__ cdv)).units + 65 < cLine := by have := hr.un; omega
  unfold b_Watch___init__
  exact ss_cons (st_if (tv_not (tv_val (ev_call (ok_are_stops G) p_are_stops_len (hr.mono (by decide)) G.g_are_stops G.F_are_stops.kp (G.F_are_stops.bindsN fun _ _ _ _ _ _ us hl => match us, hl with | [_], _ => rfl) (by first | exact tk | exact L2.takes0) (av_cons (ev_var 1) av_nil)))) (ss_one (st_never)) (ss_nil)) (ss_cons (st_if (tv_not (tv_val (ev_call (ok_are_rows G) p_are_rows_len (hr.mono (by decide)) G.g_are_rows G.F_are_rows.kp (G.F_are_rows.bindsN fun _ _ _ _ _ _ us hl => match us, hl with | [_, _], _ => rfl) (by first | exact tk | exact L2.takes0) (av_cons (ev_var 1) (av_cons (ev_var 2) av_nil))))) (ss_one (st_never)) (ss_nil)) (ss_cons (st_setF 0 G.at_stops (ev_var 1)) (ss_one (st_setF 0 G.at_rows (ev_var 2)))))
theorem ok_Watch___eq__ (G : G K mg) : FnOk P w K mg base (L2.CX P w) 1 G.a_Watch___eq__ G.fd_Watch___eq__ ["self", "other"] (spOf K mg 2 p_Watch___eq__) := by
  refine fn_ok (k := 0) (n := 2) (np := 2) (m := b_Watch___eq__) G.F_Watch___eq__ sc_Watch___eq__ rfl rfl ?_
  refine fun cdv A outer s H E hr => fun tk po => ?_
  have hu0 : (A.deeper (envOfC "Watch.__eq__" (defScope (inClass (top 25) 1)) s.heap.objs.size G.a_Watch___eq__ cdv)).units < cLine := by have := hr.un; omega
  have hu1 : (A.deeper (envOfC "Watch.__eq__" (defScope (inClass (top 25) 1)) s.heap.objs.size G.a_Watch___eq__ cdv)).units + 1 < cLine := by have := hr.un; omega
  have hu64 : (A.deeper (envOfC "Watch.__eq__" (defScope (inClass (top 25) 1)) s.heap.objs.size G.a_Watch___eq__ cdv)).units + 64 < cLine := by have := hr.un; omega
  have hu65 : (A.deeper (envOfC "Watch.__eq__" (defScope (inClass (top 25) 1)) s.heap.objs.size G.a_Watch___eq__ cdv)).units + 65 < cLine := by have := hr.un; omega
  unfold b_Watch___eq__
  exact ss_one (st_ret (ev_and (ev_iso G.iso_Watch G.b_isinstance (bv_var 1)) (ev_and (ev_cmp (op_eqD hu64) (OpB.s opB_eq) (PEv.b (ev_attr G.at_stops (bv_var 0))) (PEv.b (ev_attr G.at_stops (bv_var 1))) (by first | rfl | exact nomark _)) (ev_one (ev_cmp (op_eqD hu64) (OpB.s opB_eq) (PEv.b (ev_attr G.at_rows (bv_var 0))) (PEv.b (ev_attr G.at_rows (bv_var 1))) (by first | rfl | exact nomark _))))))
theorem ok_up_at (G : G K mg) : FnOk P w K mg base (L2.CX P w) 1 G.a_up_at G.fd_up_at ["watch", "time"] (spOf K mg 2 p_up_at) := by
  refine fn_ok (k := 0) (n := 4) (np := 2) (m := b_up_at) G.F_up_at sc_up_at rfl rfl ?_
  refine fun cdv A outer s H E hr => fun tk po => ?_
  have hu0 : (A.deeper (envOfC "up_at" (defScope (top 26)) s.heap.objs.size G.a_up_at cdv)).units < cLine := by have := hr.un; omega
  have hu1 : (A.deeper (envOfC "up_at" (defScope (top 26)) s.heap.objs.size G.a_up_at cdv)).units + 1 < cLine := by have := hr.un; omega
  have hu64 : (A.deeper (envOfC "up_at" (defScope (top 26)) s.heap.objs.size G.a_up_at cdv)).units + 64 < cLine := by have := hr.un; omega
  have hu65 : (A.deeper (envOfC "up_at" (defScope (top 26)) s.heap.objs.size G.a_up_at cdv)).units + 65 < cLine := by have := hr.un; omega
  unfold b_up_at
  exact ss_one (st_ret (PFr.frz (fr_lc (own := [("machine", 2), ("stop", 3)]) rfl sc_up_at.nd (it_enumA rfl G.b_enumerate (av_cons (ev_attr G.at_stops (bv_var 0)) av_nil)) (blkOk_by (by kernel_rfl)) (fun _ _ _ _ _ => tg_sq rfl (tgs_cons (tg_name 2 sc_up_at.nd rfl (by first | exact .inl rfl | exact .inr rfl)) (tgs_cons (tg_name 3 sc_up_at.nd rfl (by first | exact .inl rfl | exact .inr rfl)) tgs_nil))) (fun _ _ _ _ _ => ts_one (PWv.t (wv_or (tv_cmp op_isA (opB_is (neg := false)) (bv_var 3) (PEv.b (ev_non)) (by first | rfl | exact nomark _)) (wv_or1 (tv_cmp op_gt opB_gt (bv_var 3) (bv_var 1) (by first | rfl | exact nomark _)))))) (fun _ _ _ _ _ => ev_var 2) (by decide))))
theorem ok_lasting (G : G K mg) : FnOk P w K mg base (L2.CX P w) 1 G.a_lasting G.fd_lasting ["watch"] (spOf K mg 1 p_lasting) := by
  refine fn_ok (k := 0) (n := 3) (np := 1) (m := b_lasting) G.F_lasting sc_lasting rfl rfl ?_
  refine fun cdv A outer s H E hr => fun tk po => ?_
  have hu0 : (A.deeper (envOfC "lasting" (defScope (top 27)) s.heap.objs.size G.a_lasting cdv)).units < cLine := by have := hr.un; omega
  have hu1 : (A.deeper (envOfC "lasting" (defScope (top 27)) s.heap.objs.size G.a_lasting cdv)).units + 1 < cLine := by have := hr.un; omega
  have hu64 : (A.deeper (envOfC "lasting" (defScope (top 27)) s.heap.objs.size G.a_lasting cdv)).units + 64 < cLine := by have := hr.un; omega
  have hu65 : (A.deeper (envOfC "lasting" (defScope (top 27)) s.heap.objs.size G.a_lasting cdv)).units + 65 < cLine := by have := hr.un; omega
  unfold b_lasting
  exact ss_one (st_ret (PFr.frz (fr_lc (own := [("machine", 1), ("stop", 2)]) rfl sc_lasting.nd (it_enumA rfl G.b_enumerate (av_cons (ev_attr G.at_stops (bv_var 0)) av_nil)) (blkOk_by (by kernel_rfl)) (fun _ _ _ _ _ => tg_sq rfl (tgs_cons (tg_name 1 sc_lasting.nd rfl (by first | exact .inl rfl | exact .inr rfl)) (tgs_cons (tg_name 2 sc_lasting.nd rfl (by first | exact .inl rfl | exact .inr rfl)) tgs_nil))) (fun _ _ _ _ _ => ts_one (tv_cmp op_isA (opB_is (neg := false)) (bv_var 2) (PEv.b (ev_non)) (by first | rfl | exact nomark _))) (fun _ _ _ _ _ => ev_var 1) (by decide))))
theorem ok_suspected_by (G : G K mg) : FnOk P w K mg base (L2.CX P w) 1 G.a_suspected_by G.fd_suspected_by ["row", "machine", "some"] (spOf K mg 3 p_suspected_by) := by
  refine fn_ok (k := 0) (n := 4) (np := 3) (m := b_suspected_by) G.F_suspected_by sc_suspected_by rfl rfl ?_
  refine fun cdv A outer s H E hr => fun tk po => ?_
  have hu0 : (A.deeper (envOfC "suspected_by" (defScope (top 28)) s.heap.objs.size G.a_suspected_by cdv)).units < cLine := by have := hr.un; omega
  have hu1 : (A.deeper (envOfC "suspected_by" (defScope (top 28)) s.heap.objs.size G.a_suspected_by cdv)).units + 1 < cLine := by have := hr.un; omega
  have hu64 : (A.deeper (envOfC "suspected_by" (defScope (top 28)) s.heap.objs.size G.a_suspected_by cdv)).units + 64 < cLine := by have := hr.un; omega
  have hu65 : (A.deeper (envOfC "suspected_by" (defScope (top 28)) s.heap.objs.size G.a_suspected_by cdv)).units + 65 < cLine := by have := hr.un; omega
  unfold b_suspected_by
  exact ss_one (st_ret (PFr.frz (fr_lc (own := [("other", 3)]) rfl sc_suspected_by.nd (it_seq (ev_var 2)) (blkOk_by (by kernel_rfl)) (fun _ _ _ _ _ => tg_name 3 sc_suspected_by.nd rfl (by first | exact .inl rfl | exact .inr rfl)) (fun _ _ _ _ _ => ts_one (tv_cmp (op_inA hu65) (opB_in (neg := false)) (bv_var 1) (PEv.b (ev_ix hu65 (bv_var 0) (bv_var 3))) (by first | rfl | exact nomark _))) (fun _ _ _ _ _ => ev_var 3) (by decide))))
theorem ok_is_complete (G : G K mg) : FnOk P w K mg base (L2.CX P w) 2 G.a_is_complete G.fd_is_complete ["watch", "is_weak"] (spOf K mg 2 p_is_complete) := by
  refine fn_ok (k := 1) (n := 8) (np := 2) (m := b_is_complete) G.F_is_complete sc_is_complete rfl rfl ?_
  refine fun cdv A outer s H E hr => fun tk po => ?_
  have hu0 : (A.deeper (envOfC "is_complete" (defScope (top 29)) s.heap.objs.size G.a_is_complete cdv)).units < cLine := by have := hr.un; omega
  have hu1 : (A.deeper (envOfC "is_complete" (defScope (top 29)) s.heap.objs.size G.a_is_complete cdv)).units + 1 < cLine := by have := hr.un; omega
  have hu64 : (A.deeper (envOfC "is_complete" (defScope (top 29)) s.heap.objs.size G.a_is_complete cdv)).units + 64 < cLine := by have := hr.un; omega
  have hu65 : (A.deeper (envOfC "is_complete" (defScope (top 29)) s.heap.objs.size G.a_is_complete cdv)).units + 65 < cLine := by have := hr.un; omega
  unfold b_is_complete
  exact ss_cons ((by first | exact st_setLc (own := [("machine", 5), ("stop", 6)]) rfl sc_is_complete.nd rfl rfl rfl (it_enumA rfl G.b_enumerate (av_cons (ev_attr G.at_stops (bv_var 0)) av_nil)) (blkOk_by (by kernel_rfl)) (fun _ _ _ _ _ => tg_sq rfl (tgs_cons (tg_name 5 sc_is_complete.nd rfl (by first | exact .inl rfl | exact .inr rfl)) (tgs_cons (tg_name 6 sc_is_complete.nd rfl (by first | exact .inl rfl | exact .inr rfl)) tgs_nil))) (fun _ _ _ _ _ => ts_one (tv_cmp op_isNotA (opB_is (neg := true)) (bv_var 6) (PEv.b (ev_non)) (by first | rfl | exact nomark _))) (fun _ _ _ _ _ => ev_var 5) (by decide) | exact st_asg (PFr.frzL (fr_lc (own := [("machine", 5), ("stop", 6)]) rfl sc_is_complete.nd (it_enumA rfl G.b_enumerate (av_cons (ev_attr G.at_stops (bv_var 0)) av_nil)) (blkOk_by (by kernel_rfl)) (fun _ _ _ _ _ => tg_sq rfl (tgs_cons (tg_name 5 sc_is_complete.nd rfl (by first | exact .inl rfl | exact .inr rfl)) (tgs_cons (tg_name 6 sc_is_complete.nd rfl (by first | exact .inl rfl | exact .inr rfl)) tgs_nil))) (fun _ _ _ _ _ => ts_one (tv_cmp op_isNotA (opB_is (neg := true)) (bv_var 6) (PEv.b (ev_non)) (by first | rfl | exact nomark _))) (fun _ _ _ _ _ => ev_var 5) (by decide))) (tg_name 2 sc_is_complete.nd rfl (by first | exact .inl rfl | exact .inr rfl)))) (ss_cons ((by first | exact st_setLc (own := [("machine", 5)]) rfl sc_is_complete.nd rfl rfl rfl (it_seq (ev_var 2)) (blkOk_by (by kernel_rfl)) (fun _ _ _ _ _ => tg_name 5 sc_is_complete.nd rfl (by first | exact .inl rfl | exact .inr rfl)) (fun _ _ _ _ _ => ts_nil) (fun _ _ _ _ _ => ev_b1 call_lenA c1_len G.b_len rfl (PEv.b (ev_call (ok_suspected_by G) p_suspected_by_len (hr.mono (by decide)) G.g_suspected_by G.F_suspected_by.kp (G.F_suspected_by.bindsN fun _ _ _ _ _ _ us hl => match us, hl with | [_, _, _], _ => rfl) (by first | exact tk | exact L2.takes0) (av_cons (ev_ix hu65 (PEv.b (ev_attr G.at_rows (bv_var 0))) (PEv.b (ev_neg (PEv.b (ev_int))))) (av_cons (ev_var 5) (av_cons (ev_call (ok_lasting G) p_lasting_len (hr.mono (by decide)) G.g_lasting G.F_lasting.kp (G.F_lasting.bindsN fun _ _ _ _ _ _ us hl => match us, hl with | [_], _ => rfl) (by first | exact tk | exact L2.takes0) (av_cons (ev_var 0) av_nil)) av_nil)))))) (by decide) | exact st_asg (PFr.frzL (fr_lc (own := [("machine", 5)]) rfl sc_is_complete.nd (it_seq (ev_var 2)) (blkOk_by (by kernel_rfl)) (fun _ _ _ _ _ => tg_name 5 sc_is_complete.nd rfl (by first | exact .inl rfl | exact .inr rfl)) (fun _ _ _ _ _ => ts_nil) (fun _ _ _ _ _ => ev_b1 call_lenA c1_len G.b_len rfl (PEv.b (ev_call (ok_suspected_by G) p_suspected_by_len (hr.mono (by decide)) G.g_suspected_by G.F_suspected_by.kp (G.F_suspected_by.bindsN fun _ _ _ _ _ _ us hl => match us, hl with | [_, _, _], _ => rfl) (by first | exact tk | exact L2.takes0) (av_cons (ev_ix hu65 (PEv.b (ev_attr G.at_rows (bv_var 0))) (PEv.b (ev_neg (PEv.b (ev_int))))) (av_cons (ev_var 5) (av_cons (ev_call (ok_lasting G) p_lasting_len (hr.mono (by decide)) G.g_lasting G.F_lasting.kp (G.F_lasting.bindsN fun _ _ _ _ _ _ us hl => match us, hl with | [_], _ => rfl) (by first | exact tk | exact L2.takes0) (av_cons (ev_var 0) av_nil)) av_nil)))))) (by decide))) (tg_name 3 sc_is_complete.nd rfl (by first | exact .inl rfl | exact .inr rfl)))) (ss_cons (st_asg (ev_if (tv_val (ev_var 1)) (ev_int) (ev_b1 call_lenA c1_len G.b_len rfl (PEv.b (ev_call (ok_lasting G) p_lasting_len (hr.mono (by decide)) G.g_lasting G.F_lasting.kp (G.F_lasting.bindsN fun _ _ _ _ _ _ us hl => match us, hl with | [_], _ => rfl) (by first | exact tk | exact L2.takes0) (av_cons (ev_var 0) av_nil))))) (tg_name 4 sc_is_complete.nd rfl (by first | exact .inl rfl | exact .inr rfl))) (ss_one (st_ret (ev_b1 (cr_all rfl) c1_all G.b_all rfl (PEv.b (PFr.frz (fr_lc (own := [("count", 7)]) rfl sc_is_complete.nd (it_seq (ev_var 3)) (blkOk_by (by kernel_rfl)) (fun _ _ _ _ _ => tg_name 7 sc_is_complete.nd rfl (by first | exact .inl rfl | exact .inr rfl)) (fun _ _ _ _ _ => ts_nil) (fun _ _ _ _ _ => ev_cmp op_ge (OpB.s opB_ge) (bv_var 7) (bv_var 4) (by first | rfl | exact nomark _)) (by decide)))))))))
theorem ok_is_spared (G : G K mg) : FnOk P w K mg base (L2.CX P w) 2 G.a_is_spared G.fd_is_spared ["watch", "machine", "is_later"] (spOf K mg 3 p_is_spared) := by
  refine fn_ok (k := 1) (n := 6) (np := 3) (m := b_is_spared) G.F_is_spared sc_is_spared rfl rfl ?_
  refine fun cdv A outer s H E hr => fun tk po => ?_
  have hu0 : (A.deeper (envOfC "is_spared" (defScope (top 30)) s.heap.objs.size G.a_is_spared cdv)).units < cLine := by have := hr.un; omega
  have hu1 : (A.deeper (envOfC "is_spared" (defScope (top 30)) s.heap.objs.size G.a_is_spared cdv)).units + 1 < cLine := by have := hr.un; omega
  have hu64 : (A.deeper (envOfC "is_spared" (defScope (top 30)) s.heap.objs.size G.a_is_spared cdv)).units + 64 < cLine := by have := hr.un; omega
  have hu65 : (A.deeper (envOfC "is_spared" (defScope (top 30)) s.heap.objs.size G.a_is_spared cdv)).units + 65 < cLine := by have := hr.un; omega
  unfold b_is_spared l_is_spared_0
  exact ss_cons (st_if (tv_val (ev_var 2)) (ss_one (st_ret (ev_cmp (op_eqD hu64) (OpB.s opB_eq) (PEv.b (ev_call (ok_suspected_by G) p_suspected_by_len (hr.mono (by decide)) G.g_suspected_by G.F_suspected_by.kp (G.F_suspected_by.bindsN fun _ _ _ _ _ _ us hl => match us, hl with | [_, _, _], _ => rfl) (by first | exact tk | exact L2.takes0) (av_cons (ev_ix hu65 (PEv.b (ev_attr G.at_rows (bv_var 0))) (PEv.b (ev_neg (PEv.b (ev_int))))) (av_cons (ev_var 1) (av_cons (ev_call (ok_lasting G) p_lasting_len (hr.mono (by decide)) G.g_lasting G.F_lasting.kp (G.F_lasting.bindsN fun _ _ _ _ _ _ us hl => match us, hl with | [_], _ => rfl) (by first | exact tk | exact L2.takes0) (av_cons (ev_var 0) av_nil)) av_nil))))) (PEv.b (PFr.frz (fr_lst av_nil))) (by first | rfl | exact nomark _)))) (ss_nil)) (ss_cons (st_for po rfl (it_enumA rfl G.b_enumerate (av_cons (ev_attr G.at_rows (bv_var 0)) av_nil)) (tg_sq rfl (tgs_cons (tg_name 3 sc_is_spared.nd rfl (by first | exact .inl rfl | exact .inr rfl)) (tgs_cons (tg_name 4 sc_is_spared.nd rfl (by first | exact .inl rfl | exact .inr rfl)) tgs_nil))) (ss_cons (st_asg (ev_call (ok_up_at G) p_up_at_len (hr.mono (by decide)) G.g_up_at G.F_up_at.kp (G.F_up_at.bindsN fun _ _ _ _ _ _ us hl => match us, hl with | [_, _], _ => rfl) (by first | exact tk | exact L2.takes0) (av_cons (ev_var 0) (av_cons (ev_var 3) av_nil))) (tg_name 5 sc_is_spared.nd rfl (by first | exact .inl rfl | exact .inr rfl))) (ss_one (st_if (PWv.t (wv_and (tv_cmp (op_inA hu65) (opB_in (neg := false)) (bv_var 1) (bv_var 5) (by first | rfl | exact nomark _)) (wv_and1 (tv_cmp (op_neD hu64) opB_ne (PEv.b (ev_call (ok_suspected_by G) p_suspected_by_len (hr.mono (by decide)) G.g_suspected_by G.F_suspected_by.kp (G.F_suspected_by.bindsN fun _ _ _ _ _ _ us hl => match us, hl with | [_, _, _], _ => rfl) (by first | exact tk | exact L2.takes0) (av_cons (ev_var 4) (av_cons (ev_var 1) (av_cons (ev_var 5) av_nil))))) (PEv.b (PFr.frz (fr_lst av_nil))) (by first | rfl | exact nomark _))))) (ss_one (st_ret (ev_bl))) (ss_nil))))) (ss_one (st_ret (ev_bl))))
theorem ok_has_accuracy (G : G K mg) : FnOk P w K mg base (L2.CX P w) 3 G.a_has_accuracy G.fd_has_accuracy ["watch", "is_weak", "is_later"] (spOf K mg 3 p_has_accuracy) := by
  refine fn_ok (k := 2) (n := 6) (np := 3) (m := b_has_accuracy) G.F_has_accuracy sc_has_accuracy rfl rfl ?_
  refine fun cdv A outer s H E hr => fun tk po => ?_
  have hu0 : (A.deeper (envOfC "has_accuracy" (defScope (top 31)) s.heap.objs.size G.a_has_accuracy cdv)).units < cLine := by have := hr.un; omega
  have hu1 : (A.deeper (envOfC "has_accuracy" (defScope (top 31)) s.heap.objs.size G.a_has_accuracy cdv)).units + 1 < cLine := by have := hr.un; omega
  have hu64 : (A.deeper (envOfC "has_accuracy" (defScope (top 31)) s.heap.objs.size G.a_has_accuracy cdv)).units + 64 < cLine := by have := hr.un; omega
  have hu65 : (A.deeper (envOfC "has_accuracy" (defScope (top 31)) s.heap.objs.size G.a_has_accuracy cdv)).units + 65 < cLine := by have := hr.un; omega
  unfold b_has_accuracy
  exact ss_cons (st_asg (ev_if (PWv.t (wv_or (tv_val (ev_var 1)) (wv_or1 (tv_val (ev_var 2))))) (ev_call (ok_lasting G) p_lasting_len (hr.mono (by decide)) G.g_lasting G.F_lasting.kp (G.F_lasting.bindsN fun _ _ _ _ _ _ us hl => match us, hl with | [_], _ => rfl) (by first | exact tk | exact L2.takes0) (av_cons (ev_var 0) av_nil)) (PFr.frz (fr_listRg1 rfl G.b_list G.b_range (PEv.b (ev_b1 call_lenA c1_len G.b_len rfl (PEv.b (ev_attr G.at_stops (bv_var 0)))))))) (tg_name 3 sc_has_accuracy.nd rfl (by first | exact .inl rfl | exact .inr rfl))) (ss_cons ((by first | exact st_setLc (own := [("machine", 5)]) rfl sc_has_accuracy.nd rfl rfl rfl (it_seq (ev_var 3)) (blkOk_by (by kernel_rfl)) (fun _ _ _ _ _ => tg_name 5 sc_has_accuracy.nd rfl (by first | exact .inl rfl | exact .inr rfl)) (fun _ _ _ _ _ => ts_nil) (fun _ _ _ _ _ => ev_call (ok_is_spared G) p_is_spared_len (hr.mono (by decide)) G.g_is_spared G.F_is_spared.kp (G.F_is_spared.bindsN fun _ _ _ _ _ _ us hl => match us, hl with | [_, _, _], _ => rfl) (by first | exact tk | exact L2.takes0) (av_cons (ev_var 0) (av_cons (ev_var 5) (av_cons (ev_var 2) av_nil)))) (by decide) | exact st_asg (PFr.frzL (fr_lc (own := [("machine", 5)]) rfl sc_has_accuracy.nd (it_seq (ev_var 3)) (blkOk_by (by kernel_rfl)) (fun _ _ _ _ _ => tg_name 5 sc_has_accuracy.nd rfl (by first | exact .inl rfl | exact .inr rfl)) (fun _ _ _ _ _ => ts_nil) (fun _ _ _ _ _ => ev_call (ok_is_spared G) p_is_spared_len (hr.mono (by decide)) G.g_is_spared G.F_is_spared.kp (G.F_is_spared.bindsN fun _ _ _ _ _ _ us hl => match us, hl with | [_, _, _], _ => rfl) (by first | exact tk | exact L2.takes0) (av_cons (ev_var 0) (av_cons (ev_var 5) (av_cons (ev_var 2) av_nil)))) (by decide))) (tg_name 4 sc_has_accuracy.nd rfl (by first | exact .inl rfl | exact .inr rfl)))) (ss_one (st_ret (ev_if (tv_val (ev_var 1)) (ev_b1 (cr_any rfl) c1_any G.b_any rfl (bv_var 4)) (ev_b1 (cr_all rfl) c1_all G.b_all rfl (bv_var 4))))))
theorem ok_has_name (G : G K mg) : FnOk P w K mg base (L2.CX P w) 4 G.a_has_name G.fd_has_name ["watch", "name"] (spOf K mg 2 p_has_name) := by
  refine fn_ok (k := 3) (n := 2) (np := 2) (m := b_has_name) G.F_has_name sc_has_name rfl rfl ?_
  refine fun cdv A outer s H E hr => fun tk po => ?_
  have hu0 : (A.deeper (envOfC "has_name" (defScope (top 32)) s.heap.objs.size G.a_has_name cdv)).units < cLine := by have := hr.un; omega
  have hu1 : (A.deeper (envOfC "has_name" (defScope (top 32)) s.heap.objs.size G.a_has_name cdv)).units + 1 < cLine := by have := hr.un; omega
  have hu64 : (A.deeper (envOfC "has_name" (defScope (top 32)) s.heap.objs.size G.a_has_name cdv)).units + 64 < cLine := by have := hr.un; omega
  have hu65 : (A.deeper (envOfC "has_name" (defScope (top 32)) s.heap.objs.size G.a_has_name cdv)).units + 65 < cLine := by have := hr.un; omega
  unfold b_has_name
  exact ss_cons (st_if (tv_cmp (op_inA hu65) (opB_in (neg := false)) (bv_var 1) (PEv.b (ev_tup (av_cons (ev_str) (av_cons (ev_str) av_nil)))) (by first | rfl | exact nomark _)) (ss_one (st_ret (ev_call (ok_is_complete G) p_is_complete_len (hr.mono (by decide)) G.g_is_complete G.F_is_complete.kp (G.F_is_complete.bindsN fun _ _ _ _ _ _ us hl => match us, hl with | [_, _], _ => rfl) (by first | exact tk | exact L2.takes0) (av_cons (ev_var 0) (av_cons (ev_cmp (op_eqD hu64) (OpB.s opB_eq) (bv_var 1) (PEv.b (ev_str)) (by first | rfl | exact nomark _)) av_nil))))) (ss_nil)) (ss_one (st_ret (ev_call (ok_has_accuracy G) p_has_accuracy_len (hr.mono (by decide)) G.g_has_accuracy G.F_has_accuracy.kp (G.F_has_accuracy.bindsN fun _ _ _ _ _ _ us hl => match us, hl with | [_, _, _], _ => rfl) (by first | exact tk | exact L2.takes0) (av_cons (ev_var 0) (av_cons (ev_cmp (op_inA hu65) (OpB.s (opB_in (neg := false))) (PEv.b (ev_str)) (bv_var 1) (by first | rfl | exact nomark _)) (av_cons (ev_cmp (op_inA hu65) (OpB.s (opB_in (neg := false))) (PEv.b (ev_str)) (bv_var 1) (by first | rfl | exact nomark _)) av_nil))))))
theorem ok_watch_has (G : G K mg) : FnOk P w K mg base (L2.CX P w) 5 G.a_watch_has G.fd_watch_has ["watch", "name"] (spOf K mg 2 p_watch_has) := by
  refine fn_ok (k := 4) (n := 2) (np := 2) (m := b_watch_has) G.F_watch_has sc_watch_has rfl rfl ?_
  refine fun cdv A outer s H E hr => fun tk po => ?_
  have hu0 : (A.deeper (envOfC "watch_has" (defScope (top 33)) s.heap.objs.size G.a_watch_has cdv)).units < cLine := by have := hr.un; omega
  have hu1 : (A.deeper (envOfC "watch_has" (defScope (top 33)) s.heap.objs.size G.a_watch_has cdv)).units + 1 < cLine := by have := hr.un; omega
  have hu64 : (A.deeper (envOfC "watch_has" (defScope (top 33)) s.heap.objs.size G.a_watch_has cdv)).units + 64 < cLine := by have := hr.un; omega
  have hu65 : (A.deeper (envOfC "watch_has" (defScope (top 33)) s.heap.objs.size G.a_watch_has cdv)).units + 65 < cLine := by have := hr.un; omega
  unfold b_watch_has
  exact ss_cons (st_if (PWv.t (wv_or (tv_not (tv_val (ev_isi .str G.b_isinstance G.b_str rfl (bv_var 1)))) (wv_or1 (tv_cmp (op_notInA hu65) (opB_in (neg := true)) (bv_var 1) (PEv.b (ev_gtup G.t_NAMES)) (by first | rfl | exact nomark _))))) (ss_one (st_never)) (ss_nil)) (ss_one (st_ret (ev_call (ok_has_name G) p_has_name_len (hr.mono (by decide)) G.g_has_name G.F_has_name.kp (G.F_has_name.bindsN fun _ _ _ _ _ _ us hl => match us, hl with | [_, _], _ => rfl) (by first | exact tk | exact L2.takes0) (av_cons (ev_var 0) (av_cons (ev_var 1) av_nil)))))
theorem ok_watch_class (G : G K mg) : FnOk P w K mg base (L2.CX P w) 5 G.a_watch_class G.fd_watch_class ["watch"] (spOf K mg 1 p_watch_class) := by
  refine fn_ok (k := 4) (n := 4) (np := 1) (m := b_watch_class) G.F_watch_class sc_watch_class rfl rfl ?_
  refine fun cdv A outer s H E hr => fun tk po => ?_
  have hu0 : (A.deeper (envOfC "watch_class" (defScope (top 34)) s.heap.objs.size G.a_watch_class cdv)).units < cLine := by have := hr.un; omega
  have hu1 : (A.deeper (envOfC "watch_class" (defScope (top 34)) s.heap.objs.size G.a_watch_class cdv)).units + 1 < cLine := by have := hr.un; omega
  have hu64 : (A.deeper (envOfC "watch_class" (defScope (top 34)) s.heap.objs.size G.a_watch_class cdv)).units + 64 < cLine := by have := hr.un; omega
  have hu65 : (A.deeper (envOfC "watch_class" (defScope (top 34)) s.heap.objs.size G.a_watch_class cdv)).units + 65 < cLine := by have := hr.un; omega
  unfold b_watch_class
  exact ss_cons (st_if (tv_not (tv_val (ev_call (ok_has_name G) p_has_name_len (hr.mono (by decide)) G.g_has_name G.F_has_name.kp (G.F_has_name.bindsN fun _ _ _ _ _ _ us hl => match us, hl with | [_, _], _ => rfl) (by first | exact tk | exact L2.takes0) (av_cons (ev_var 0) (av_cons (ev_str) av_nil))))) (ss_one (st_ret (ev_gstr G.s_NONE))) (ss_nil)) (ss_cons ((by first | exact st_setLc (own := [("word", 2), ("name", 3)]) rfl sc_watch_class.nd rfl rfl rfl (it_zipr rfl G.b_zip (av_cons (ev_gtup G.t_CLASSES) (av_cons (ev_slice (PEv.b (ev_gtup G.t_NAMES)) (ov_some (ev_int)) (ov_none)) av_nil))) (blkOk_by (by kernel_rfl)) (fun _ _ _ _ _ => tg_sq rfl (tgs_cons (tg_name 2 sc_watch_class.nd rfl (by first | exact .inl rfl | exact .inr rfl)) (tgs_cons (tg_name 3 sc_watch_class.nd rfl (by first | exact .inl rfl | exact .inr rfl)) tgs_nil))) (fun _ _ _ _ _ => ts_one (tv_val (ev_call (ok_has_name G) p_has_name_len (hr.mono (by decide)) G.g_has_name G.F_has_name.kp (G.F_has_name.bindsN fun _ _ _ _ _ _ us hl => match us, hl with | [_, _], _ => rfl) (by first | exact tk | exact L2.takes0) (av_cons (ev_var 0) (av_cons (ev_var 3) av_nil))))) (fun _ _ _ _ _ => ev_var 2) (by decide) | exact st_asg (PFr.frzL (fr_lc (own := [("word", 2), ("name", 3)]) rfl sc_watch_class.nd (it_zipr rfl G.b_zip (av_cons (ev_gtup G.t_CLASSES) (av_cons (ev_slice (PEv.b (ev_gtup G.t_NAMES)) (ov_some (ev_int)) (ov_none)) av_nil))) (blkOk_by (by kernel_rfl)) (fun _ _ _ _ _ => tg_sq rfl (tgs_cons (tg_name 2 sc_watch_class.nd rfl (by first | exact .inl rfl | exact .inr rfl)) (tgs_cons (tg_name 3 sc_watch_class.nd rfl (by first | exact .inl rfl | exact .inr rfl)) tgs_nil))) (fun _ _ _ _ _ => ts_one (tv_val (ev_call (ok_has_name G) p_has_name_len (hr.mono (by decide)) G.g_has_name G.F_has_name.kp (G.F_has_name.bindsN fun _ _ _ _ _ _ us hl => match us, hl with | [_, _], _ => rfl) (by first | exact tk | exact L2.takes0) (av_cons (ev_var 0) (av_cons (ev_var 3) av_nil))))) (fun _ _ _ _ _ => ev_var 2) (by decide))) (tg_name 1 sc_watch_class.nd rfl (by first | exact .inl rfl | exact .inr rfl)))) (ss_one (st_ret (ev_if (tv_cmp (op_neD hu64) opB_ne (bv_var 1) (PEv.b (PFr.frz (fr_lst av_nil))) (by first | rfl | exact nomark _)) (ev_ix hu65 (bv_var 1) (PEv.b (ev_int))) (ev_gstr G.s_NONE)))))
theorem ok_shared_row (G : G K mg) : FnOk P w K mg base (L2.CX P w) 2 G.a_shared_row G.fd_shared_row ["watch", "time", "row"] (spOf K mg 3 p_shared_row) := by
  refine fn_ok (k := 1) (n := 6) (np := 3) (m := b_shared_row) G.F_shared_row sc_shared_row rfl rfl ?_
  refine fun cdv A outer s H E hr => fun tk po => ?_
  have hu0 : (A.deeper (envOfC "shared_row" (defScope (top 35)) s.heap.objs.size G.a_shared_row cdv)).units < cLine := by have := hr.un; omega
  have hu1 : (A.deeper (envOfC "shared_row" (defScope (top 35)) s.heap.objs.size G.a_shared_row cdv)).units + 1 < cLine := by have := hr.un; omega
  have hu64 : (A.deeper (envOfC "shared_row" (defScope (top 35)) s.heap.objs.size G.a_shared_row cdv)).units + 64 < cLine := by have := hr.un; omega
  have hu65 : (A.deeper (envOfC "shared_row" (defScope (top 35)) s.heap.objs.size G.a_shared_row cdv)).units + 65 < cLine := by have := hr.un; omega
  unfold b_shared_row
  exact ss_cons (st_asg (ev_call (ok_up_at G) p_up_at_len (hr.mono (by decide)) G.g_up_at G.F_up_at.kp (G.F_up_at.bindsN fun _ _ _ _ _ _ us hl => match us, hl with | [_, _], _ => rfl) (by first | exact tk | exact L2.takes0) (av_cons (ev_var 0) (av_cons (ev_var 1) av_nil))) (tg_name 3 sc_shared_row.nd rfl (by first | exact .inl rfl | exact .inr rfl))) (ss_cons ((by first | exact st_setLc (own := [("machine", 5)]) rfl sc_shared_row.nd rfl rfl rfl (it_rg1 rfl G.b_range (av_cons (ev_b1 call_lenA c1_len G.b_len rfl (bv_var 2)) av_nil)) (blkOk_by (by kernel_rfl)) (fun _ _ _ _ _ => tg_name 5 sc_shared_row.nd rfl (by first | exact .inl rfl | exact .inr rfl)) (fun _ _ _ _ _ => ts_one (PWv.t (wv_and (tv_cmp (op_notInA hu65) (opB_in (neg := true)) (bv_var 5) (bv_var 3) (by first | rfl | exact nomark _)) (wv_and1 (tv_cmp (op_neD hu64) opB_ne (PEv.b (ev_call (ok_suspected_by G) p_suspected_by_len (hr.mono (by decide)) G.g_suspected_by G.F_suspected_by.kp (G.F_suspected_by.bindsN fun _ _ _ _ _ _ us hl => match us, hl with | [_, _, _], _ => rfl) (by first | exact tk | exact L2.takes0) (av_cons (ev_var 2) (av_cons (ev_var 5) (av_cons (ev_var 3) av_nil))))) (PEv.b (PFr.frz (fr_lst av_nil))) (by first | rfl | exact nomark _)))))) (fun _ _ _ _ _ => ev_var 5) (by decide) | exact st_asg (PFr.frzL (fr_lc (own := [("machine", 5)]) rfl sc_shared_row.nd (it_rg1 rfl G.b_range (av_cons (ev_b1 call_lenA c1_len G.b_len rfl (bv_var 2)) av_nil)) (blkOk_by (by kernel_rfl)) (fun _ _ _ _ _ => tg_name 5 sc_shared_row.nd rfl (by first | exact .inl rfl | exact .inr rfl)) (fun _ _ _ _ _ => ts_one (PWv.t (wv_and (tv_cmp (op_notInA hu65) (opB_in (neg := true)) (bv_var 5) (bv_var 3) (by first | rfl | exact nomark _)) (wv_and1 (tv_cmp (op_neD hu64) opB_ne (PEv.b (ev_call (ok_suspected_by G) p_suspected_by_len (hr.mono (by decide)) G.g_suspected_by G.F_suspected_by.kp (G.F_suspected_by.bindsN fun _ _ _ _ _ _ us hl => match us, hl with | [_, _, _], _ => rfl) (by first | exact tk | exact L2.takes0) (av_cons (ev_var 2) (av_cons (ev_var 5) (av_cons (ev_var 3) av_nil))))) (PEv.b (PFr.frz (fr_lst av_nil))) (by first | rfl | exact nomark _)))))) (fun _ _ _ _ _ => ev_var 5) (by decide))) (tg_name 4 sc_shared_row.nd rfl (by first | exact .inl rfl | exact .inr rfl)))) (ss_one (st_ret (ev_t1 call_tuple_of c1_tuple G.b_tuple rfl (PEv.b (PFr.frz (fr_lc (own := [("machine", 5)]) rfl sc_shared_row.nd (it_rg1 rfl G.b_range (av_cons (ev_b1 call_lenA c1_len G.b_len rfl (bv_var 2)) av_nil)) (blkOk_by (by kernel_rfl)) (fun _ _ _ _ _ => tg_name 5 sc_shared_row.nd rfl (by first | exact .inl rfl | exact .inr rfl)) (fun _ _ _ _ _ => ts_nil) (fun _ _ _ _ _ => ev_if (tv_cmp (op_inA hu65) (opB_in (neg := false)) (bv_var 5) (bv_var 3) (by first | rfl | exact nomark _)) (ev_t1 call_tuple_of c1_tuple G.b_tuple rfl (bv_var 4)) (ev_tup av_nil)) (by decide))))))))
theorem ok_shared_watch (G : G K mg) : FnOk P w K mg base (L2.CX P w) 9 G.a_shared_watch G.fd_shared_watch ["watch"] (spOf K mg 1 p_shared_watch) := by
  refine fn_ok (k := 8) (n := 3) (np := 1) (m := b_shared_watch) G.F_shared_watch sc_shared_watch rfl rfl ?_
  refine fun cdv A outer s H E hr => fun tk po => ?_
  have hu0 : (A.deeper (envOfC "shared_watch" (defScope (top 36)) s.heap.objs.size G.a_shared_watch cdv)).units < cLine := by have := hr.un; omega
  have hu1 : (A.deeper (envOfC "shared_watch" (defScope (top 36)) s.heap.objs.size G.a_shared_watch cdv)).units + 1 < cLine := by have := hr.un; omega
  have hu64 : (A.deeper (envOfC "shared_watch" (defScope (top 36)) s.heap.objs.size G.a_shared_watch cdv)).units + 64 < cLine := by have := hr.un; omega
  have hu65 : (A.deeper (envOfC "shared_watch" (defScope (top 36)) s.heap.objs.size G.a_shared_watch cdv)).units + 65 < cLine := by have := hr.un; omega
  unfold b_shared_watch
  exact ss_one (st_ret (ev_make G.mk_Watch (ok_Watch___init__ G) p_Watch___init___len (hr.mono (by decide)) G.g_Watch (kwB_of (n := 3) (ks := []) (ix := [0, 1, 2]) G.F_Watch___init__ fun _ _ _ _ _ _ us ws h1 h2 => match us, ws, h1, h2 with | [_, _, _], [], _, _ => rfl) rfl (by first | exact tk | exact L2.takes0) (av_cons (ev_attr G.at_stops (bv_var 0)) (av_cons (ev_t1 call_tuple_of c1_tuple G.b_tuple rfl (PEv.b (PFr.frz (fr_lc (own := [("time", 1), ("row", 2)]) rfl sc_shared_watch.nd (it_enumA rfl G.b_enumerate (av_cons (ev_attr G.at_rows (bv_var 0)) av_nil)) (blkOk_by (by kernel_rfl)) (fun _ _ _ _ _ => tg_sq rfl (tgs_cons (tg_name 1 sc_shared_watch.nd rfl (by first | exact .inl rfl | exact .inr rfl)) (tgs_cons (tg_name 2 sc_shared_watch.nd rfl (by first | exact .inl rfl | exact .inr rfl)) tgs_nil))) (fun _ _ _ _ _ => ts_nil) (fun _ _ _ _ _ => ev_call (ok_shared_row G) p_shared_row_len (hr.mono (by decide)) G.g_shared_row G.F_shared_row.kp (G.F_shared_row.bindsN fun _ _ _ _ _ _ us hl => match us, hl with | [_, _, _], _ => rfl) (by first | exact tk | exact L2.takes0) (av_cons (ev_var 0) (av_cons (ev_var 1) (av_cons (ev_var 2) av_nil)))) (by decide))))) av_nil))))
theorem ok_leader_in (G : G K mg) : FnOk P w K mg base (L2.CX P w) 1 G.a_leader_in G.fd_leader_in ["row", "machine"] (spOf K mg 2 p_leader_in) := by
  refine fn_ok (k := 0) (n := 4) (np := 2) (m := b_leader_in) G.F_leader_in sc_leader_in rfl rfl ?_
  refine fun cdv A outer s H E hr => fun tk po => ?_
  have hu0 : (A.deeper (envOfC "leader_in" (defScope (top 37)) s.heap.objs.size G.a_leader_in cdv)).units < cLine := by have := hr.un; omega
  have hu1 : (A.deeper (envOfC "leader_in" (defScope (top 37)) s.heap.objs.size G.a_leader_in cdv)).units + 1 < cLine := by have := hr.un; omega
  have hu64 : (A.deeper (envOfC "leader_in" (defScope (top 37)) s.heap.objs.size G.a_leader_in cdv)).units + 64 < cLine := by have := hr.un; omega
  have hu65 : (A.deeper (envOfC "leader_in" (defScope (top 37)) s.heap.objs.size G.a_leader_in cdv)).units + 65 < cLine := by have := hr.un; omega
  unfold b_leader_in
  exact ss_cons ((by first | exact st_setLc (own := [("other", 3)]) rfl sc_leader_in.nd rfl rfl rfl (it_rg1 rfl G.b_range (av_cons (ev_b1 call_lenA c1_len G.b_len rfl (bv_var 0)) av_nil)) (blkOk_by (by kernel_rfl)) (fun _ _ _ _ _ => tg_name 3 sc_leader_in.nd rfl (by first | exact .inl rfl | exact .inr rfl)) (fun _ _ _ _ _ => ts_one (tv_cmp (op_notInA hu65) (opB_in (neg := true)) (bv_var 3) (PEv.b (ev_ix hu65 (bv_var 0) (bv_var 1))) (by first | rfl | exact nomark _))) (fun _ _ _ _ _ => ev_var 3) (by decide) | exact st_asg (PFr.frzL (fr_lc (own := [("other", 3)]) rfl sc_leader_in.nd (it_rg1 rfl G.b_range (av_cons (ev_b1 call_lenA c1_len G.b_len rfl (bv_var 0)) av_nil)) (blkOk_by (by kernel_rfl)) (fun _ _ _ _ _ => tg_name 3 sc_leader_in.nd rfl (by first | exact .inl rfl | exact .inr rfl)) (fun _ _ _ _ _ => ts_one (tv_cmp (op_notInA hu65) (opB_in (neg := true)) (bv_var 3) (PEv.b (ev_ix hu65 (bv_var 0) (bv_var 1))) (by first | rfl | exact nomark _))) (fun _ _ _ _ _ => ev_var 3) (by decide))) (tg_name 2 sc_leader_in.nd rfl (by first | exact .inl rfl | exact .inr rfl)))) (ss_one (st_ret (ev_if (tv_cmp (op_neD hu64) opB_ne (bv_var 2) (PEv.b (PFr.frz (fr_lst av_nil))) (by first | rfl | exact nomark _)) (ev_ix hu65 (bv_var 2) (PEv.b (ev_int))) (ev_non))))
theorem ok_leader_at (G : G K mg) : FnOk P w K mg base (L2.CX P w) 3 G.a_leader_at G.fd_leader_at ["watch", "time", "machine"] (spOf K mg 3 p_leader_at) := by
  refine fn_ok (k := 2) (n := 3) (np := 3) (m := b_leader_at) G.F_leader_at sc_leader_at rfl rfl ?_
  refine fun cdv A outer s H E hr => fun tk po => ?_
  have hu0 : (A.deeper (envOfC "leader_at" (defScope (top 38)) s.heap.objs.size G.a_leader_at cdv)).units < cLine := by have := hr.un; omega
  have hu1 : (A.deeper (envOfC "leader_at" (defScope (top 38)) s.heap.objs.size G.a_leader_at cdv)).units + 1 < cLine := by have := hr.un; omega
  have hu64 : (A.deeper (envOfC "leader_at" (defScope (top 38)) s.heap.objs.size G.a_leader_at cdv)).units + 64 < cLine := by have := hr.un; omega
  have hu65 : (A.deeper (envOfC "leader_at" (defScope (top 38)) s.heap.objs.size G.a_leader_at cdv)).units + 65 < cLine := by have := hr.un; omega
  unfold b_leader_at
  exact ss_cons (st_if (tv_not (tv_val (ev_call (ok_is_between G) p_is_between_len (hr.mono (by decide)) G.g_is_between G.F_is_between.kp (G.F_is_between.bindsN fun _ _ _ _ _ _ us hl => match us, hl with | [_, _, _], _ => rfl) (by first | exact tk | exact L2.takes0) (av_cons (ev_var 1) (av_cons (ev_int) (av_cons (ev_gint G.c_MOST_ASKED) av_nil)))))) (ss_one (st_never)) (ss_nil)) (ss_cons (st_if (tv_not (tv_val (ev_call (ok_is_between G) p_is_between_len (hr.mono (by decide)) G.g_is_between G.F_is_between.kp (G.F_is_between.bindsN fun _ _ _ _ _ _ us hl => match us, hl with | [_, _, _], _ => rfl) (by first | exact tk | exact L2.takes0) (av_cons (ev_var 2) (av_cons (ev_int) (av_cons (ev_bin op_subA opS_sub (PEv.b (ev_b1 call_lenA c1_len G.b_len rfl (PEv.b (ev_attr G.at_stops (bv_var 0))))) (PEv.b (ev_int))) av_nil)))))) (ss_one (st_never)) (ss_nil)) (ss_one (st_ret (ev_call (ok_leader_in G) p_leader_in_len (hr.mono (by decide)) G.g_leader_in G.F_leader_in.kp (G.F_leader_in.bindsN fun _ _ _ _ _ _ us hl => match us, hl with | [_, _], _ => rfl) (by first | exact tk | exact L2.takes0) (av_cons (ev_ix hu65 (PEv.b (ev_attr G.at_rows (bv_var 0))) (PEv.b (ev_b1 (cr_min rfl) c1_min G.b_min rfl (PEv.b (PFr.frz (fr_lst (av_cons (ev_var 1) (av_cons (ev_bin op_subA opS_sub (PEv.b (ev_b1 call_lenA c1_len G.b_len rfl (PEv.b (ev_attr G.at_rows (bv_var 0))))) (PEv.b (ev_int))) av_nil)))))))) (av_cons (ev_var 2) av_nil))))))
theorem ok_settles (G : G K mg) : FnOk P w K mg base (L2.CX P w) 2 G.a_settles G.fd_settles ["watch"] (spOf K mg 1 p_settles) := by
  refine fn_ok (k := 1) (n := 8) (np := 1) (m := b_settles) G.F_settles sc_settles rfl rfl ?_
  refine fun cdv A outer s H E hr => fun tk po => ?_
  have hu0 : (A.deeper (envOfC "settles" (defScope (top 39)) s.heap.objs.size G.a_settles cdv)).units < cLine := by have := hr.un; omega
  have hu1 : (A.deeper (envOfC "settles" (defScope (top 39)) s.heap.objs.size G.a_settles cdv)).units + 1 < cLine := by have := hr.un; omega
  have hu64 : (A.deeper (envOfC "settles" (defScope (top 39)) s.heap.objs.size G.a_settles cdv)).units + 64 < cLine := by have := hr.un; omega
  have hu65 : (A.deeper (envOfC "settles" (defScope (top 39)) s.heap.objs.size G.a_settles cdv)).units + 65 < cLine := by have := hr.un; omega
  unfold b_settles
  exact ss_cons (st_asg (ev_call (ok_lasting G) p_lasting_len (hr.mono (by decide)) G.g_lasting G.F_lasting.kp (G.F_lasting.bindsN fun _ _ _ _ _ _ us hl => match us, hl with | [_], _ => rfl) (by first | exact tk | exact L2.takes0) (av_cons (ev_var 0) av_nil)) (tg_name 1 sc_settles.nd rfl (by first | exact .inl rfl | exact .inr rfl))) (ss_cons (st_asg (ev_call (ok_leader_in G) p_leader_in_len (hr.mono (by decide)) G.g_leader_in G.F_leader_in.kp (G.F_leader_in.bindsN fun _ _ _ _ _ _ us hl => match us, hl with | [_, _], _ => rfl) (by first | exact tk | exact L2.takes0) (av_cons (ev_ix hu65 (PEv.b (ev_attr G.at_rows (bv_var 0))) (PEv.b (ev_neg (PEv.b (ev_int))))) (av_cons (ev_ix hu65 (bv_var 1) (PEv.b (ev_int))) av_nil))) (tg_name 2 sc_settles.nd rfl (by first | exact .inl rfl | exact .inr rfl))) (ss_cons (st_if (tv_cmp (op_notInA hu65) (opB_in (neg := true)) (bv_var 2) (bv_var 1) (by first | rfl | exact nomark _)) (ss_one (st_ret (ev_non))) (ss_nil)) (ss_cons ((by first | exact st_setLc (own := [("row", 4)]) rfl sc_settles.nd rfl rfl rfl (it_seq (ev_attr G.at_rows (bv_var 0))) (blkOk_by (by kernel_rfl)) (fun _ _ _ _ _ => tg_name 4 sc_settles.nd rfl (by first | exact .inl rfl | exact .inr rfl)) (fun _ _ _ _ _ => ts_nil) (fun _ _ _ _ _ => ev_b1 (cr_all rfl) c1_all G.b_all rfl (PEv.b (PFr.frz (fr_lc (own := [("machine", 5)]) rfl sc_settles.nd (it_seq (ev_var 1)) (blkOk_by (by kernel_rfl)) (fun _ _ _ _ _ => tg_name 5 sc_settles.nd rfl (by first | exact .inl rfl | exact .inr rfl)) (fun _ _ _ _ _ => ts_nil) (fun _ _ _ _ _ => ev_cmp (op_eqD hu64) (OpB.s opB_eq) (PEv.b (ev_call (ok_leader_in G) p_leader_in_len (hr.mono (by decide)) G.g_leader_in G.F_leader_in.kp (G.F_leader_in.bindsN fun _ _ _ _ _ _ us hl => match us, hl with | [_, _], _ => rfl) (by first | exact tk | exact L2.takes0) (av_cons (ev_var 4) (av_cons (ev_var 5) av_nil)))) (bv_var 2) (by first | rfl | exact nomark _)) (by decide))))) (by decide) | exact st_asg (PFr.frzL (fr_lc (own := [("row", 4)]) rfl sc_settles.nd (it_seq (ev_attr G.at_rows (bv_var 0))) (blkOk_by (by kernel_rfl)) (fun _ _ _ _ _ => tg_name 4 sc_settles.nd rfl (by first | exact .inl rfl | exact .inr rfl)) (fun _ _ _ _ _ => ts_nil) (fun _ _ _ _ _ => ev_b1 (cr_all rfl) c1_all G.b_all rfl (PEv.b (PFr.frz (fr_lc (own := [("machine", 5)]) rfl sc_settles.nd (it_seq (ev_var 1)) (blkOk_by (by kernel_rfl)) (fun _ _ _ _ _ => tg_name 5 sc_settles.nd rfl (by first | exact .inl rfl | exact .inr rfl)) (fun _ _ _ _ _ => ts_nil) (fun _ _ _ _ _ => ev_cmp (op_eqD hu64) (OpB.s opB_eq) (PEv.b (ev_call (ok_leader_in G) p_leader_in_len (hr.mono (by decide)) G.g_leader_in G.F_leader_in.kp (G.F_leader_in.bindsN fun _ _ _ _ _ _ us hl => match us, hl with | [_, _], _ => rfl) (by first | exact tk | exact L2.takes0) (av_cons (ev_var 4) (av_cons (ev_var 5) av_nil)))) (bv_var 2) (by first | rfl | exact nomark _)) (by decide))))) (by decide))) (tg_name 3 sc_settles.nd rfl (by first | exact .inl rfl | exact .inr rfl)))) (ss_cons (st_if (tv_not (tv_val (ev_ix hu65 (bv_var 3) (PEv.b (ev_neg (PEv.b (ev_int))))))) (ss_one (st_ret (ev_non))) (ss_nil)) (ss_one (st_ret (ev_b1 (cr_max rfl) c1_max G.b_max rfl (PEv.b (ev_bin op_addA opS_add (PEv.b (PFr.frz (fr_lst (av_cons (ev_int) av_nil)))) (PEv.b (PFr.frz (fr_lc (own := [("time", 6), ("is_good", 7)]) rfl sc_settles.nd (it_enumA rfl G.b_enumerate (av_cons (ev_var 3) av_nil)) (blkOk_by (by kernel_rfl)) (fun _ _ _ _ _ => tg_sq rfl (tgs_cons (tg_name 6 sc_settles.nd rfl (by first | exact .inl rfl | exact .inr rfl)) (tgs_cons (tg_name 7 sc_settles.nd rfl (by first | exact .inl rfl | exact .inr rfl)) tgs_nil))) (fun _ _ _ _ _ => ts_one (tv_not (tv_val (ev_var 7)))) (fun _ _ _ _ _ => ev_bin op_addA opS_add (bv_var 6) (PEv.b (ev_int))) (by decide)))))))))))))
theorem ok__law_cell (G : G K mg) : FnOk P w K mg base (L2.CX P w) 1 G.a__law_cell G.fd__law_cell ["script", "k"] (spOf K mg 2 p__law_cell) := by
  refine fn_ok (k := 0) (n := 2) (np := 2) (m := b__law_cell) G.F__law_cell sc__law_cell rfl rfl ?_
  refine fun cdv A outer s H E hr => fun tk po => ?_
  have hu0 : (A.deeper (envOfC "_law_cell" (defScope (top 41)) s.heap.objs.size G.a__law_cell cdv)).units < cLine := by have := hr.un; omega
  have hu1 : (A.deeper (envOfC "_law_cell" (defScope (top 41)) s.heap.objs.size G.a__law_cell cdv)).units + 1 < cLine := by have := hr.un; omega
  have hu64 : (A.deeper (envOfC "_law_cell" (defScope (top 41)) s.heap.objs.size G.a__law_cell cdv)).units + 64 < cLine := by have := hr.un; omega
  have hu65 : (A.deeper (envOfC "_law_cell" (defScope (top 41)) s.heap.objs.size G.a__law_cell cdv)).units + 65 < cLine := by have := hr.un; omega
  unfold b__law_cell
  exact ss_one (st_ret (ev_if (tv_cmp (op_ltA hu0) opB_lt (bv_var 1) (PEv.b (ev_b1 call_lenA c1_len G.b_len rfl (bv_var 0))) (by first | rfl | exact nomark _)) (ev_ix hu65 (bv_var 0) (bv_var 1)) (ev_bin op_addA opS_add (PEv.b (ev_bin op_mulE opS_mulE (PEv.b (ev_int)) (bv_var 1))) (PEv.b (ev_bin op_mod opS_mod (PEv.b (ev_t1 call_int1 c1_int G.b_int rfl (PEv.b (ev_b1 (cr_sumA rfl) c1_sum G.b_sum rfl (PEv.b (ev_slice (bv_var 0) (ov_none) (ov_some (ev_int)))))))) (PEv.b (ev_int)))))))
theorem ok__law_box (G : G K mg) : FnOk P w K mg base (L2.CX P w) 1 G.a__law_box G.fd__law_box ["great"] (spOf K mg 1 p__law_box) := by
  refine fn_ok (k := 0) (n := 1) (np := 1) (m := b__law_box) G.F__law_box sc__law_box rfl rfl ?_
  refine fun cdv A outer s H E hr => fun tk po => ?_
  have hu0 : (A.deeper (envOfC "_law_box" (defScope (top 42)) s.heap.objs.size G.a__law_box cdv)).units < cLine := by have := hr.un; omega
  have hu1 : (A.deeper (envOfC "_law_box" (defScope (top 42)) s.heap.objs.size G.a__law_box cdv)).units + 1 < cLine := by have := hr.un; omega
  have hu64 : (A.deeper (envOfC "_law_box" (defScope (top 42)) s.heap.objs.size G.a__law_box cdv)).units + 64 < cLine := by have := hr.un; omega
  have hu65 : (A.deeper (envOfC "_law_box" (defScope (top 42)) s.heap.objs.size G.a__law_box cdv)).units + 65 < cLine := by have := hr.un; omega
  unfold b__law_box
  exact ss_one (st_ret (PFr.cell (fr_lst (av_cons (ev_b1 call_abs c1_abs G.b_abs rfl (bv_var 0)) (av_cons (ev_cmp op_ge (OpB.s opB_ge) (PEv.b (ev_b1 call_abs c1_abs G.b_abs rfl (bv_var 0))) (PEv.b (ev_bin op_pow opS_pow (PEv.b (ev_int)) (PEv.b (ev_int)))) (by first | rfl | exact nomark _)) (av_cons (ev_bin op_mod opS_mod (PEv.b (ev_t1 call_int1 c1_int G.b_int rfl (PEv.b (ev_b1 call_abs c1_abs G.b_abs rfl (bv_var 0))))) (PEv.b (ev_int))) (av_cons (ev_int) av_nil)))))))
theorem ok__law_take (G : G K mg) : FnOk P w K mg base (L2.CX P w) 1 G.a__law_take G.fd__law_take ["box", "many"] (spOf K mg 2 p__law_take) := by
  refine fn_ok (k := 0) (n := 4) (np := 2) (m := b__law_take) G.F__law_take sc__law_take rfl rfl ?_
  refine fun cdv A outer s H E hr => fun tk po => ?_
  have hu0 : (A.deeper (envOfC "_law_take" (defScope (top 43)) s.heap.objs.size G.a__law_take cdv)).units < cLine := by have := hr.un; omega
  have hu1 : (A.deeper (envOfC "_law_take" (defScope (top 43)) s.heap.objs.size G.a__law_take cdv)).units + 1 < cLine := by have := hr.un; omega
  have hu64 : (A.deeper (envOfC "_law_take" (defScope (top 43)) s.heap.objs.size G.a__law_take cdv)).units + 64 < cLine := by have := hr.un; omega
  have hu65 : (A.deeper (envOfC "_law_take" (defScope (top 43)) s.heap.objs.size G.a__law_take cdv)).units + 65 < cLine := by have := hr.un; omega
  unfold b__law_take
  exact ss_cons (st_if (PWv.t (wv_and (tv_val (ev_ix hu65 (bv_var 0) (PEv.b (ev_int)))) (wv_and1 (tv_cmp op_gt opB_gt (PEv.b (ev_ix hu65 (bv_var 0) (PEv.b (ev_int)))) (PEv.b (ev_int)) (by first | rfl | exact nomark _))))) (ss_cons (st_asg (ev_bin op_mod opS_mod (PEv.b (ev_t1 call_int1 c1_int G.b_int rfl (PEv.b (ev_ix hu65 (bv_var 0) (PEv.b (ev_int)))))) (bv_var 1)) (tg_name 3 sc__law_take.nd rfl (by first | exact .inl rfl | exact .inr rfl))) (ss_cons (st_asg (ev_bin op_fdivW opS_fdiv (PEv.b (ev_ix hu65 (bv_var 0) (PEv.b (ev_int)))) (bv_var 1)) (tg_sub hu1 (ev_var 0) (ev_int))) (ss_one (st_ret (ev_var 3))))) (ss_nil)) (ss_cons (st_asg (ev_bin op_addA opS_add (PEv.b (ev_ix hu65 (bv_var 0) (PEv.b (ev_int)))) (PEv.b (ev_int))) (tg_sub hu1 (ev_var 0) (ev_int))) (ss_cons (st_asg (ev_bin op_mod opS_mod (PEv.b (ev_t1 call_int1 c1_int G.b_int rfl (PEv.b (ev_bin op_pow opS_pow (PEv.b (ev_bin op_addA opS_add (PEv.b (ev_bin op_addA opS_add (PEv.b (ev_ix hu65 (bv_var 0) (PEv.b (ev_int)))) (PEv.b (ev_bin op_mulE opS_mulE (PEv.b (ev_int)) (PEv.b (ev_ix hu65 (bv_var 0) (PEv.b (ev_int)))))))) (PEv.b (ev_int)))) (PEv.b (ev_int)))))) (PEv.b (ev_int))) (tg_name 2 sc__law_take.nd rfl (by first | exact .inl rfl | exact .inr rfl))) (ss_one (st_ret (ev_bin op_mod opS_mod (PEv.b (ev_t1 call_int1 c1_int G.b_int rfl (PEv.b (ev_bin op_fdivW opS_fdiv (PEv.b (ev_bin op_mod opS_mod (PEv.b (ev_t1 call_int1 c1_int G.b_int rfl (PEv.b (ev_bin op_pow opS_pow (PEv.b (ev_bin op_addA opS_add (PEv.b (ev_bin op_mulE opS_mulE (bv_var 2) (PEv.b (ev_int)))) (PEv.b (ev_bin op_mulE opS_mulE (PEv.b (ev_int)) (PEv.b (ev_ix hu65 (bv_var 0) (PEv.b (ev_int)))))))) (PEv.b (ev_int)))))) (PEv.b (ev_int)))) (PEv.b (ev_int)))))) (bv_var 1))))))
theorem ok__law_same (G : G K mg) : ∀ n, FnOk P w K mg base (L2.CX P w) (0 + n) G.a__law_same G.fd__law_same ["told", "due"] (spOf K mg 2 (p__law_same n))
  | 0 => ⟨fun vs H Q E h => spOf_len h, fun A outer s H args us vs Q E hr he hb hv hs => by
    obtain ⟨Z, S, ds, _, _, _, _, _, hw⟩ := hs
    exact hw.elim⟩
  | n + 1 => by
    have ih := ok__law_same G n
    refine fn_ok G.F__law_same sc__law_same rfl rfl (fun cdv A outer s H E hr => fun tk po => ?_)
    have hu0 : (A.deeper (envOfC "_law_same" (defScope (top 44)) s.heap.objs.size G.a__law_same cdv)).units < cLine := by have := hr.un; omega
    have hu1 : (A.deeper (envOfC "_law_same" (defScope (top 44)) s.heap.objs.size G.a__law_same cdv)).units + 1 < cLine := by have := hr.un; omega
    have hu64 : (A.deeper (envOfC "_law_same" (defScope (top 44)) s.heap.objs.size G.a__law_same cdv)).units + 64 < cLine := by have := hr.un; omega
    have hu65 : (A.deeper (envOfC "_law_same" (defScope (top 44)) s.heap.objs.size G.a__law_same cdv)).units + 65 < cLine := by have := hr.un; omega
    exact ss_cons (st_if (tv_cmp op_isA (opB_is (neg := false)) (bv_var 1) (PEv.b (ev_non)) (by first | rfl | exact nomark _)) (ss_one (st_ret (ev_cmp op_isA (OpB.s (opB_is (neg := false))) (bv_var 0) (PEv.b (ev_non)) (by first | rfl | exact nomark _)))) (ss_nil)) (ss_cons (st_if (tv_val (ev_isi .bool G.b_isinstance G.b_bool rfl (bv_var 1))) (ss_one (st_ret (ev_and (ev_isi .bool G.b_isinstance G.b_bool rfl (bv_var 0)) (ev_one (ev_cmp (op_eqD hu64) (OpB.s opB_eq) (PEv.b (ev_cmp op_isA (OpB.s (opB_is (neg := false))) (bv_var 0) (PEv.b (ev_bl)) (by first | rfl | exact nomark _))) (PEv.b (ev_cmp op_isA (OpB.s (opB_is (neg := false))) (bv_var 1) (PEv.b (ev_bl)) (by first | rfl | exact nomark _))) (by first | rfl | exact nomark _)))))) (ss_nil)) (ss_cons (st_if (tv_val (ev_isi .int G.b_isinstance G.b_int rfl (bv_var 1))) (ss_one (st_ret (ev_and (ev_isi .int G.b_isinstance G.b_int rfl (bv_var 0)) (ev_and (ev_not (ev_isi .bool G.b_isinstance G.b_bool rfl (bv_var 0))) (ev_one (ev_cmp (op_eqD hu64) (OpB.s opB_eq) (PEv.b (ev_bin op_subA opS_sub (PEv.b (ev_t1 call_int1 c1_int G.b_int rfl (bv_var 0))) (bv_var 1))) (PEv.b (ev_int)) (by first | rfl | exact nomark _))))))) (ss_nil)) (ss_cons (st_if (tv_val (ev_isi .str G.b_isinstance G.b_str rfl (bv_var 1))) (ss_one (st_ret (ev_and (ev_isi .str G.b_isinstance G.b_str rfl (bv_var 0)) (ev_and (ev_cmp (op_eqD hu64) (OpB.s opB_eq) (PEv.b (ev_b1 call_lenA c1_len G.b_len rfl (bv_var 0))) (PEv.b (ev_b1 call_lenA c1_len G.b_len rfl (bv_var 1))) (by first | rfl | exact nomark _)) (ev_one (ev_cmp (op_eqD hu64) (OpB.s opB_eq) (PEv.b (PFr.frz (fr_lc (own := [("k", 2)]) rfl sc__law_same.nd (it_rg1 rfl G.b_range (av_cons (ev_b1 call_lenA c1_len G.b_len rfl (bv_var 1)) av_nil)) (blkOk_by (by kernel_rfl)) (fun _ _ _ _ _ => tg_name 2 sc__law_same.nd rfl (by first | exact .inl rfl | exact .inr rfl)) (fun _ _ _ _ _ => ts_one (tv_cmp (op_neD hu64) opB_ne (PEv.b (ev_slice (bv_var 0) (ov_some (ev_var 2)) (ov_some (ev_bin op_addA opS_add (bv_var 2) (PEv.b (ev_int)))))) (PEv.b (ev_ix hu65 (bv_var 1) (bv_var 2))) (by first | rfl | exact nomark _))) (fun _ _ _ _ _ => ev_var 2) (by decide)))) (PEv.b (PFr.frz (fr_lst av_nil))) (by first | rfl | exact nomark _))))))) (ss_nil)) (ss_cons (st_if (tv_val (ev_isi .dict G.b_isinstance G.b_dict rfl (bv_var 1))) (ss_one (st_ret (ev_and (ev_isi .dict G.b_isinstance G.b_dict rfl (bv_var 0)) (ev_and (ev_cmp (op_eqD hu64) (OpB.s opB_eq) (PEv.b (ev_b1 call_lenA c1_len G.b_len rfl (bv_var 0))) (PEv.b (ev_b1 call_lenA c1_len G.b_len rfl (bv_var 1))) (by first | rfl | exact nomark _)) (ev_one (ev_cmp (op_eqD hu64) (OpB.s opB_eq) (PEv.b (PFr.frz (fr_lc (own := [("key", 3)]) rfl sc__law_same.nd (it_keysr (ev_var 1)) (blkOk_by (by kernel_rfl)) (fun _ _ _ _ _ => tg_name 3 sc__law_same.nd rfl (by first | exact .inl rfl | exact .inr rfl)) (fun _ _ _ _ _ => ts_one (PWv.t (wv_or (tv_cmp (op_notInA hu65) (opB_in (neg := true)) (bv_var 3) (bv_var 0) (by first | rfl | exact nomark _)) (wv_or1 (tv_not (tv_val (ev_call ih (p__law_same_len _) (hr.mono (Nat.le_refl _)) G.g__law_same G.F__law_same.kp (G.F__law_same.bindsN fun _ _ _ _ _ _ us hl => match us, hl with | [_, _], _ => rfl) (by first | exact tk | exact L2.takes0) (av_cons (ev_ix hu65 (bv_var 0) (bv_var 3)) (av_cons (ev_ix hu65 (bv_var 1) (bv_var 3)) av_nil))))))))) (fun _ _ _ _ _ => ev_var 3) (by decide)))) (PEv.b (PFr.frz (fr_lst av_nil))) (by first | rfl | exact nomark _))))))) (ss_nil)) (ss_cons (st_if (PWv.t (wv_or (tv_not (tv_val (ev_isi2 .list .tuple G.b_isinstance G.b_list G.b_tuple rfl rfl (bv_var 1)))) (wv_or1 (tv_not (tv_val (ev_isi2 .list .tuple G.b_isinstance G.b_list G.b_tuple rfl rfl (bv_var 0))))))) (ss_one (st_ret (ev_bl))) (ss_nil)) (ss_cons (st_if (PWv.t (wv_or (tv_cmp (op_neD hu64) opB_ne (PEv.b (ev_isi .list G.b_isinstance G.b_list rfl (bv_var 0))) (PEv.b (ev_isi .list G.b_isinstance G.b_list rfl (bv_var 1))) (by first | rfl | exact nomark _)) (wv_or1 (tv_cmp (op_neD hu64) opB_ne (PEv.b (ev_b1 call_lenA c1_len G.b_len rfl (bv_var 0))) (PEv.b (ev_b1 call_lenA c1_len G.b_len rfl (bv_var 1))) (by first | rfl | exact nomark _))))) (ss_one (st_ret (ev_bl))) (ss_nil)) (ss_one (st_ret (ev_cmp (op_eqD hu64) (OpB.s opB_eq) (PEv.b (PFr.frz (fr_lc (own := [("k", 2)]) rfl sc__law_same.nd (it_rg1 rfl G.b_range (av_cons (ev_b1 call_lenA c1_len G.b_len rfl (bv_var 1)) av_nil)) (blkOk_by (by kernel_rfl)) (fun _ _ _ _ _ => tg_name 2 sc__law_same.nd rfl (by first | exact .inl rfl | exact .inr rfl)) (fun _ _ _ _ _ => ts_one (tv_not (tv_val (ev_call ih (p__law_same_len _) (hr.mono (Nat.le_refl _)) G.g__law_same G.F__law_same.kp (G.F__law_same.bindsN fun _ _ _ _ _ _ us hl => match us, hl with | [_, _], _ => rfl) (by first | exact tk | exact L2.takes0) (av_cons (ev_ix hu65 (bv_var 0) (bv_var 2)) (av_cons (ev_ix hu65 (bv_var 1) (bv_var 2)) av_nil)))))) (fun _ _ _ _ _ => ev_var 2) (by decide)))) (PEv.b (PFr.frz (fr_lst av_nil))) (by first | rfl | exact nomark _))))))))))
theorem ok__law_some_watch (G : G K mg) : FnOk P w K mg base (L2.CX P w) 2 G.a__law_some_watch G.fd__law_some_watch ["box"] (spOf K mg 1 p__law_some_watch) := by
  refine fn_ok (k := 1) (n := 13) (np := 1) (m := b__law_some_watch) G.F__law_some_watch sc__law_some_watch rfl rfl ?_
  refine fun cdv A outer s H E hr => fun tk po => ?_
  have hu0 : (A.deeper (envOfC "_law_some_watch" (defScope (top 45)) s.heap.objs.size G.a__law_some_watch cdv)).units < cLine := by have := hr.un; omega
  have hu1 : (A.deeper (envOfC "_law_some_watch" (defScope (top 45)) s.heap.objs.size G.a__law_some_watch cdv)).units + 1 < cLine := by have := hr.un; omega
  have hu64 : (A.deeper (envOfC "_law_some_watch" (defScope (top 45)) s.heap.objs.size G.a__law_some_watch cdv)).units + 64 < cLine := by have := hr.un; omega
  have hu65 : (A.deeper (envOfC "_law_some_watch" (defScope (top 45)) s.heap.objs.size G.a__law_some_watch cdv)).units + 65 < cLine := by have := hr.un; omega
  unfold b__law_some_watch l__law_some_watch_1 l__law_some_watch_0
  exact ss_cons (st_asg (ev_tup (av_cons (ev_bin op_addA opS_add (PEv.b (ev_int)) (PEv.b (ev_call (ok__law_take G) p__law_take_len (hr.mono (by decide)) G.g__law_take G.F__law_take.kp (G.F__law_take.bindsN fun _ _ _ _ _ _ us hl => match us, hl with | [_, _], _ => rfl) (by first | exact tk | exact L2.takes0) (av_cons (ev_var 0) (av_cons (ev_int) av_nil))))) (av_cons (ev_bin op_addA opS_add (PEv.b (ev_int)) (PEv.b (ev_call (ok__law_take G) p__law_take_len (hr.mono (by decide)) G.g__law_take G.F__law_take.kp (G.F__law_take.bindsN fun _ _ _ _ _ _ us hl => match us, hl with | [_, _], _ => rfl) (by first | exact tk | exact L2.takes0) (av_cons (ev_var 0) (av_cons (ev_ix hu65 (PEv.b (PFr.frz (fr_lst (av_cons (ev_int) (av_cons (ev_int) (av_cons (ev_int) av_nil)))))) (PEv.b (ev_call (ok__law_take G) p__law_take_len (hr.mono (by decide)) G.g__law_take G.F__law_take.kp (G.F__law_take.bindsN fun _ _ _ _ _ _ us hl => match us, hl with | [_, _], _ => rfl) (by first | exact tk | exact L2.takes0) (av_cons (ev_var 0) (av_cons (ev_int) av_nil))))) av_nil))))) av_nil))) (tg_sq rfl (tgs_cons (tg_name 1 sc__law_some_watch.nd rfl (by first | exact .inl rfl | exact .inr rfl)) (tgs_cons (tg_name 2 sc__law_some_watch.nd rfl (by first | exact .inl rfl | exact .inr rfl)) tgs_nil)))) (ss_cons ((by first | exact st_setLcC (own := [("m", 9)]) rfl sc__law_some_watch.nd rfl rfl rfl (it_rg1 rfl G.b_range (av_cons (ev_var 1) av_nil)) (blkOk_by (by kernel_rfl)) (fun _ _ _ _ _ => tg_name 9 sc__law_some_watch.nd rfl (by first | exact .inl rfl | exact .inr rfl)) (fun _ _ _ _ _ => ts_nil) (fun _ _ _ _ _ => ev_if (tv_cmp (op_eqD hu64) opB_eq (PEv.b (ev_call (ok__law_take G) p__law_take_len (hr.mono (by decide)) G.g__law_take G.F__law_take.kp (G.F__law_take.bindsN fun _ _ _ _ _ _ us hl => match us, hl with | [_, _], _ => rfl) (by first | exact tk | exact L2.takes0) (av_cons (ev_var 0) (av_cons (ev_int) av_nil)))) (PEv.b (ev_int)) (by first | rfl | exact nomark _)) (ev_call (ok__law_take G) p__law_take_len (hr.mono (by decide)) G.g__law_take G.F__law_take.kp (G.F__law_take.bindsN fun _ _ _ _ _ _ us hl => match us, hl with | [_, _], _ => rfl) (by first | exact tk | exact L2.takes0) (av_cons (ev_var 0) (av_cons (ev_var 2) av_nil))) (ev_non)) (by decide) | exact st_asg (PFr.cell (fr_lc (own := [("m", 9)]) rfl sc__law_some_watch.nd (it_rg1 rfl G.b_range (av_cons (ev_var 1) av_nil)) (blkOk_by (by kernel_rfl)) (fun _ _ _ _ _ => tg_name 9 sc__law_some_watch.nd rfl (by first | exact .inl rfl | exact .inr rfl)) (fun _ _ _ _ _ => ts_nil) (fun _ _ _ _ _ => ev_if (tv_cmp (op_eqD hu64) opB_eq (PEv.b (ev_call (ok__law_take G) p__law_take_len (hr.mono (by decide)) G.g__law_take G.F__law_take.kp (G.F__law_take.bindsN fun _ _ _ _ _ _ us hl => match us, hl with | [_, _], _ => rfl) (by first | exact tk | exact L2.takes0) (av_cons (ev_var 0) (av_cons (ev_int) av_nil)))) (PEv.b (ev_int)) (by first | rfl | exact nomark _)) (ev_call (ok__law_take G) p__law_take_len (hr.mono (by decide)) G.g__law_take G.F__law_take.kp (G.F__law_take.bindsN fun _ _ _ _ _ _ us hl => match us, hl with | [_, _], _ => rfl) (by first | exact tk | exact L2.takes0) (av_cons (ev_var 0) (av_cons (ev_var 2) av_nil))) (ev_non)) (by decide))) (tg_name 3 sc__law_some_watch.nd rfl (by first | exact .inl rfl | exact .inr rfl)))) (ss_cons (st_asg (ev_non) (tg_sub hu1 (ev_var 3) (ev_call (ok__law_take G) p__law_take_len (hr.mono (by decide)) G.g__law_take G.F__law_take.kp (G.F__law_take.bindsN fun _ _ _ _ _ _ us hl => match us, hl with | [_, _], _ => rfl) (by first | exact tk | exact L2.takes0) (av_cons (ev_var 0) (av_cons (ev_var 1) av_nil))))) (ss_cons (st_par2 (i := 4) (j := 5) rfl sc__law_some_watch.nd rfl rfl (by decide) rfl rfl (av_cons (ev_call (ok__law_take G) p__law_take_len (hr.mono (by decide)) G.g__law_take G.F__law_take.kp (G.F__law_take.bindsN fun _ _ _ _ _ _ us hl => match us, hl with | [_, _], _ => rfl) (by first | exact tk | exact L2.takes0) (av_cons (ev_var 0) (av_cons (ev_int) av_nil))) (av_cons (PFr.cell (fr_lst av_nil)) av_nil)) rfl) (ss_cons (st_asg (ev_call (ok__law_take G) p__law_take_len (hr.mono (by decide)) G.g__law_take G.F__law_take.kp (G.F__law_take.bindsN fun _ _ _ _ _ _ us hl => match us, hl with | [_, _], _ => rfl) (by first | exact tk | exact L2.takes0) (av_cons (ev_var 0) (av_cons (ev_var 1) av_nil))) (tg_name 6 sc__law_some_watch.nd rfl (by first | exact .inl rfl | exact .inr rfl))) (ss_cons (st_for po rfl (it_rg1 rfl G.b_range (av_cons (ev_var 2) av_nil)) (tg_name 7 sc__law_some_watch.nd rfl (by first | exact .inl rfl | exact .inr rfl)) (ss_cons (st_asg (PFr.cell (fr_lst av_nil)) (tg_name 8 sc__law_some_watch.nd rfl (by first | exact .inl rfl | exact .inr rfl))) (ss_cons (st_for po rfl (it_rg1 rfl G.b_range (av_cons (ev_var 1) av_nil)) (tg_name 9 sc__law_some_watch.nd rfl (by first | exact .inl rfl | exact .inr rfl)) (ss_cons ((by first | exact st_setLc (own := [("k", 12)]) rfl sc__law_some_watch.nd rfl rfl rfl (it_rg1 rfl G.b_range (av_cons (ev_var 1) av_nil)) (blkOk_by (by kernel_rfl)) (fun _ _ _ _ _ => tg_name 12 sc__law_some_watch.nd rfl (by first | exact .inl rfl | exact .inr rfl)) (fun _ _ _ _ _ => ts_one (PWv.t (wv_and (tv_cmp op_isNotA (opB_is (neg := true)) (PEv.b (ev_ix hu65 (bv_var 3) (bv_var 12))) (PEv.b (ev_non)) (by first | rfl | exact nomark _)) (wv_and1 (tv_cmp op_le opB_le (PEv.b (ev_ix hu65 (bv_var 3) (bv_var 12))) (bv_var 7) (by first | rfl | exact nomark _)))))) (fun _ _ _ _ _ => ev_var 12) (by decide) | exact st_asg (PFr.frzL (fr_lc (own := [("k", 12)]) rfl sc__law_some_watch.nd (it_rg1 rfl G.b_range (av_cons (ev_var 1) av_nil)) (blkOk_by (by kernel_rfl)) (fun _ _ _ _ _ => tg_name 12 sc__law_some_watch.nd rfl (by first | exact .inl rfl | exact .inr rfl)) (fun _ _ _ _ _ => ts_one (PWv.t (wv_and (tv_cmp op_isNotA (opB_is (neg := true)) (PEv.b (ev_ix hu65 (bv_var 3) (bv_var 12))) (PEv.b (ev_non)) (by first | rfl | exact nomark _)) (wv_and1 (tv_cmp op_le opB_le (PEv.b (ev_ix hu65 (bv_var 3) (bv_var 12))) (bv_var 7) (by first | rfl | exact nomark _)))))) (fun _ _ _ _ _ => ev_var 12) (by decide))) (tg_name 10 sc__law_some_watch.nd rfl (by first | exact .inl rfl | exact .inr rfl)))) (ss_cons ((by first | exact st_setLc (own := [("k", 12)]) rfl sc__law_some_watch.nd rfl rfl rfl (it_rg1 rfl G.b_range (av_cons (ev_var 1) av_nil)) (blkOk_by (by kernel_rfl)) (fun _ _ _ _ _ => tg_name 12 sc__law_some_watch.nd rfl (by first | exact .inl rfl | exact .inr rfl)) (fun _ _ _ _ _ => ts_one (tv_cmp (op_eqD hu64) opB_eq (PEv.b (ev_call (ok__law_take G) p__law_take_len (hr.mono (by decide)) G.g__law_take G.F__law_take.kp (G.F__law_take.bindsN fun _ _ _ _ _ _ us hl => match us, hl with | [_, _], _ => rfl) (by first | exact tk | exact L2.takes0) (av_cons (ev_var 0) (av_cons (ev_int) av_nil)))) (PEv.b (ev_int)) (by first | rfl | exact nomark _))) (fun _ _ _ _ _ => ev_var 12) (by decide) | exact st_asg (PFr.frzL (fr_lc (own := [("k", 12)]) rfl sc__law_some_watch.nd (it_rg1 rfl G.b_range (av_cons (ev_var 1) av_nil)) (blkOk_by (by kernel_rfl)) (fun _ _ _ _ _ => tg_name 12 sc__law_some_watch.nd rfl (by first | exact .inl rfl | exact .inr rfl)) (fun _ _ _ _ _ => ts_one (tv_cmp (op_eqD hu64) opB_eq (PEv.b (ev_call (ok__law_take G) p__law_take_len (hr.mono (by decide)) G.g__law_take G.F__law_take.kp (G.F__law_take.bindsN fun _ _ _ _ _ _ us hl => match us, hl with | [_, _], _ => rfl) (by first | exact tk | exact L2.takes0) (av_cons (ev_var 0) (av_cons (ev_int) av_nil)))) (PEv.b (ev_int)) (by first | rfl | exact nomark _))) (fun _ _ _ _ _ => ev_var 12) (by decide))) (tg_name 11 sc__law_some_watch.nd rfl (by first | exact .inl rfl | exact .inr rfl)))) (ss_cons (st_if (tv_cmp (op_eqD hu64) opB_eq (bv_var 4) (PEv.b (ev_int)) (by first | rfl | exact nomark _)) (ss_one (st_asg (ev_var 10) (tg_name 11 sc__law_some_watch.nd rfl (by first | exact .inl rfl | exact .inr rfl)))) (ss_one (st_if (tv_cmp (op_eqD hu64) opB_eq (bv_var 4) (PEv.b (ev_int)) (by first | rfl | exact nomark _)) (ss_one (st_asg (PFr.frz (fr_sortSet G.b_sorted G.b_set (PEv.b (ev_bin op_addA opS_add (bv_var 10) (PEv.b (PFr.frz (fr_lc (own := [("k", 12)]) rfl sc__law_some_watch.nd (it_seq (ev_var 11)) (blkOk_by (by kernel_rfl)) (fun _ _ _ _ _ => tg_name 12 sc__law_some_watch.nd rfl (by first | exact .inl rfl | exact .inr rfl)) (fun _ _ _ _ _ => ts_one (tv_cmp (op_neD hu64) opB_ne (bv_var 12) (bv_var 6) (by first | rfl | exact nomark _))) (fun _ _ _ _ _ => ev_var 12) (by decide)))))))) (tg_name 11 sc__law_some_watch.nd rfl (by first | exact .inl rfl | exact .inr rfl)))) (ss_one (st_if (tv_cmp (op_eqD hu64) opB_eq (bv_var 4) (PEv.b (ev_int)) (by first | rfl | exact nomark _)) (ss_one (st_asg (ev_if (tv_cmp (op_eqD hu64) opB_eq (bv_var 7) (PEv.b (ev_bin op_subA opS_sub (bv_var 2) (PEv.b (ev_int)))) (by first | rfl | exact nomark _)) (ev_var 10) (ev_var 11)) (tg_name 11 sc__law_some_watch.nd rfl (by first | exact .inl rfl | exact .inr rfl)))) (ss_one (st_if (tv_cmp (op_eqD hu64) opB_eq (bv_var 4) (PEv.b (ev_int)) (by first | rfl | exact nomark _)) (ss_one (st_asg (ev_if (tv_cmp (op_eqD hu64) opB_eq (bv_var 7) (PEv.b (ev_bin op_subA opS_sub (bv_var 2) (PEv.b (ev_int)))) (by first | rfl | exact nomark _)) (PFr.frz (fr_sortSet G.b_sorted G.b_set (PEv.b (ev_bin op_addA opS_add (bv_var 10) (PEv.b (PFr.frz (fr_lc (own := [("k", 12)]) rfl sc__law_some_watch.nd (it_seq (ev_var 11)) (blkOk_by (by kernel_rfl)) (fun _ _ _ _ _ => tg_name 12 sc__law_some_watch.nd rfl (by first | exact .inl rfl | exact .inr rfl)) (fun _ _ _ _ _ => ts_one (tv_cmp (op_neD hu64) opB_ne (bv_var 12) (bv_var 6) (by first | rfl | exact nomark _))) (fun _ _ _ _ _ => ev_var 12) (by decide)))))))) (ev_var 11)) (tg_name 11 sc__law_some_watch.nd rfl (by first | exact .inl rfl | exact .inr rfl)))) (ss_one (st_if (tv_cmp (op_eqD hu64) opB_eq (bv_var 4) (PEv.b (ev_int)) (by first | rfl | exact nomark _)) (ss_one ((by first | exact st_setLc (own := [("k", 12)]) rfl sc__law_some_watch.nd rfl rfl rfl (it_seq (ev_var 10)) (blkOk_by (by kernel_rfl)) (fun _ _ _ _ _ => tg_name 12 sc__law_some_watch.nd rfl (by first | exact .inl rfl | exact .inr rfl)) (fun _ _ _ _ _ => ts_one (PWv.t (wv_or (tv_cmp (op_eqD hu64) opB_eq (PEv.b (ev_bin op_mod opS_mod (PEv.b (ev_t1 call_int1 c1_int G.b_int rfl (PEv.b (ev_bin op_addA opS_add (bv_var 12) (bv_var 9))))) (PEv.b (ev_int)))) (PEv.b (ev_int)) (by first | rfl | exact nomark _)) (wv_or1 (tv_cmp (op_eqD hu64) opB_eq (PEv.b (ev_call (ok__law_take G) p__law_take_len (hr.mono (by decide)) G.g__law_take G.F__law_take.kp (G.F__law_take.bindsN fun _ _ _ _ _ _ us hl => match us, hl with | [_, _], _ => rfl) (by first | exact tk | exact L2.takes0) (av_cons (ev_var 0) (av_cons (ev_int) av_nil)))) (PEv.b (ev_int)) (by first | rfl | exact nomark _)))))) (fun _ _ _ _ _ => ev_var 12) (by decide) | exact st_asg (PFr.frzL (fr_lc (own := [("k", 12)]) rfl sc__law_some_watch.nd (it_seq (ev_var 10)) (blkOk_by (by kernel_rfl)) (fun _ _ _ _ _ => tg_name 12 sc__law_some_watch.nd rfl (by first | exact .inl rfl | exact .inr rfl)) (fun _ _ _ _ _ => ts_one (PWv.t (wv_or (tv_cmp (op_eqD hu64) opB_eq (PEv.b (ev_bin op_mod opS_mod (PEv.b (ev_t1 call_int1 c1_int G.b_int rfl (PEv.b (ev_bin op_addA opS_add (bv_var 12) (bv_var 9))))) (PEv.b (ev_int)))) (PEv.b (ev_int)) (by first | rfl | exact nomark _)) (wv_or1 (tv_cmp (op_eqD hu64) opB_eq (PEv.b (ev_call (ok__law_take G) p__law_take_len (hr.mono (by decide)) G.g__law_take G.F__law_take.kp (G.F__law_take.bindsN fun _ _ _ _ _ _ us hl => match us, hl with | [_, _], _ => rfl) (by first | exact tk | exact L2.takes0) (av_cons (ev_var 0) (av_cons (ev_int) av_nil)))) (PEv.b (ev_int)) (by first | rfl | exact nomark _)))))) (fun _ _ _ _ _ => ev_var 12) (by decide))) (tg_name 11 sc__law_some_watch.nd rfl (by first | exact .inl rfl | exact .inr rfl))))) (ss_nil)))))))))) (ss_one (st_expr (ev_append (ev_var 8) (ev_t1 call_tuple_of c1_tuple G.b_tuple rfl (bv_var 11))))))))) (ss_one (st_expr (ev_append (ev_var 5) (ev_t1 call_tuple_of c1_tuple G.b_tuple rfl (bv_var 8)))))))) (ss_one (st_ret (PFr.frz (fr_lst (av_cons (ev_t1 call_tuple_of c1_tuple G.b_tuple rfl (bv_var 3)) (av_cons (ev_t1 call_tuple_of c1_tuple G.b_tuple rfl (bv_var 5)) av_nil)))))))))))
theorem ok__law_up (G : G K mg) : FnOk P w K mg base (L2.CX P w) 1 G.a__law_up G.fd__law_up ["stops", "m", "time"] (spOf K mg 3 p__law_up) := by
  refine fn_ok (k := 0) (n := 3) (np := 3) (m := b__law_up) G.F__law_up sc__law_up rfl rfl ?_
  refine fun cdv A outer s H E hr => fun tk po => ?_
  have hu0 : (A.deeper (envOfC "_law_up" (defScope (top 46)) s.heap.objs.size G.a__law_up cdv)).units < cLine := by have := hr.un; omega
  have hu1 : (A.deeper (envOfC "_law_up" (defScope (top 46)) s.heap.objs.size G.a__law_up cdv)).units + 1 < cLine := by have := hr.un; omega
  have hu64 : (A.deeper (envOfC "_law_up" (defScope (top 46)) s.heap.objs.size G.a__law_up cdv)).units + 64 < cLine := by have := hr.un; omega
  have hu65 : (A.deeper (envOfC "_law_up" (defScope (top 46)) s.heap.objs.size G.a__law_up cdv)).units + 65 < cLine := by have := hr.un; omega
  unfold b__law_up
  exact ss_one (st_ret (ev_or (ev_cmp op_isA (OpB.s (opB_is (neg := false))) (PEv.b (ev_ix hu65 (bv_var 0) (bv_var 1))) (PEv.b (ev_non)) (by first | rfl | exact nomark _)) (ev_one (ev_cmp (op_ltA hu0) (OpB.s opB_lt) (bv_var 2) (PEv.b (ev_ix hu65 (bv_var 0) (bv_var 1))) (by first | rfl | exact nomark _)))))
theorem ok__law_has (G : G K mg) : FnOk P w K mg base (L2.CX P w) 2 G.a__law_has G.fd__law_has ["watch", "name"] (spOf K mg 2 p__law_has) := by
  refine fn_ok (k := 1) (n := 14) (np := 2) (m := b__law_has) G.F__law_has sc__law_has rfl rfl ?_
  refine fun cdv A outer s H E hr => fun tk po => ?_
  have hu0 : (A.deeper (envOfC "_law_has" (defScope (top 47)) s.heap.objs.size G.a__law_has cdv)).units < cLine := by have := hr.un; omega
  have hu1 : (A.deeper (envOfC "_law_has" (defScope (top 47)) s.heap.objs.size G.a__law_has cdv)).units + 1 < cLine := by have := hr.un; omega
  have hu64 : (A.deeper (envOfC "_law_has" (defScope (top 47)) s.heap.objs.size G.a__law_has cdv)).units + 64 < cLine := by have := hr.un; omega
  have hu65 : (A.deeper (envOfC "_law_has" (defScope (top 47)) s.heap.objs.size G.a__law_has cdv)).units + 65 < cLine := by have := hr.un; omega
  unfold b__law_has l__law_has_1 l__law_has_0
  exact ss_cons (st_asg (ev_var 0) (tg_sq rfl (tgs_cons (tg_name 2 sc__law_has.nd rfl (by first | exact .inl rfl | exact .inr rfl)) (tgs_cons (tg_name 3 sc__law_has.nd rfl (by first | exact .inl rfl | exact .inr rfl)) tgs_nil)))) (ss_cons (st_asg (ev_tup (av_cons (ev_b1 call_lenA c1_len G.b_len rfl (bv_var 2)) (av_cons (ev_bin op_subA opS_sub (PEv.b (ev_b1 call_lenA c1_len G.b_len rfl (bv_var 3))) (PEv.b (ev_int))) av_nil))) (tg_sq rfl (tgs_cons (tg_name 4 sc__law_has.nd rfl (by first | exact .inl rfl | exact .inr rfl)) (tgs_cons (tg_name 5 sc__law_has.nd rfl (by first | exact .inl rfl | exact .inr rfl)) tgs_nil)))) (ss_cons ((by first | exact st_setLc (own := [("m", 13)]) rfl sc__law_has.nd rfl rfl rfl (it_rg1 rfl G.b_range (av_cons (ev_var 4) av_nil)) (blkOk_by (by kernel_rfl)) (fun _ _ _ _ _ => tg_name 13 sc__law_has.nd rfl (by first | exact .inl rfl | exact .inr rfl)) (fun _ _ _ _ _ => ts_one (tv_cmp op_isA (opB_is (neg := false)) (PEv.b (ev_ix hu65 (bv_var 2) (bv_var 13))) (PEv.b (ev_non)) (by first | rfl | exact nomark _))) (fun _ _ _ _ _ => ev_var 13) (by decide) | exact st_asg (PFr.frzL (fr_lc (own := [("m", 13)]) rfl sc__law_has.nd (it_rg1 rfl G.b_range (av_cons (ev_var 4) av_nil)) (blkOk_by (by kernel_rfl)) (fun _ _ _ _ _ => tg_name 13 sc__law_has.nd rfl (by first | exact .inl rfl | exact .inr rfl)) (fun _ _ _ _ _ => ts_one (tv_cmp op_isA (opB_is (neg := false)) (PEv.b (ev_ix hu65 (bv_var 2) (bv_var 13))) (PEv.b (ev_non)) (by first | rfl | exact nomark _))) (fun _ _ _ _ _ => ev_var 13) (by decide))) (tg_name 6 sc__law_has.nd rfl (by first | exact .inl rfl | exact .inr rfl)))) (ss_cons ((by first | exact st_setLc (own := [("m", 13)]) rfl sc__law_has.nd rfl rfl rfl (it_rg1 rfl G.b_range (av_cons (ev_var 4) av_nil)) (blkOk_by (by kernel_rfl)) (fun _ _ _ _ _ => tg_name 13 sc__law_has.nd rfl (by first | exact .inl rfl | exact .inr rfl)) (fun _ _ _ _ _ => ts_one (tv_cmp op_isNotA (opB_is (neg := true)) (PEv.b (ev_ix hu65 (bv_var 2) (bv_var 13))) (PEv.b (ev_non)) (by first | rfl | exact nomark _))) (fun _ _ _ _ _ => ev_var 13) (by decide) | exact st_asg (PFr.frzL (fr_lc (own := [("m", 13)]) rfl sc__law_has.nd (it_rg1 rfl G.b_range (av_cons (ev_var 4) av_nil)) (blkOk_by (by kernel_rfl)) (fun _ _ _ _ _ => tg_name 13 sc__law_has.nd rfl (by first | exact .inl rfl | exact .inr rfl)) (fun _ _ _ _ _ => ts_one (tv_cmp op_isNotA (opB_is (neg := true)) (PEv.b (ev_ix hu65 (bv_var 2) (bv_var 13))) (PEv.b (ev_non)) (by first | rfl | exact nomark _))) (fun _ _ _ _ _ => ev_var 13) (by decide))) (tg_name 7 sc__law_has.nd rfl (by first | exact .inl rfl | exact .inr rfl)))) (ss_cons (st_if (tv_cmp (op_eqD hu64) opB_eq (bv_var 1) (PEv.b (ev_str)) (by first | rfl | exact nomark _)) (ss_one (st_ret (ev_cmp (op_eqD hu64) (OpB.s opB_eq) (PEv.b (PFr.frz (fr_lc (own := [("k", 9)]) rfl sc__law_has.nd (it_seq (ev_var 7)) (blkOk_by (by kernel_rfl)) (fun _ _ _ _ _ => tg_name 9 sc__law_has.nd rfl (by first | exact .inl rfl | exact .inr rfl)) (fun _ _ _ _ _ => ts_one (tv_cmp (op_neD hu64) opB_ne (PEv.b (PFr.frz (fr_lc (own := [("m", 13)]) rfl sc__law_has.nd (it_seq (ev_var 6)) (blkOk_by (by kernel_rfl)) (fun _ _ _ _ _ => tg_name 13 sc__law_has.nd rfl (by first | exact .inl rfl | exact .inr rfl)) (fun _ _ _ _ _ => ts_one (tv_cmp (op_notInA hu65) (opB_in (neg := true)) (bv_var 9) (PEv.b (ev_ix hu65 (PEv.b (ev_ix hu65 (bv_var 3) (bv_var 5))) (bv_var 13))) (by first | rfl | exact nomark _))) (fun _ _ _ _ _ => ev_var 13) (by decide)))) (PEv.b (PFr.frz (fr_lst av_nil))) (by first | rfl | exact nomark _))) (fun _ _ _ _ _ => ev_var 9) (by decide)))) (PEv.b (PFr.frz (fr_lst av_nil))) (by first | rfl | exact nomark _)))) (ss_nil)) (ss_cons (st_if (tv_cmp (op_eqD hu64) opB_eq (bv_var 1) (PEv.b (ev_str)) (by first | rfl | exact nomark _)) (ss_one (st_ret (ev_cmp (op_eqD hu64) (OpB.s opB_eq) (PEv.b (PFr.frz (fr_lc (own := [("k", 9)]) rfl sc__law_has.nd (it_seq (ev_var 7)) (blkOk_by (by kernel_rfl)) (fun _ _ _ _ _ => tg_name 9 sc__law_has.nd rfl (by first | exact .inl rfl | exact .inr rfl)) (fun _ _ _ _ _ => ts_one (tv_cmp (op_eqD hu64) opB_eq (PEv.b (PFr.frz (fr_lc (own := [("m", 13)]) rfl sc__law_has.nd (it_seq (ev_var 6)) (blkOk_by (by kernel_rfl)) (fun _ _ _ _ _ => tg_name 13 sc__law_has.nd rfl (by first | exact .inl rfl | exact .inr rfl)) (fun _ _ _ _ _ => ts_one (tv_cmp (op_inA hu65) (opB_in (neg := false)) (bv_var 9) (PEv.b (ev_ix hu65 (PEv.b (ev_ix hu65 (bv_var 3) (bv_var 5))) (bv_var 13))) (by first | rfl | exact nomark _))) (fun _ _ _ _ _ => ev_var 13) (by decide)))) (PEv.b (PFr.frz (fr_lst av_nil))) (by first | rfl | exact nomark _))) (fun _ _ _ _ _ => ev_var 9) (by decide)))) (PEv.b (PFr.frz (fr_lst av_nil))) (by first | rfl | exact nomark _)))) (ss_nil)) (ss_cons (st_asg (PFr.cell (fr_lst av_nil)) (tg_name 8 sc__law_has.nd rfl (by first | exact .inl rfl | exact .inr rfl))) (ss_cons (st_for po rfl (it_rg1 rfl G.b_range (av_cons (ev_var 4) av_nil)) (tg_name 9 sc__law_has.nd rfl (by first | exact .inl rfl | exact .inr rfl)) (ss_cons (st_asg (PFr.frz (fr_lst (av_cons (ev_int) av_nil))) (tg_name 11 sc__law_has.nd rfl (by first | exact .inl rfl | exact .inr rfl))) (ss_cons (st_for po rfl (it_rg1 rfl G.b_range (av_cons (ev_bin op_addA opS_add (bv_var 5) (PEv.b (ev_int))) av_nil)) (tg_name 12 sc__law_has.nd rfl (by first | exact .inl rfl | exact .inr rfl)) (ss_one (st_if (tv_val (ev_call (ok__law_up G) p__law_up_len (hr.mono (by decide)) G.g__law_up G.F__law_up.kp (G.F__law_up.bindsN fun _ _ _ _ _ _ us hl => match us, hl with | [_, _, _], _ => rfl) (by first | exact tk | exact L2.takes0) (av_cons (ev_var 2) (av_cons (ev_var 9) (av_cons (ev_var 12) av_nil))))) (ss_one (st_asg (ev_bin op_addA opS_add (bv_var 11) (PEv.b (PFr.frz (fr_lc (own := [("m", 13)]) rfl sc__law_has.nd (it_rg1 rfl G.b_range (av_cons (ev_var 4) av_nil)) (blkOk_by (by kernel_rfl)) (fun _ _ _ _ _ => tg_name 13 sc__law_has.nd rfl (by first | exact .inl rfl | exact .inr rfl)) (fun _ _ _ _ _ => ts_one (PWv.t (wv_and (tv_val (ev_call (ok__law_up G) p__law_up_len (hr.mono (by decide)) G.g__law_up G.F__law_up.kp (G.F__law_up.bindsN fun _ _ _ _ _ _ us hl => match us, hl with | [_, _, _], _ => rfl) (by first | exact tk | exact L2.takes0) (av_cons (ev_var 2) (av_cons (ev_var 13) (av_cons (ev_var 12) av_nil))))) (wv_and1 (tv_cmp (op_inA hu65) (opB_in (neg := false)) (bv_var 9) (PEv.b (ev_ix hu65 (PEv.b (ev_ix hu65 (bv_var 3) (bv_var 12))) (bv_var 13))) (by first | rfl | exact nomark _)))))) (fun _ _ _ _ _ => ev_int) (by decide))))) (tg_name 11 sc__law_has.nd rfl (by first | exact .inl rfl | exact .inr rfl)))) (ss_nil)))) (ss_one (st_if (tv_cmp (op_eqD hu64) opB_eq (bv_var 11) (PEv.b (PFr.frz (fr_lst (av_cons (ev_int) av_nil)))) (by first | rfl | exact nomark _)) (ss_one (st_expr (ev_append (ev_var 8) (ev_var 9)))) (ss_nil)))))) (ss_cons (st_if (tv_cmp (op_eqD hu64) opB_eq (bv_var 1) (PEv.b (ev_str)) (by first | rfl | exact nomark _)) (ss_one (st_ret (ev_cmp (op_eqD hu64) (OpB.s opB_eq) (PEv.b (ev_b1 call_lenA c1_len G.b_len rfl (bv_var 8))) (bv_var 4) (by first | rfl | exact nomark _)))) (ss_nil)) (ss_cons (st_if (tv_cmp (op_eqD hu64) opB_eq (bv_var 1) (PEv.b (ev_str)) (by first | rfl | exact nomark _)) (ss_one (st_ret (ev_cmp (op_neD hu64) (OpB.s opB_ne) (PEv.b (PFr.frz (fr_lc (own := [("k", 9)]) rfl sc__law_has.nd (it_seq (ev_var 8)) (blkOk_by (by kernel_rfl)) (fun _ _ _ _ _ => tg_name 9 sc__law_has.nd rfl (by first | exact .inl rfl | exact .inr rfl)) (fun _ _ _ _ _ => ts_one (tv_cmp (op_inA hu65) (opB_in (neg := false)) (bv_var 9) (bv_var 6) (by first | rfl | exact nomark _))) (fun _ _ _ _ _ => ev_var 9) (by decide)))) (PEv.b (PFr.frz (fr_lst av_nil))) (by first | rfl | exact nomark _)))) (ss_nil)) (ss_cons ((by first | exact st_setLc (own := [("k", 9)]) rfl sc__law_has.nd rfl rfl rfl (it_seq (ev_var 6)) (blkOk_by (by kernel_rfl)) (fun _ _ _ _ _ => tg_name 9 sc__law_has.nd rfl (by first | exact .inl rfl | exact .inr rfl)) (fun _ _ _ _ _ => ts_one (tv_cmp (op_eqD hu64) opB_eq (PEv.b (PFr.frz (fr_lc (own := [("m", 13)]) rfl sc__law_has.nd (it_seq (ev_var 6)) (blkOk_by (by kernel_rfl)) (fun _ _ _ _ _ => tg_name 13 sc__law_has.nd rfl (by first | exact .inl rfl | exact .inr rfl)) (fun _ _ _ _ _ => ts_one (tv_cmp (op_inA hu65) (opB_in (neg := false)) (bv_var 9) (PEv.b (ev_ix hu65 (PEv.b (ev_ix hu65 (bv_var 3) (bv_var 5))) (bv_var 13))) (by first | rfl | exact nomark _))) (fun _ _ _ _ _ => ev_var 13) (by decide)))) (PEv.b (PFr.frz (fr_lst av_nil))) (by first | rfl | exact nomark _))) (fun _ _ _ _ _ => ev_var 9) (by decide) | exact st_asg (PFr.frzL (fr_lc (own := [("k", 9)]) rfl sc__law_has.nd (it_seq (ev_var 6)) (blkOk_by (by kernel_rfl)) (fun _ _ _ _ _ => tg_name 9 sc__law_has.nd rfl (by first | exact .inl rfl | exact .inr rfl)) (fun _ _ _ _ _ => ts_one (tv_cmp (op_eqD hu64) opB_eq (PEv.b (PFr.frz (fr_lc (own := [("m", 13)]) rfl sc__law_has.nd (it_seq (ev_var 6)) (blkOk_by (by kernel_rfl)) (fun _ _ _ _ _ => tg_name 13 sc__law_has.nd rfl (by first | exact .inl rfl | exact .inr rfl)) (fun _ _ _ _ _ => ts_one (tv_cmp (op_inA hu65) (opB_in (neg := false)) (bv_var 9) (PEv.b (ev_ix hu65 (PEv.b (ev_ix hu65 (bv_var 3) (bv_var 5))) (bv_var 13))) (by first | rfl | exact nomark _))) (fun _ _ _ _ _ => ev_var 13) (by decide)))) (PEv.b (PFr.frz (fr_lst av_nil))) (by first | rfl | exact nomark _))) (fun _ _ _ _ _ => ev_var 9) (by decide))) (tg_name 10 sc__law_has.nd rfl (by first | exact .inl rfl | exact .inr rfl)))) (ss_one (st_ret (ev_if (tv_cmp (op_eqD hu64) opB_eq (bv_var 1) (PEv.b (ev_str)) (by first | rfl | exact nomark _)) (ev_cmp (op_eqD hu64) (OpB.s opB_eq) (PEv.b (ev_b1 call_lenA c1_len G.b_len rfl (bv_var 10))) (PEv.b (ev_b1 call_lenA c1_len G.b_len rfl (bv_var 6))) (by first | rfl | exact nomark _)) (ev_cmp (op_neD hu64) (OpB.s opB_ne) (bv_var 10) (PEv.b (PFr.frz (fr_lst av_nil))) (by first | rfl | exact nomark _)))))))))))))))
theorem ok__law_class (G : G K mg) : FnOk P w K mg base (L2.CX P w) 3 G.a__law_class G.fd__law_class ["watch"] (spOf K mg 1 p__law_class) := by
  refine fn_ok (k := 2) (n := 3) (np := 1) (m := b__law_class) G.F__law_class sc__law_class rfl rfl ?_
  refine fun cdv A outer s H E hr => fun tk po => ?_
  have hu0 : (A.deeper (envOfC "_law_class" (defScope (top 48)) s.heap.objs.size G.a__law_class cdv)).units < cLine := by have := hr.un; omega
  have hu1 : (A.deeper (envOfC "_law_class" (defScope (top 48)) s.heap.objs.size G.a__law_class cdv)).units + 1 < cLine := by have := hr.un; omega
  have hu64 : (A.deeper (envOfC "_law_class" (defScope (top 48)) s.heap.objs.size G.a__law_class cdv)).units + 64 < cLine := by have := hr.un; omega
  have hu65 : (A.deeper (envOfC "_law_class" (defScope (top 48)) s.heap.objs.size G.a__law_class cdv)).units + 65 < cLine := by have := hr.un; omega
  unfold b__law_class l__law_class_0
  exact ss_cons (st_if (tv_not (tv_val (ev_call (ok__law_has G) p__law_has_len (hr.mono (by decide)) G.g__law_has G.F__law_has.kp (G.F__law_has.bindsN fun _ _ _ _ _ _ us hl => match us, hl with | [_, _], _ => rfl) (by first | exact tk | exact L2.takes0) (av_cons (ev_var 0) (av_cons (ev_str) av_nil))))) (ss_one (st_ret (ev_str))) (ss_nil)) (ss_cons (st_for po rfl (it_seq (PFr.frz (fr_lst (av_cons (ev_tup (av_cons (ev_str) (av_cons (ev_str) av_nil))) (av_cons (ev_tup (av_cons (ev_str) (av_cons (ev_str) av_nil))) (av_cons (ev_tup (av_cons (ev_str) (av_cons (ev_str) av_nil))) (av_cons (ev_tup (av_cons (ev_str) (av_cons (ev_str) av_nil))) av_nil))))))) (tg_sq rfl (tgs_cons (tg_name 1 sc__law_class.nd rfl (by first | exact .inl rfl | exact .inr rfl)) (tgs_cons (tg_name 2 sc__law_class.nd rfl (by first | exact .inl rfl | exact .inr rfl)) tgs_nil))) (ss_one (st_if (tv_val (ev_call (ok__law_has G) p__law_has_len (hr.mono (by decide)) G.g__law_has G.F__law_has.kp (G.F__law_has.bindsN fun _ _ _ _ _ _ us hl => match us, hl with | [_, _], _ => rfl) (by first | exact tk | exact L2.takes0) (av_cons (ev_var 0) (av_cons (ev_var 2) av_nil)))) (ss_one (st_ret (ev_var 1))) (ss_nil)))) (ss_one (st_ret (ev_str))))
theorem ok__law_shared (G : G K mg) : FnOk P w K mg base (L2.CX P w) 2 G.a__law_shared G.fd__law_shared ["watch"] (spOf K mg 1 p__law_shared) := by
  refine fn_ok (k := 1) (n := 10) (np := 1) (m := b__law_shared) G.F__law_shared sc__law_shared rfl rfl ?_
  refine fun cdv A outer s H E hr => fun tk po => ?_
  have hu0 : (A.deeper (envOfC "_law_shared" (defScope (top 49)) s.heap.objs.size G.a__law_shared cdv)).units < cLine := by have := hr.un; omega
  have hu1 : (A.deeper (envOfC "_law_shared" (defScope (top 49)) s.heap.objs.size G.a__law_shared cdv)).units + 1 < cLine := by have := hr.un; omega
  have hu64 : (A.deeper (envOfC "_law_shared" (defScope (top 49)) s.heap.objs.size G.a__law_shared cdv)).units + 64 < cLine := by have := hr.un; omega
  have hu65 : (A.deeper (envOfC "_law_shared" (defScope (top 49)) s.heap.objs.size G.a__law_shared cdv)).units + 65 < cLine := by have := hr.un; omega
  unfold b__law_shared l__law_shared_0
  exact ss_cons (st_asg (ev_var 0) (tg_sq rfl (tgs_cons (tg_name 1 sc__law_shared.nd rfl (by first | exact .inl rfl | exact .inr rfl)) (tgs_cons (tg_name 2 sc__law_shared.nd rfl (by first | exact .inl rfl | exact .inr rfl)) tgs_nil)))) (ss_cons (st_par2 (i := 3) (j := 4) rfl sc__law_shared.nd rfl rfl (by decide) rfl rfl (av_cons (ev_b1 call_lenA c1_len G.b_len rfl (bv_var 1)) (av_cons (PFr.cell (fr_lst av_nil)) av_nil)) rfl) (ss_cons (st_for po rfl (it_rg1 rfl G.b_range (av_cons (ev_b1 call_lenA c1_len G.b_len rfl (bv_var 2)) av_nil)) (tg_name 5 sc__law_shared.nd rfl (by first | exact .inl rfl | exact .inr rfl)) (ss_cons ((by first | exact st_setLc (own := [("m", 8)]) rfl sc__law_shared.nd rfl rfl rfl (it_rg1 rfl G.b_range (av_cons (ev_var 3) av_nil)) (blkOk_by (by kernel_rfl)) (fun _ _ _ _ _ => tg_name 8 sc__law_shared.nd rfl (by first | exact .inl rfl | exact .inr rfl)) (fun _ _ _ _ _ => ts_one (tv_val (ev_call (ok__law_up G) p__law_up_len (hr.mono (by decide)) G.g__law_up G.F__law_up.kp (G.F__law_up.bindsN fun _ _ _ _ _ _ us hl => match us, hl with | [_, _, _], _ => rfl) (by first | exact tk | exact L2.takes0) (av_cons (ev_var 1) (av_cons (ev_var 8) (av_cons (ev_var 5) av_nil)))))) (fun _ _ _ _ _ => ev_var 8) (by decide) | exact st_asg (PFr.frzL (fr_lc (own := [("m", 8)]) rfl sc__law_shared.nd (it_rg1 rfl G.b_range (av_cons (ev_var 3) av_nil)) (blkOk_by (by kernel_rfl)) (fun _ _ _ _ _ => tg_name 8 sc__law_shared.nd rfl (by first | exact .inl rfl | exact .inr rfl)) (fun _ _ _ _ _ => ts_one (tv_val (ev_call (ok__law_up G) p__law_up_len (hr.mono (by decide)) G.g__law_up G.F__law_up.kp (G.F__law_up.bindsN fun _ _ _ _ _ _ us hl => match us, hl with | [_, _, _], _ => rfl) (by first | exact tk | exact L2.takes0) (av_cons (ev_var 1) (av_cons (ev_var 8) (av_cons (ev_var 5) av_nil)))))) (fun _ _ _ _ _ => ev_var 8) (by decide))) (tg_name 6 sc__law_shared.nd rfl (by first | exact .inl rfl | exact .inr rfl)))) (ss_cons (st_asg (ev_t1 call_tuple_of c1_tuple G.b_tuple rfl (PEv.b (PFr.frz (fr_lc (own := [("k", 9)]) rfl sc__law_shared.nd (it_rg1 rfl G.b_range (av_cons (ev_var 3) av_nil)) (blkOk_by (by kernel_rfl)) (fun _ _ _ _ _ => tg_name 9 sc__law_shared.nd rfl (by first | exact .inl rfl | exact .inr rfl)) (fun _ _ _ _ _ => ts_one (PWv.t (wv_and (tv_cmp (op_notInA hu65) (opB_in (neg := true)) (bv_var 9) (bv_var 6) (by first | rfl | exact nomark _)) (wv_and1 (tv_cmp (op_neD hu64) opB_ne (PEv.b (PFr.frz (fr_lc (own := [("m", 8)]) rfl sc__law_shared.nd (it_seq (ev_var 6)) (blkOk_by (by kernel_rfl)) (fun _ _ _ _ _ => tg_name 8 sc__law_shared.nd rfl (by first | exact .inl rfl | exact .inr rfl)) (fun _ _ _ _ _ => ts_one (tv_cmp (op_inA hu65) (opB_in (neg := false)) (bv_var 9) (PEv.b (ev_ix hu65 (PEv.b (ev_ix hu65 (bv_var 2) (bv_var 5))) (bv_var 8))) (by first | rfl | exact nomark _))) (fun _ _ _ _ _ => ev_var 8) (by decide)))) (PEv.b (PFr.frz (fr_lst av_nil))) (by first | rfl | exact nomark _)))))) (fun _ _ _ _ _ => ev_var 9) (by decide))))) (tg_name 7 sc__law_shared.nd rfl (by first | exact .inl rfl | exact .inr rfl))) (ss_one (st_expr (ev_append (ev_var 4) (ev_t1 call_tuple_of c1_tuple G.b_tuple rfl (PEv.b (PFr.frz (fr_lc (own := [("m", 8)]) rfl sc__law_shared.nd (it_rg1 rfl G.b_range (av_cons (ev_var 3) av_nil)) (blkOk_by (by kernel_rfl)) (fun _ _ _ _ _ => tg_name 8 sc__law_shared.nd rfl (by first | exact .inl rfl | exact .inr rfl)) (fun _ _ _ _ _ => ts_nil) (fun _ _ _ _ _ => ev_if (tv_cmp (op_inA hu65) (opB_in (neg := false)) (bv_var 8) (bv_var 6) (by first | rfl | exact nomark _)) (ev_var 7) (ev_tup av_nil)) (by decide))))))))))) (ss_one (st_ret (PFr.frz (fr_lst (av_cons (ev_var 1) (av_cons (ev_t1 call_tuple_of c1_tuple G.b_tuple rfl (bv_var 4)) av_nil))))))))
theorem ok__law_leader_of (G : G K mg) : FnOk P w K mg base (L2.CX P w) 1 G.a__law_leader_of G.fd__law_leader_of ["watch", "time", "m"] (spOf K mg 3 p__law_leader_of) := by
  refine fn_ok (k := 0) (n := 6) (np := 3) (m := b__law_leader_of) G.F__law_leader_of sc__law_leader_of rfl rfl ?_
  refine fun cdv A outer s H E hr => fun tk po => ?_
  have hu0 : (A.deeper (envOfC "_law_leader_of" (defScope (top 50)) s.heap.objs.size G.a__law_leader_of cdv)).units < cLine := by have := hr.un; omega
  have hu1 : (A.deeper (envOfC "_law_leader_of" (defScope (top 50)) s.heap.objs.size G.a__law_leader_of cdv)).units + 1 < cLine := by have := hr.un; omega
  have hu64 : (A.deeper (envOfC "_law_leader_of" (defScope (top 50)) s.heap.objs.size G.a__law_leader_of cdv)).units + 64 < cLine := by have := hr.un; omega
  have hu65 : (A.deeper (envOfC "_law_leader_of" (defScope (top 50)) s.heap.objs.size G.a__law_leader_of cdv)).units + 65 < cLine := by have := hr.un; omega
  unfold b__law_leader_of
  exact ss_cons (st_asg (ev_ix hu65 (PEv.b (ev_ix hu65 (PEv.b (ev_ix hu65 (bv_var 0) (PEv.b (ev_int)))) (PEv.b (ev_b2 (call_min2 rfl) c2_min G.b_min rfl (bv_var 1) (PEv.b (ev_bin op_subA opS_sub (PEv.b (ev_b1 call_lenA c1_len G.b_len rfl (PEv.b (ev_ix hu65 (bv_var 0) (PEv.b (ev_int)))))) (PEv.b (ev_int)))))))) (bv_var 2)) (tg_name 3 sc__law_leader_of.nd rfl (by first | exact .inl rfl | exact .inr rfl))) (ss_cons ((by first | exact st_setLc (own := [("k", 5)]) rfl sc__law_leader_of.nd rfl rfl rfl (it_rg1 rfl G.b_range (av_cons (ev_b1 call_lenA c1_len G.b_len rfl (PEv.b (ev_ix hu65 (bv_var 0) (PEv.b (ev_int))))) av_nil)) (blkOk_by (by kernel_rfl)) (fun _ _ _ _ _ => tg_name 5 sc__law_leader_of.nd rfl (by first | exact .inl rfl | exact .inr rfl)) (fun _ _ _ _ _ => ts_one (tv_cmp (op_notInA hu65) (opB_in (neg := true)) (bv_var 5) (bv_var 3) (by first | rfl | exact nomark _))) (fun _ _ _ _ _ => ev_var 5) (by decide) | exact st_asg (PFr.frzL (fr_lc (own := [("k", 5)]) rfl sc__law_leader_of.nd (it_rg1 rfl G.b_range (av_cons (ev_b1 call_lenA c1_len G.b_len rfl (PEv.b (ev_ix hu65 (bv_var 0) (PEv.b (ev_int))))) av_nil)) (blkOk_by (by kernel_rfl)) (fun _ _ _ _ _ => tg_name 5 sc__law_leader_of.nd rfl (by first | exact .inl rfl | exact .inr rfl)) (fun _ _ _ _ _ => ts_one (tv_cmp (op_notInA hu65) (opB_in (neg := true)) (bv_var 5) (bv_var 3) (by first | rfl | exact nomark _))) (fun _ _ _ _ _ => ev_var 5) (by decide))) (tg_name 4 sc__law_leader_of.nd rfl (by first | exact .inl rfl | exact .inr rfl)))) (ss_one (st_ret (ev_if (tv_cmp (op_neD hu64) opB_ne (bv_var 4) (PEv.b (PFr.frz (fr_lst av_nil))) (by first | rfl | exact nomark _)) (ev_ix hu65 (bv_var 4) (PEv.b (ev_int))) (ev_non)))))
theorem ok__law_settles (G : G K mg) : FnOk P w K mg base (L2.CX P w) 2 G.a__law_settles G.fd__law_settles ["watch"] (spOf K mg 1 p__law_settles) := by
  refine fn_ok (k := 1) (n := 11) (np := 1) (m := b__law_settles) G.F__law_settles sc__law_settles rfl rfl ?_
  refine fun cdv A outer s H E hr => fun tk po => ?_
  have hu0 : (A.deeper (envOfC "_law_settles" (defScope (top 51)) s.heap.objs.size G.a__law_settles cdv)).units < cLine := by have := hr.un; omega
  have hu1 : (A.deeper (envOfC "_law_settles" (defScope (top 51)) s.heap.objs.size G.a__law_settles cdv)).units + 1 < cLine := by have := hr.un; omega
  have hu64 : (A.deeper (envOfC "_law_settles" (defScope (top 51)) s.heap.objs.size G.a__law_settles cdv)).units + 64 < cLine := by have := hr.un; omega
  have hu65 : (A.deeper (envOfC "_law_settles" (defScope (top 51)) s.heap.objs.size G.a__law_settles cdv)).units + 65 < cLine := by have := hr.un; omega
  unfold b__law_settles l__law_settles_1 l__law_settles_0
  exact ss_cons (st_asg (ev_tup (av_cons (ev_ix hu65 (bv_var 0) (PEv.b (ev_int))) (av_cons (ev_bin op_subA opS_sub (PEv.b (ev_b1 call_lenA c1_len G.b_len rfl (PEv.b (ev_ix hu65 (bv_var 0) (PEv.b (ev_int)))))) (PEv.b (ev_int))) av_nil))) (tg_sq rfl (tgs_cons (tg_name 1 sc__law_settles.nd rfl (by first | exact .inl rfl | exact .inr rfl)) (tgs_cons (tg_name 2 sc__law_settles.nd rfl (by first | exact .inl rfl | exact .inr rfl)) tgs_nil)))) (ss_cons ((by first | exact st_setLc (own := [("m", 9)]) rfl sc__law_settles.nd rfl rfl rfl (it_rg1 rfl G.b_range (av_cons (ev_b1 call_lenA c1_len G.b_len rfl (bv_var 1)) av_nil)) (blkOk_by (by kernel_rfl)) (fun _ _ _ _ _ => tg_name 9 sc__law_settles.nd rfl (by first | exact .inl rfl | exact .inr rfl)) (fun _ _ _ _ _ => ts_one (tv_cmp op_isA (opB_is (neg := false)) (PEv.b (ev_ix hu65 (bv_var 1) (bv_var 9))) (PEv.b (ev_non)) (by first | rfl | exact nomark _))) (fun _ _ _ _ _ => ev_var 9) (by decide) | exact st_asg (PFr.frzL (fr_lc (own := [("m", 9)]) rfl sc__law_settles.nd (it_rg1 rfl G.b_range (av_cons (ev_b1 call_lenA c1_len G.b_len rfl (bv_var 1)) av_nil)) (blkOk_by (by kernel_rfl)) (fun _ _ _ _ _ => tg_name 9 sc__law_settles.nd rfl (by first | exact .inl rfl | exact .inr rfl)) (fun _ _ _ _ _ => ts_one (tv_cmp op_isA (opB_is (neg := false)) (PEv.b (ev_ix hu65 (bv_var 1) (bv_var 9))) (PEv.b (ev_non)) (by first | rfl | exact nomark _))) (fun _ _ _ _ _ => ev_var 9) (by decide))) (tg_name 3 sc__law_settles.nd rfl (by first | exact .inl rfl | exact .inr rfl)))) (ss_cons (st_asg (PFr.cell (fr_lst av_nil)) (tg_name 4 sc__law_settles.nd rfl (by first | exact .inl rfl | exact .inr rfl))) (ss_cons (st_for po rfl (it_rg1 rfl G.b_range (av_cons (ev_bin op_addA opS_add (bv_var 2) (PEv.b (ev_int))) av_nil)) (tg_name 5 sc__law_settles.nd rfl (by first | exact .inl rfl | exact .inr rfl)) (ss_cons ((by first | exact st_setLc (own := [("m", 9)]) rfl sc__law_settles.nd rfl rfl rfl (it_seq (ev_var 3)) (blkOk_by (by kernel_rfl)) (fun _ _ _ _ _ => tg_name 9 sc__law_settles.nd rfl (by first | exact .inl rfl | exact .inr rfl)) (fun _ _ _ _ _ => ts_nil) (fun _ _ _ _ _ => ev_call (ok__law_leader_of G) p__law_leader_of_len (hr.mono (by decide)) G.g__law_leader_of G.F__law_leader_of.kp (G.F__law_leader_of.bindsN fun _ _ _ _ _ _ us hl => match us, hl with | [_, _, _], _ => rfl) (by first | exact tk | exact L2.takes0) (av_cons (ev_var 0) (av_cons (ev_var 5) (av_cons (ev_var 9) av_nil)))) (by decide) | exact st_asg (PFr.frzL (fr_lc (own := [("m", 9)]) rfl sc__law_settles.nd (it_seq (ev_var 3)) (blkOk_by (by kernel_rfl)) (fun _ _ _ _ _ => tg_name 9 sc__law_settles.nd rfl (by first | exact .inl rfl | exact .inr rfl)) (fun _ _ _ _ _ => ts_nil) (fun _ _ _ _ _ => ev_call (ok__law_leader_of G) p__law_leader_of_len (hr.mono (by decide)) G.g__law_leader_of G.F__law_leader_of.kp (G.F__law_leader_of.bindsN fun _ _ _ _ _ _ us hl => match us, hl with | [_, _, _], _ => rfl) (by first | exact tk | exact L2.takes0) (av_cons (ev_var 0) (av_cons (ev_var 5) (av_cons (ev_var 9) av_nil)))) (by decide))) (tg_name 7 sc__law_settles.nd rfl (by first | exact .inl rfl | exact .inr rfl)))) (ss_cons (st_asg (ev_ix hu65 (bv_var 7) (PEv.b (ev_int))) (tg_name 8 sc__law_settles.nd rfl (by first | exact .inl rfl | exact .inr rfl))) (ss_one (st_expr (ev_append (ev_var 4) (ev_if (PWv.t (wv_and (tv_cmp op_isNotA (opB_is (neg := true)) (bv_var 8) (PEv.b (ev_non)) (by first | rfl | exact nomark _)) (wv_and (tv_cmp (op_inA hu65) (opB_in (neg := false)) (bv_var 8) (bv_var 3) (by first | rfl | exact nomark _)) (wv_and1 (tv_cmp (op_eqD hu64) opB_eq (PEv.b (PFr.frz (fr_lc (own := [("x", 10)]) rfl sc__law_settles.nd (it_seq (ev_var 7)) (blkOk_by (by kernel_rfl)) (fun _ _ _ _ _ => tg_name 10 sc__law_settles.nd rfl (by first | exact .inl rfl | exact .inr rfl)) (fun _ _ _ _ _ => ts_one (tv_cmp (op_neD hu64) opB_ne (bv_var 10) (bv_var 8) (by first | rfl | exact nomark _))) (fun _ _ _ _ _ => ev_var 10) (by decide)))) (PEv.b (PFr.frz (fr_lst av_nil))) (by first | rfl | exact nomark _)))))) (ev_var 8) (ev_non)))))))) (ss_cons (st_if (tv_cmp op_isA (opB_is (neg := false)) (PEv.b (ev_ix hu65 (bv_var 4) (bv_var 2))) (PEv.b (ev_non)) (by first | rfl | exact nomark _)) (ss_one (st_ret (ev_non))) (ss_nil)) (ss_cons (st_asg (ev_var 2) (tg_name 6 sc__law_settles.nd rfl (by first | exact .inl rfl | exact .inr rfl))) (ss_cons (st_while 1000000 po (PWv.t (wv_and (tv_cmp op_gt opB_gt (bv_var 6) (PEv.b (ev_int)) (by first | rfl | exact nomark _)) (wv_and (tv_cmp op_isNotA (opB_is (neg := true)) (PEv.b (ev_ix hu65 (bv_var 4) (PEv.b (ev_bin op_subA opS_sub (bv_var 6) (PEv.b (ev_int)))))) (PEv.b (ev_non)) (by first | rfl | exact nomark _)) (wv_and1 (tv_cmp (op_eqD hu64) opB_eq (PEv.b (ev_ix hu65 (bv_var 4) (PEv.b (ev_bin op_subA opS_sub (bv_var 6) (PEv.b (ev_int)))))) (PEv.b (ev_ix hu65 (bv_var 4) (bv_var 2))) (by first | rfl | exact nomark _)))))) (ss_one (st_asg (ev_bin op_subA opS_sub (bv_var 6) (PEv.b (ev_int))) (tg_name 6 sc__law_settles.nd rfl (by first | exact .inl rfl | exact .inr rfl))))) (ss_one (st_ret (ev_var 6)))))))))
theorem ok__law_made (G : G K mg) : FnOk P w K mg base (L2.CX P w) 9 G.a__law_made G.fd__law_made ["watch", "named"] (spOf K mg 2 p__law_made) := by
  refine fn_ok (k := 8) (n := 2) (np := 2) (m := b__law_made) G.F__law_made sc__law_made rfl rfl ?_
  refine fun cdv A outer s H E hr => fun tk po => ?_
  have hu0 : (A.deeper (envOfC "_law_made" (defScope (top 52)) s.heap.objs.size G.a__law_made cdv)).units < cLine := by have := hr.un; omega
  have hu1 : (A.deeper (envOfC "_law_made" (defScope (top 52)) s.heap.objs.size G.a__law_made cdv)).units + 1 < cLine := by have := hr.un; omega
  have hu64 : (A.deeper (envOfC "_law_made" (defScope (top 52)) s.heap.objs.size G.a__law_made cdv)).units + 64 < cLine := by have := hr.un; omega
  have hu65 : (A.deeper (envOfC "_law_made" (defScope (top 52)) s.heap.objs.size G.a__law_made cdv)).units + 65 < cLine := by have := hr.un; omega
  unfold b__law_made
  exact ss_one (st_ret (ev_if (tv_val (ev_var 1)) (ev_make G.mk_Watch (ok_Watch___init__ G) p_Watch___init___len (hr.mono (by decide)) G.g_Watch (kwB_of (n := 3) (ks := []) (ix := [0, 1, 2]) G.F_Watch___init__ fun _ _ _ _ _ _ us ws h1 h2 => match us, ws, h1, h2 with | [_, _, _], [], _, _ => rfl) rfl (by first | exact tk | exact L2.takes0) (av_cons (ev_ix hu65 (bv_var 0) (PEv.b (ev_int))) (av_cons (ev_ix hu65 (bv_var 0) (PEv.b (ev_int))) av_nil))) (ev_makeK0 G.mk_Watch (ok_Watch___init__ G) p_Watch___init___len (hr.mono (by decide)) G.g_Watch (kwB_of (n := 1) (ks := ["rows", "stops"]) (ix := [0, 2, 1]) G.F_Watch___init__ fun _ _ _ _ _ _ us ws h1 h2 => match us, ws, h1, h2 with | [_], [_, _], _, _ => rfl) rfl (by first | exact tk | exact L2.takes0) (kv_cons (ev_ix hu65 (bv_var 0) (PEv.b (ev_int))) (kv_cons (ev_ix hu65 (bv_var 0) (PEv.b (ev_int))) kv_nil)))))
theorem ok__law_shared_right (G : G K mg) : FnOk P w K mg base (L2.CX P w) 10 G.a__law_shared_right G.fd__law_shared_right ["watch", "made", "named"] (spOf K mg 3 p__law_shared_right) := by
  refine fn_ok (k := 9) (n := 8) (np := 3) (m := b__law_shared_right) G.F__law_shared_right sc__law_shared_right rfl rfl ?_
  refine fun cdv A outer s H E hr => fun tk po => ?_
  have hu0 : (A.deeper (envOfC "_law_shared_right" (defScope (top 54)) s.heap.objs.size G.a__law_shared_right cdv)).units < cLine := by have := hr.un; omega
  have hu1 : (A.deeper (envOfC "_law_shared_right" (defScope (top 54)) s.heap.objs.size G.a__law_shared_right cdv)).units + 1 < cLine := by have := hr.un; omega
  have hu64 : (A.deeper (envOfC "_law_shared_right" (defScope (top 54)) s.heap.objs.size G.a__law_shared_right cdv)).units + 64 < cLine := by have := hr.un; omega
  have hu65 : (A.deeper (envOfC "_law_shared_right" (defScope (top 54)) s.heap.objs.size G.a__law_shared_right cdv)).units + 65 < cLine := by have := hr.un; omega
  unfold b__law_shared_right
  exact ss_cons (st_asg (ev_call (ok__law_shared G) p__law_shared_len (hr.mono (by decide)) G.g__law_shared G.F__law_shared.kp (G.F__law_shared.bindsN fun _ _ _ _ _ _ us hl => match us, hl with | [_], _ => rfl) (by first | exact tk | exact L2.takes0) (av_cons (ev_var 0) av_nil)) (tg_name 3 sc__law_shared_right.nd rfl (by first | exact .inl rfl | exact .inr rfl))) (ss_cons (st_asg (ev_if (tv_val (ev_var 2)) (ev_call (ok_shared_watch G) p_shared_watch_len (hr.mono (by decide)) G.g_shared_watch G.F_shared_watch.kp (G.F_shared_watch.bindsN fun _ _ _ _ _ _ us hl => match us, hl with | [_], _ => rfl) (by first | exact tk | exact L2.takes0) (av_cons (ev_var 1) av_nil)) (ev_callK0 (ok_shared_watch G) p_shared_watch_len (hr.mono (by decide)) G.g_shared_watch G.F_shared_watch.kp (kwB_of (n := 0) (ks := ["watch"]) (ix := [0]) G.F_shared_watch fun _ _ _ _ _ _ us ws h1 h2 => match us, ws, h1, h2 with | [], [_], _, _ => rfl) (by first | exact tk | exact L2.takes0) (kv_cons (ev_var 1) kv_nil))) (tg_name 4 sc__law_shared_right.nd rfl (by first | exact .inl rfl | exact .inr rfl))) (ss_cons (st_if (PWv.t (wv_or (tv_not (tv_val (ev_iso G.iso_Watch G.b_isinstance (bv_var 4)))) (wv_or1 (tv_not (tv_val (ev_call (ok__law_same G 6) (p__law_same_len _) (hr.mono (by decide)) G.g__law_same G.F__law_same.kp (G.F__law_same.bindsN fun _ _ _ _ _ _ us hl => match us, hl with | [_, _], _ => rfl) (by first | exact tk | exact L2.takes0) (av_cons (PFr.frz (fr_lst (av_cons (ev_attr G.at_stops (bv_var 4)) (av_cons (ev_attr G.at_rows (bv_var 4)) av_nil)))) (av_cons (ev_var 3) av_nil)))))))) (ss_one (st_ret (ev_bl))) (ss_nil)) (ss_cons (st_asg (ev_call (ok__law_has G) p__law_has_len (hr.mono (by decide)) G.g__law_has G.F__law_has.kp (G.F__law_has.bindsN fun _ _ _ _ _ _ us hl => match us, hl with | [_, _], _ => rfl) (by first | exact tk | exact L2.takes0) (av_cons (ev_var 0) (av_cons (ev_str) av_nil))) (tg_name 5 sc__law_shared_right.nd rfl (by first | exact .inl rfl | exact .inr rfl))) (ss_cons (st_if (tv_not (tv_val (ev_call (ok__law_same G 6) (p__law_same_len _) (hr.mono (by decide)) G.g__law_same G.F__law_same.kp (G.F__law_same.bindsN fun _ _ _ _ _ _ us hl => match us, hl with | [_, _], _ => rfl) (by first | exact tk | exact L2.takes0) (av_cons (PFr.frz (fr_lst (av_cons (ev_call (ok_watch_has G) p_watch_has_len (hr.mono (by decide)) G.g_watch_has G.F_watch_has.kp (G.F_watch_has.bindsN fun _ _ _ _ _ _ us hl => match us, hl with | [_, _], _ => rfl) (by first | exact tk | exact L2.takes0) (av_cons (ev_var 4) (av_cons (ev_str) av_nil))) (av_cons (ev_call (ok_watch_has G) p_watch_has_len (hr.mono (by decide)) G.g_watch_has G.F_watch_has.kp (G.F_watch_has.bindsN fun _ _ _ _ _ _ us hl => match us, hl with | [_, _], _ => rfl) (by first | exact tk | exact L2.takes0) (av_cons (ev_var 4) (av_cons (ev_str) av_nil))) (av_cons (ev_call (ok_watch_class G) p_watch_class_len (hr.mono (by decide)) G.g_watch_class G.F_watch_class.kp (G.F_watch_class.bindsN fun _ _ _ _ _ _ us hl => match us, hl with | [_], _ => rfl) (by first | exact tk | exact L2.takes0) (av_cons (ev_var 4) av_nil)) av_nil))))) (av_cons (PFr.frz (fr_lst (av_cons (ev_bl) (av_cons (ev_var 5) (av_cons (ev_if (tv_val (ev_var 5)) (ev_str) (ev_str)) av_nil))))) av_nil))))) (ss_one (st_ret (ev_bl))) (ss_nil)) (ss_cons (st_asg (ev_if (tv_val (ev_var 2)) (ev_callK0 (ok_shared_watch G) p_shared_watch_len (hr.mono (by decide)) G.g_shared_watch G.F_shared_watch.kp (kwB_of (n := 0) (ks := ["watch"]) (ix := [0]) G.F_shared_watch fun _ _ _ _ _ _ us ws h1 h2 => match us, ws, h1, h2 with | [], [_], _, _ => rfl) (by first | exact tk | exact L2.takes0) (kv_cons (ev_var 4) kv_nil)) (ev_call (ok_shared_watch G) p_shared_watch_len (hr.mono (by decide)) G.g_shared_watch G.F_shared_watch.kp (G.F_shared_watch.bindsN fun _ _ _ _ _ _ us hl => match us, hl with | [_], _ => rfl) (by first | exact tk | exact L2.takes0) (av_cons (ev_var 4) av_nil))) (tg_name 6 sc__law_shared_right.nd rfl (by first | exact .inl rfl | exact .inr rfl))) (ss_cons (st_if (PWv.t (wv_or (tv_not (tv_val (ev_call (ok__law_same G 6) (p__law_same_len _) (hr.mono (by decide)) G.g__law_same G.F__law_same.kp (G.F__law_same.bindsN fun _ _ _ _ _ _ us hl => match us, hl with | [_, _], _ => rfl) (by first | exact tk | exact L2.takes0) (av_cons (PFr.frz (fr_lst (av_cons (ev_attr G.at_stops (bv_var 6)) (av_cons (ev_attr G.at_rows (bv_var 6)) av_nil)))) (av_cons (ev_var 3) av_nil))))) (wv_or1 (tv_not (tv_val (ev_call (ok__law_same G 6) (p__law_same_len _) (hr.mono (by decide)) G.g__law_same G.F__law_same.kp (G.F__law_same.bindsN fun _ _ _ _ _ _ us hl => match us, hl with | [_, _], _ => rfl) (by first | exact tk | exact L2.takes0) (av_cons (ev_call (ok_settles G) p_settles_len (hr.mono (by decide)) G.g_settles G.F_settles.kp (G.F_settles.bindsN fun _ _ _ _ _ _ us hl => match us, hl with | [_], _ => rfl) (by first | exact tk | exact L2.takes0) (av_cons (ev_var 4) av_nil)) (av_cons (ev_call (ok__law_settles G) p__law_settles_len (hr.mono (by decide)) G.g__law_settles G.F__law_settles.kp (G.F__law_settles.bindsN fun _ _ _ _ _ _ us hl => match us, hl with | [_], _ => rfl) (by first | exact tk | exact L2.takes0) (av_cons (ev_var 3) av_nil)) av_nil)))))))) (ss_one (st_ret (ev_bl))) (ss_nil)) (ss_cons (st_if (tv_cmp (op_ltA hu0) opB_lt (PEv.b (ev_b1 call_lenA c1_len G.b_len rfl (PEv.b (ev_ix hu65 (bv_var 0) (PEv.b (ev_int)))))) (PEv.b (ev_int)) (by first | rfl | exact nomark _)) (ss_cons (st_asg (ev_make G.mk_Watch (ok_Watch___init__ G) p_Watch___init___len (hr.mono (by decide)) G.g_Watch (kwB_of (n := 3) (ks := []) (ix := [0, 1, 2]) G.F_Watch___init__ fun _ _ _ _ _ _ us ws h1 h2 => match us, ws, h1, h2 with | [_, _, _], [], _, _ => rfl) rfl (by first | exact tk | exact L2.takes0) (av_cons (ev_ix hu65 (bv_var 0) (PEv.b (ev_int))) (av_cons (ev_bin op_addA opS_add (PEv.b (ev_ix hu65 (bv_var 0) (PEv.b (ev_int)))) (PEv.b (ev_tup (av_cons (ev_ix hu65 (PEv.b (ev_ix hu65 (bv_var 0) (PEv.b (ev_int)))) (PEv.b (ev_neg (PEv.b (ev_int))))) av_nil)))) av_nil))) (tg_name 7 sc__law_shared_right.nd rfl (by first | exact .inl rfl | exact .inr rfl))) (ss_one (st_if (tv_not (tv_val (ev_call (ok__law_same G 6) (p__law_same_len _) (hr.mono (by decide)) G.g__law_same G.F__law_same.kp (G.F__law_same.bindsN fun _ _ _ _ _ _ us hl => match us, hl with | [_, _], _ => rfl) (by first | exact tk | exact L2.takes0) (av_cons (PFr.frz (fr_lst (av_cons (ev_call (ok_watch_class G) p_watch_class_len (hr.mono (by decide)) G.g_watch_class G.F_watch_class.kp (G.F_watch_class.bindsN fun _ _ _ _ _ _ us hl => match us, hl with | [_], _ => rfl) (by first | exact tk | exact L2.takes0) (av_cons (ev_var 7) av_nil)) (av_cons (ev_call (ok_settles G) p_settles_len (hr.mono (by decide)) G.g_settles G.F_settles.kp (G.F_settles.bindsN fun _ _ _ _ _ _ us hl => match us, hl with | [_], _ => rfl) (by first | exact tk | exact L2.takes0) (av_cons (ev_var 7) av_nil)) av_nil)))) (av_cons (PFr.frz (fr_lst (av_cons (ev_call (ok__law_class G) p__law_class_len (hr.mono (by decide)) G.g__law_class G.F__law_class.kp (G.F__law_class.bindsN fun _ _ _ _ _ _ us hl => match us, hl with | [_], _ => rfl) (by first | exact tk | exact L2.takes0) (av_cons (ev_var 0) av_nil)) (av_cons (ev_call (ok__law_settles G) p__law_settles_len (hr.mono (by decide)) G.g__law_settles G.F__law_settles.kp (G.F__law_settles.bindsN fun _ _ _ _ _ _ us hl => match us, hl with | [_], _ => rfl) (by first | exact tk | exact L2.takes0) (av_cons (ev_var 0) av_nil)) av_nil)))) av_nil))))) (ss_one (st_ret (ev_bl))) (ss_nil)))) (ss_nil)) (ss_one (st_ret (ev_bl))))))))))
theorem ok__law_right (G : G K mg) : FnOk P w K mg base (L2.CX P w) 11 G.a__law_right G.fd__law_right ["watch", "named"] (spOf K mg 2 p__law_right) := by
  refine fn_ok (k := 10) (n := 16) (np := 2) (m := b__law_right) G.F__law_right sc__law_right rfl rfl ?_
  refine fun cdv A outer s H E hr => fun tk po => ?_
  have hu0 : (A.deeper (envOfC "_law_right" (defScope (top 53)) s.heap.objs.size G.a__law_right cdv)).units < cLine := by have := hr.un; omega
  have hu1 : (A.deeper (envOfC "_law_right" (defScope (top 53)) s.heap.objs.size G.a__law_right cdv)).units + 1 < cLine := by have := hr.un; omega
  have hu64 : (A.deeper (envOfC "_law_right" (defScope (top 53)) s.heap.objs.size G.a__law_right cdv)).units + 64 < cLine := by have := hr.un; omega
  have hu65 : (A.deeper (envOfC "_law_right" (defScope (top 53)) s.heap.objs.size G.a__law_right cdv)).units + 65 < cLine := by have := hr.un; omega
  unfold b__law_right l__law_right_0
  exact ss_cons (st_asg (ev_var 0) (tg_sq rfl (tgs_cons (tg_name 2 sc__law_right.nd rfl (by first | exact .inl rfl | exact .inr rfl)) (tgs_cons (tg_name 3 sc__law_right.nd rfl (by first | exact .inl rfl | exact .inr rfl)) tgs_nil)))) (ss_cons (st_asg (ev_call (ok__law_made G) p__law_made_len (hr.mono (by decide)) G.g__law_made G.F__law_made.kp (G.F__law_made.bindsN fun _ _ _ _ _ _ us hl => match us, hl with | [_, _], _ => rfl) (by first | exact tk | exact L2.takes0) (av_cons (ev_var 0) (av_cons (ev_var 1) av_nil))) (tg_name 4 sc__law_right.nd rfl (by first | exact .inl rfl | exact .inr rfl))) (ss_cons (st_par2 (i := 5) (j := 6) rfl sc__law_right.nd rfl rfl (by decide) rfl rfl (av_cons (ev_call (ok__law_class G) p__law_class_len (hr.mono (by decide)) G.g__law_class G.F__law_class.kp (G.F__law_class.bindsN fun _ _ _ _ _ _ us hl => match us, hl with | [_], _ => rfl) (by first | exact tk | exact L2.takes0) (av_cons (ev_var 0) av_nil)) (av_cons (ev_call (ok__law_settles G) p__law_settles_len (hr.mono (by decide)) G.g__law_settles G.F__law_settles.kp (G.F__law_settles.bindsN fun _ _ _ _ _ _ us hl => match us, hl with | [_], _ => rfl) (by first | exact tk | exact L2.takes0) (av_cons (ev_var 0) av_nil)) av_nil)) rfl) (ss_cons (st_asg (ev_if (tv_val (ev_var 1)) (PFr.frz (fr_lst (av_cons (ev_call (ok_watch_class G) p_watch_class_len (hr.mono (by decide)) G.g_watch_class G.F_watch_class.kp (G.F_watch_class.bindsN fun _ _ _ _ _ _ us hl => match us, hl with | [_], _ => rfl) (by first | exact tk | exact L2.takes0) (av_cons (ev_var 4) av_nil)) (av_cons (ev_callK0 (ok_settles G) p_settles_len (hr.mono (by decide)) G.g_settles G.F_settles.kp (kwB_of (n := 0) (ks := ["watch"]) (ix := [0]) G.F_settles fun _ _ _ _ _ _ us ws h1 h2 => match us, ws, h1, h2 with | [], [_], _, _ => rfl) (by first | exact tk | exact L2.takes0) (kv_cons (ev_var 4) kv_nil)) av_nil)))) (PFr.frz (fr_lst (av_cons (ev_callK0 (ok_watch_class G) p_watch_class_len (hr.mono (by decide)) G.g_watch_class G.F_watch_class.kp (kwB_of (n := 0) (ks := ["watch"]) (ix := [0]) G.F_watch_class fun _ _ _ _ _ _ us ws h1 h2 => match us, ws, h1, h2 with | [], [_], _, _ => rfl) (by first | exact tk | exact L2.takes0) (kv_cons (ev_var 4) kv_nil)) (av_cons (ev_call (ok_settles G) p_settles_len (hr.mono (by decide)) G.g_settles G.F_settles.kp (G.F_settles.bindsN fun _ _ _ _ _ _ us hl => match us, hl with | [_], _ => rfl) (by first | exact tk | exact L2.takes0) (av_cons (ev_var 4) av_nil)) av_nil))))) (tg_name 7 sc__law_right.nd rfl (by first | exact .inl rfl | exact .inr rfl))) (ss_cons (st_if (tv_not (tv_val (ev_call (ok__law_same G 6) (p__law_same_len _) (hr.mono (by decide)) G.g__law_same G.F__law_same.kp (G.F__law_same.bindsN fun _ _ _ _ _ _ us hl => match us, hl with | [_, _], _ => rfl) (by first | exact tk | exact L2.takes0) (av_cons (ev_var 7) (av_cons (PFr.frz (fr_lst (av_cons (ev_var 5) (av_cons (ev_var 6) av_nil)))) av_nil))))) (ss_one (st_ret (ev_bl))) (ss_nil)) (ss_cons (st_asg (PFr.frz (fr_lst (av_cons (ev_str) (av_cons (ev_str) (av_cons (ev_str) (av_cons (ev_str) (av_cons (ev_str) av_nil))))))) (tg_name 8 sc__law_right.nd rfl (by first | exact .inl rfl | exact .inr rfl))) (ss_cons ((by first | exact st_setLc (own := [("name", 14)]) rfl sc__law_right.nd rfl rfl rfl (it_seq (ev_var 8)) (blkOk_by (by kernel_rfl)) (fun _ _ _ _ _ => tg_name 14 sc__law_right.nd rfl (by first | exact .inl rfl | exact .inr rfl)) (fun _ _ _ _ _ => ts_nil) (fun _ _ _ _ _ => ev_call (ok_watch_has G) p_watch_has_len (hr.mono (by decide)) G.g_watch_has G.F_watch_has.kp (G.F_watch_has.bindsN fun _ _ _ _ _ _ us hl => match us, hl with | [_, _], _ => rfl) (by first | exact tk | exact L2.takes0) (av_cons (ev_var 4) (av_cons (ev_var 14) av_nil))) (by decide) | exact st_asg (PFr.frzL (fr_lc (own := [("name", 14)]) rfl sc__law_right.nd (it_seq (ev_var 8)) (blkOk_by (by kernel_rfl)) (fun _ _ _ _ _ => tg_name 14 sc__law_right.nd rfl (by first | exact .inl rfl | exact .inr rfl)) (fun _ _ _ _ _ => ts_nil) (fun _ _ _ _ _ => ev_call (ok_watch_has G) p_watch_has_len (hr.mono (by decide)) G.g_watch_has G.F_watch_has.kp (G.F_watch_has.bindsN fun _ _ _ _ _ _ us hl => match us, hl with | [_, _], _ => rfl) (by first | exact tk | exact L2.takes0) (av_cons (ev_var 4) (av_cons (ev_var 14) av_nil))) (by decide))) (tg_name 9 sc__law_right.nd rfl (by first | exact .inl rfl | exact .inr rfl)))) (ss_cons (st_asg (ev_str) (tg_name 10 sc__law_right.nd rfl (by first | exact .inl rfl | exact .inr rfl))) (ss_cons (st_if (PWv.t (wv_and (tv_cmp op_isA (opB_is (neg := false)) (PEv.b (ev_ix hu65 (bv_var 9) (PEv.b (ev_int)))) (PEv.b (ev_bl)) (by first | rfl | exact nomark _)) (wv_and1 (tv_cmp (op_inA hu65) (opB_in (neg := false)) (PEv.b (ev_bl)) (PEv.b (ev_slice (bv_var 9) (ov_some (ev_int)) (ov_none))) (by first | rfl | exact nomark _))))) (ss_one (st_asg (ev_ix hu65 (PEv.b (PFr.frz (fr_lst (av_cons (ev_str) (av_cons (ev_str) (av_cons (ev_str) (av_cons (ev_str) av_nil))))))) (PEv.b (ev_index hu65 (PEv.b (ev_slice (bv_var 9) (ov_some (ev_int)) (ov_none))) (PEv.b (ev_bl))))) (tg_name 10 sc__law_right.nd rfl (by first | exact .inl rfl | exact .inr rfl)))) (ss_nil)) (ss_cons (st_if (tv_cmp (op_neD hu64) opB_ne (bv_var 10) (bv_var 5) (by first | rfl | exact nomark _)) (ss_one (st_ret (ev_bl))) (ss_nil)) (ss_cons ((by first | exact st_setLc (own := [("m", 15)]) rfl sc__law_right.nd rfl rfl rfl (it_rg1 rfl G.b_range (av_cons (ev_b1 call_lenA c1_len G.b_len rfl (bv_var 2)) av_nil)) (blkOk_by (by kernel_rfl)) (fun _ _ _ _ _ => tg_name 15 sc__law_right.nd rfl (by first | exact .inl rfl | exact .inr rfl)) (fun _ _ _ _ _ => ts_one (tv_cmp op_isA (opB_is (neg := false)) (PEv.b (ev_ix hu65 (bv_var 2) (bv_var 15))) (PEv.b (ev_non)) (by first | rfl | exact nomark _))) (fun _ _ _ _ _ => ev_var 15) (by decide) | exact st_asg (PFr.frzL (fr_lc (own := [("m", 15)]) rfl sc__law_right.nd (it_rg1 rfl G.b_range (av_cons (ev_b1 call_lenA c1_len G.b_len rfl (bv_var 2)) av_nil)) (blkOk_by (by kernel_rfl)) (fun _ _ _ _ _ => tg_name 15 sc__law_right.nd rfl (by first | exact .inl rfl | exact .inr rfl)) (fun _ _ _ _ _ => ts_one (tv_cmp op_isA (opB_is (neg := false)) (PEv.b (ev_ix hu65 (bv_var 2) (bv_var 15))) (PEv.b (ev_non)) (by first | rfl | exact nomark _))) (fun _ _ _ _ _ => ev_var 15) (by decide))) (tg_name 11 sc__law_right.nd rfl (by first | exact .inl rfl | exact .inr rfl)))) (ss_cons (st_if (tv_cmp op_isNotA (opB_is (neg := true)) (bv_var 6) (PEv.b (ev_non)) (by first | rfl | exact nomark _)) (ss_cons (st_asg (ev_call (ok_leader_at G) p_leader_at_len (hr.mono (by decide)) G.g_leader_at G.F_leader_at.kp (G.F_leader_at.bindsN fun _ _ _ _ _ _ us hl => match us, hl with | [_, _, _], _ => rfl) (by first | exact tk | exact L2.takes0) (av_cons (ev_var 4) (av_cons (ev_var 6) (av_cons (ev_ix hu65 (bv_var 11) (PEv.b (ev_int))) av_nil)))) (tg_name 12 sc__law_right.nd rfl (by first | exact .inl rfl | exact .inr rfl))) (ss_one (st_for po rfl (it_seq (PFr.frz (fr_listRg2 rfl G.b_list G.b_range (bv_var 6) (PEv.b (ev_bin op_addA opS_add (PEv.b (ev_b1 call_lenA c1_len G.b_len rfl (bv_var 3))) (PEv.b (ev_int))))))) (tg_name 13 sc__law_right.nd rfl (by first | exact .inl rfl | exact .inr rfl)) (ss_one (st_if (PWv.t (wv_or (tv_cmp (op_neD hu64) opB_ne (PEv.b (PFr.frz (fr_lc (own := [("m", 15)]) rfl sc__law_right.nd (it_seq (ev_var 11)) (blkOk_by (by kernel_rfl)) (fun _ _ _ _ _ => tg_name 15 sc__law_right.nd rfl (by first | exact .inl rfl | exact .inr rfl)) (fun _ _ _ _ _ => ts_one (tv_cmp (op_neD hu64) opB_ne (PEv.b (ev_call (ok_leader_at G) p_leader_at_len (hr.mono (by decide)) G.g_leader_at G.F_leader_at.kp (G.F_leader_at.bindsN fun _ _ _ _ _ _ us hl => match us, hl with | [_, _, _], _ => rfl) (by first | exact tk | exact L2.takes0) (av_cons (ev_var 4) (av_cons (ev_var 13) (av_cons (ev_var 15) av_nil))))) (bv_var 12) (by first | rfl | exact nomark _))) (fun _ _ _ _ _ => ev_var 15) (by decide)))) (PEv.b (PFr.frz (fr_lst av_nil))) (by first | rfl | exact nomark _)) (wv_or1 (tv_cmp (op_notInA hu65) (opB_in (neg := true)) (bv_var 12) (bv_var 11) (by first | rfl | exact nomark _))))) (ss_one (st_ret (ev_bl))) (ss_nil)))))) (ss_nil)) (ss_cons (st_if (PWv.t (wv_and (tv_cmp op_isA (opB_is (neg := false)) (bv_var 6) (PEv.b (ev_non)) (by first | rfl | exact nomark _)) (wv_and (tv_cmp op_isA (opB_is (neg := false)) (PEv.b (ev_ix hu65 (bv_var 9) (PEv.b (ev_int)))) (PEv.b (ev_bl)) (by first | rfl | exact nomark _)) (wv_and1 (tv_cmp op_isA (opB_is (neg := false)) (PEv.b (ev_ix hu65 (bv_var 9) (PEv.b (ev_int)))) (PEv.b (ev_bl)) (by first | rfl | exact nomark _)))))) (ss_one (st_ret (ev_bl))) (ss_nil)) (ss_one (st_ret (ev_call (ok__law_shared_right G) p__law_shared_right_len (hr.mono (by decide)) G.g__law_shared_right G.F__law_shared_right.kp (G.F__law_shared_right.bindsN fun _ _ _ _ _ _ us hl => match us, hl with | [_, _, _], _ => rfl) (by first | exact tk | exact L2.takes0) (av_cons (ev_var 0) (av_cons (ev_var 4) (av_cons (ev_var 1) av_nil))))))))))))))))))
theorem ok_law (G : G K mg) : FnOk P w K mg base (L2.CX P w) 12 G.a_law G.fd_law ["script"] (spOf K mg 1 p_law) := by
  refine fn_ok (k := 11) (n := 7) (np := 1) (m := b_law) G.F_law sc_law rfl rfl ?_
  refine fun cdv A outer s H E hr => fun tk po => ?_
  have hu0 : (A.deeper (envOfC "law" (defScope (top 55)) s.heap.objs.size G.a_law cdv)).units < cLine := by have := hr.un; omega
  have hu1 : (A.deeper (envOfC "law" (defScope (top 55)) s.heap.objs.size G.a_law cdv)).units + 1 < cLine := by have := hr.un; omega
  have hu64 : (A.deeper (envOfC "law" (defScope (top 55)) s.heap.objs.size G.a_law cdv)).units + 64 < cLine := by have := hr.un; omega
  have hu65 : (A.deeper (envOfC "law" (defScope (top 55)) s.heap.objs.size G.a_law cdv)).units + 65 < cLine := by have := hr.un; omega
  unfold b_law l_law_1 l_law_0
  exact ss_cons (st_for po rfl (it_rg1 rfl G.b_range (av_cons (ev_b2 (call_max2 rfl) c2_max G.b_max rfl (PEv.b (ev_int)) (PEv.b (ev_b2 (call_min2 rfl) c2_min G.b_min rfl (PEv.b (ev_int)) (PEv.b (ev_b1 call_lenA c1_len G.b_len rfl (bv_var 0)))))) av_nil)) (tg_name 1 sc_law.nd rfl (by first | exact .inl rfl | exact .inr rfl)) (ss_cons (st_asg (ev_call (ok__law_box G) p__law_box_len (hr.mono (by decide)) G.g__law_box G.F__law_box.kp (G.F__law_box.bindsN fun _ _ _ _ _ _ us hl => match us, hl with | [_], _ => rfl) (by first | exact tk | exact L2.takes0) (av_cons (ev_call (ok__law_cell G) p__law_cell_len (hr.mono (by decide)) G.g__law_cell G.F__law_cell.kp (G.F__law_cell.bindsN fun _ _ _ _ _ _ us hl => match us, hl with | [_, _], _ => rfl) (by first | exact tk | exact L2.takes0) (av_cons (ev_var 0) (av_cons (ev_var 1) av_nil))) av_nil)) (tg_name 2 sc_law.nd rfl (by first | exact .inl rfl | exact .inr rfl))) (ss_cons (st_asg (ev_cmp (op_eqD hu64) (OpB.s opB_eq) (PEv.b (ev_call (ok__law_take G) p__law_take_len (hr.mono (by decide)) G.g__law_take G.F__law_take.kp (G.F__law_take.bindsN fun _ _ _ _ _ _ us hl => match us, hl with | [_, _], _ => rfl) (by first | exact tk | exact L2.takes0) (av_cons (ev_var 2) (av_cons (ev_int) av_nil)))) (PEv.b (ev_int)) (by first | rfl | exact nomark _)) (tg_name 3 sc_law.nd rfl (by first | exact .inl rfl | exact .inr rfl))) (ss_one (st_for po rfl (it_rg1 rfl G.b_range (av_cons (ev_int) av_nil)) (tg_name 4 sc_law.nd rfl (by first | exact .inl rfl | exact .inr rfl)) (ss_cons (st_asg (ev_call (ok__law_some_watch G) p__law_some_watch_len (hr.mono (by decide)) G.g__law_some_watch G.F__law_some_watch.kp (G.F__law_some_watch.bindsN fun _ _ _ _ _ _ us hl => match us, hl with | [_], _ => rfl) (by first | exact tk | exact L2.takes0) (av_cons (ev_var 2) av_nil)) (tg_name 5 sc_law.nd rfl (by first | exact .inl rfl | exact .inr rfl))) (ss_cons (st_if (tv_cmp (op_eqD hu64) opB_eq (bv_var 4) (PEv.b (ev_int)) (by first | rfl | exact nomark _)) (ss_cons (st_asg (ev_ix hu65 (PEv.b (PFr.frz (fr_lst (av_cons (ev_bin op_mulE opS_mulE (PEv.b (ev_tup (av_cons (ev_non) av_nil))) (PEv.b (ev_b1 call_lenA c1_len G.b_len rfl (PEv.b (ev_ix hu65 (bv_var 5) (PEv.b (ev_int))))))) (av_cons (ev_bin op_addA opS_add (PEv.b (ev_tup (av_cons (ev_non) av_nil))) (PEv.b (ev_bin op_mulE opS_mulE (PEv.b (ev_tup (av_cons (ev_int) av_nil))) (PEv.b (ev_bin op_subA opS_sub (PEv.b (ev_b1 call_lenA c1_len G.b_len rfl (PEv.b (ev_ix hu65 (bv_var 5) (PEv.b (ev_int)))))) (PEv.b (ev_int))))))) av_nil))))) (PEv.b (ev_call (ok__law_take G) p__law_take_len (hr.mono (by decide)) G.g__law_take G.F__law_take.kp (G.F__law_take.bindsN fun _ _ _ _ _ _ us hl => match us, hl with | [_, _], _ => rfl) (by first | exact tk | exact L2.takes0) (av_cons (ev_var 2) (av_cons (ev_int) av_nil))))) (tg_name 6 sc_law.nd rfl (by first | exact .inl rfl | exact .inr rfl))) (ss_one (st_asg (PFr.frz (fr_lst (av_cons (ev_var 6) (av_cons (ev_ix hu65 (bv_var 5) (PEv.b (ev_int))) av_nil)))) (tg_name 5 sc_law.nd rfl (by first | exact .inl rfl | exact .inr rfl))))) (ss_nil)) (ss_cons (st_if (tv_not (tv_val (ev_call (ok__law_right G) p__law_right_len (hr.mono (by decide)) G.g__law_right G.F__law_right.kp (G.F__law_right.bindsN fun _ _ _ _ _ _ us hl => match us, hl with | [_, _], _ => rfl) (by first | exact tk | exact L2.takes0) (av_cons (ev_var 5) (av_cons (ev_var 3) av_nil))))) (ss_one (st_ret (ev_bl))) (ss_nil)) (ss_one (st_asg (ev_not (ev_var 3)) (tg_name 3 sc_law.nd rfl (by first | exact .inl rfl | exact .inr rfl)))))))))))) (ss_one (st_ret (ev_bl)))
end
end K58

/-! The pure layer, part 41: running the newer constructs by simp; comprehensions and loops by what they keep. -/
namespace QB
open PySem PySem.Spec PyProof.Rows L2
section
variable {α β : Type} {e : PEnv} {s : Store} {d d2 : D} {c c2 : Cell} {k i j n m np : Nat} {x : Exn} {l : List D}
@[simp] theorem r_enumA {a : M (List D)} : enumA a e s = (a e s).andThen fun ds => fun e s => match ds with
  | [d] => (match topD d s with
    | some _ => .ok (.enum d) e s
    | none => .bad)
  | _ => .bad := rfl
@[simp] theorem r_items_enum_tup : (Src.enum (.tup l)).items s = some (enumL 0 l) := rfl
@[simp] theorem r_for_enum_tup {f : D → M Unit} {body : SM} : runFor (.enum (.tup l)) f body e s = forL f body (enumL 0 l) e s := runFor_c fun _ => rfl
@[simp] theorem r_items_dn {a : Int} {n : Nat} : (Src.dn a n).items s = some ((List.range n).map fun i => D.int (a - (i : Nat))) := rfl
@[simp] theorem r_for_dn {f : D → M Unit} {body : SM} {a : Int} {n : Nat} : runFor (.dn a n) f body e s = forL f body ((List.range n).map fun i => D.int (a - (i : Nat))) e s := runFor_c fun _ => rfl
@[simp] theorem r_rg3S {a : M (List D)} : rg3S a e s = (a e s).andThen fun ds => match ds with
  | [.int i, .int j, .int c] => chk (decide (c = -1) && (rngOk i && rngOk j)) (rt (.dn i (i - j).toNat))
  | _ => fail := rfl
@[simp] theorem r_cd_obj {cn : Str} {fs : List (Str × D)} : (Cell.obj cn fs).d = .obj cn fs := rfl
@[simp] theorem r_cd_fdc {l : List (Key × D)} : (Cell.fdc l).d = .dct l := rfl
@[simp] theorem r_rd_obj {cn : Str} {fs : List (Str × D)} : rd (.v (.obj cn fs)) e s = .ok (.obj cn fs) e s := rfl
@[simp] theorem r_attr {ok : Str → Bool} {f cn : Str} {fs : List (Str × D)} : attrD ok f (.obj cn fs) = if ok cn = true then fs.lookup f else none := rfl
@[simp] theorem r_lockVar : lockVar i e s = match e[i]? with
  | some (.val (.ref k)) => (match s[k]? with
    | some (.dct kvs) => .ok (.dct kvs) e (s.set k (.fdc kvs))
    | _ => .bad)
  | _ => .bad := rfl
@[simp] theorem r_setF {ok : Str → Bool} {f : Str} {a : M D} : setF ok i f a e s = (a e s).toS fun d => fun e s => match e[i]? with
  | some (Slot.own (Cell.obj cn fs)) => if (ok cn && Nat.ble fs.length 900) = true then .nx (e.set i (.own (.obj cn (putFD f d fs)))) s else .bad
  | _ => .bad := rfl
@[simp] theorem r_runI {cn : Str} {b : SM} {ds : List D} : runI n np cn b ds s = if ds.length = np then (b (startI n cn ds) s).ir cn else .bad := rfl
@[simp] theorem r_ir_nx {cn : Str} : (SR.nx e s).ir cn = match selfOf cn e with | some fs => .ok fs s | none => .bad := rfl
@[simp] theorem r_makeK {cn : Str} {g : FnI} {ix : List Nat} {a b : M (List D)} : makeK cn g n m ix a b e s = (a e s).andThen fun ds => bnd b fun es => chk (decide (ds.length = n ∧ es.length = m)) fun e s => match g (permL ix (ds ++ es)) s with
  | .ok fs s' => .ok (.obj cn fs) e s'
  | .exc x s' => .exc x e s'
  | .bad => .bad := rfl
@[simp] theorem r_callK {g : Fn} {ix : List Nat} {a b : M (List D)} : callK g n m ix a b e s = callM g (bnd a fun ds => bnd b fun es => chk (decide (ds.length = n ∧ es.length = m)) (rt (permL ix (ds ++ es)))) e s := rfl
@[simp] theorem r_permL_nil {l : List α} : permL [] l = [] := rfl
@[simp] theorem r_permL_cons {l : List α} {ix : List Nat} : permL (i :: ix) l = match l[i]? with | some a => a :: permL ix l | none => permL ix l := by
  unfold permL
  rw [List.filterMap_cons]
  cases l[i]? <;> rfl
@[simp] theorem r_dispM {l : List (M D × M D)} : dispM l e s = (pairsM l e s).andThen fun kvs => chk (Nat.ble kvs.length 15) (rt (.dct (mergeD [] kvs))) := rfl
@[simp] theorem r_pairsM_nil : pairsM [] e s = .ok [] e s := rfl
@[simp] theorem r_pairsM_cons {a b : M D} {l : List (M D × M D)} : pairsM ((a, b) :: l) e s = (a e s).andThen fun kd => bnd b fun vd => bnd (pairsM l) fun ps => match keyOf kd with
  | some kk => rt ((kk, vd) :: ps)
  | none => fail := rfl
@[simp] theorem r_keyOf_str {i : Str} : keyOf (.str i) = some (.inr i) := rfl
@[simp] theorem r_extM {a : M D} {b : M Bv} : extM a b e s = (a e s).andThen fun o => bnd (needL o) fun _ => bnd b fun x => bnd (rd x) fun d => bnd (lstOf d) fun ds => bnd (updM o (extC ds)) fun _ => rt .non := rfl
@[simp] theorem r_lstOf {ds : List D} : lstOf (.lst ds) = rt ds := rfl
@[simp] theorem r_extC {ds es : List D} : extC ds (.lst es) = if szOk (es.length + ds.length) = true then some (.lst (es ++ ds)) else none := rfl
theorem szOk_of {n : Nat} (h : n ≤ 16777216) : szOk n = true := Nat.ble_eq_true_of_le h
theorem sortSet_lst {ns : List Int} (h : ns.length < 64) : sortSetD (.lst (ns.map D.int)) = some (.lst ((ascS ns).map D.int)) := by
  show ((intsOf (ns.map D.int)).bind _) = _
  rw [intsOf_ints]
  show (if decide (ns.length < 64) = true then _ else _) = _
  rw [if_pos (decide_eq_true h)]
theorem sortSet_tup {ns : List Int} (h : ns.length < 64) : sortSetD (.tup (ns.map D.int)) = some (.lst ((ascS ns).map D.int)) := sortSet_lst h
theorem lenSet_lst {ns : List Int} (h : ns.length ≤ 1000) : lenSetA (.lst (ns.map D.int)) = some (.int (ddup ns).length) := by
  show ((intsOf (ns.map D.int)).bind _) = _
  rw [intsOf_ints]
  show (if decide (ns.length ≤ 1000) = true then _ else _) = _
  rw [if_pos (decide_eq_true h)]
theorem lenSet_tup {ns : List Int} (h : ns.length ≤ 1000) : lenSetA (.tup (ns.map D.int)) = some (.int (ddup ns).length) := lenSet_lst h
@[simp] theorem r_isoB_obj {cn c : Str} {ok : Str → Bool} {fs : List (Str × D)} : isoB cn ok (.obj c fs) = if ok c = true then some (.bl (decide (c = cn))) else none := rfl
/-! ### comprehensions -/
/-- the slots behind a target -/
def bindE (f : D → M Unit) (d : D) (e : PEnv) (s : Store) : PEnv := match f d e s with
  | .ok _ e' _ => e'
  | _ => e
section
variable {f : D → M Unit} {cond : M Bool} {vs : List Nat} {sr : Src} {e0 : PEnv} {elt : M D}
/-- [elt for .. in xs if cond], nothing changes -/
theorem comp_if {g : α → D} (b : α → Bool) (y : α → D) (xs : List α) (hi : sr.items s = some (xs.map g)) (hs : xs.length ≤ 16777216)
    (h : ∀ x ∈ xs, f (g x) (wipeE e0 vs) s = .ok () (bindE f (g x) (wipeE e0 vs) s) s ∧ wipeE (bindE f (g x) (wipeE e0 vs) s) vs = wipeE e0 vs ∧
      cond (bindE f (g x) (wipeE e0 vs) s) s = .ok (b x) (bindE f (g x) (wipeE e0 vs) s) s ∧ (b x = true → elt (bindE f (g x) (wipeE e0 vs) s) s = .ok (y x) (bindE f (g x) (wipeE e0 vs) s) s)) :
    runComp sr f cond (stepL elt) vs (.lst []) e0 s = .ok (.lst ((xs.filter b).map y)) (unE e0 (wipeE e0 vs) vs) s :=
  runComp_map (fe := fun x => bindE f (g x) (wipeE e0 vs) s) xs hi rfl (fun x hx => ⟨(h x hx).1, (h x hx).2.2.1, (h x hx).2.2.2, (h x hx).2.1⟩) hs
theorem comp_all {g : α → D} (y : α → D) (xs : List α) (hi : sr.items s = some (xs.map g)) (hs : xs.length ≤ 16777216)
    (h : ∀ x ∈ xs, f (g x) (wipeE e0 vs) s = .ok () (bindE f (g x) (wipeE e0 vs) s) s ∧ wipeE (bindE f (g x) (wipeE e0 vs) s) vs = wipeE e0 vs ∧
      elt (bindE f (g x) (wipeE e0 vs) s) s = .ok (y x) (bindE f (g x) (wipeE e0 vs) s) s) :
    runComp sr f (rt true) (stepL elt) vs (.lst []) e0 s = .ok (.lst (xs.map y)) (unE e0 (wipeE e0 vs) vs) s :=
  runComp_all (fe := fun x => bindE f (g x) (wipeE e0 vs) s) xs hi rfl (fun x hx => ⟨(h x hx).1, (h x hx).2.2, (h x hx).2.1⟩) hs
/-- .. where the cells may change: I of what was walked, what was made, the cells -/
theorem compGo_inv {g : α → D} (I : List α → List D → Store → Prop) (xs : List α) {e : PEnv} (hi : ∀ s, sr.items s = some (xs.map g)) (hs : xs.length ≤ 16777216)
    (h : ∀ (done : List α) (x : α) (rest : List α) (ys : List D) (s : Store), xs = done ++ x :: rest → I done ys s → f (g x) e s = .ok () (bindE f (g x) e s) s ∧ wipeE (bindE f (g x) e s) vs = e ∧
      ∃ (b : Bool) (s1 : Store), cond (bindE f (g x) e s) s = .ok b (bindE f (g x) e s) s1 ∧ (b = false → I (done ++ [x]) ys s1) ∧ (b = true → ∃ y s2, elt (bindE f (g x) e s) s1 = .ok y (bindE f (g x) e s) s2 ∧ I (done ++ [x]) (ys ++ [y]) s2)) :
    ∀ (n : Nat) (done rest : List α) (ys : List D) (s : Store), xs = done ++ rest → n = rest.length → ys.length ≤ done.length → I done ys s → ∃ ys' s', compGo f cond (stepL elt) vs sr n done.length (.lst ys) e s = .ok (.lst ys') e s' ∧ I xs ys' s' ∧ ys'.length ≤ xs.length
  | 0, done, rest, ys, s, hx, hn, hy, hI => by
    have : rest = [] := List.length_eq_zero_iff.mp hn.symm
    subst this
    rw [List.append_nil] at hx
    subst hx
    refine ⟨ys, s, ?_, hI, hy⟩
    unfold compGo
    rw [hi]
    dsimp only
    rw [List.getElem?_eq_none (by simp)]
  | n + 1, done, [], ys, s, hx, hn, hy, hI => by cases hn
  | n + 1, done, x :: rest, ys, s, hx, hn, hy, hI => by
    have hlt : (xs.map g)[done.length]? = some (g x) := by rw [hx]; simp
    have hxl : done.length < xs.length := by rw [hx]; simp
    obtain ⟨h1, h2, b, s1, h3, h4, h5⟩ := h done x rest ys s hx hI
    have hx' : xs = (done ++ [x]) ++ rest := by rw [hx]; simp
    have hn' : n = rest.length := by simpa using hn
    unfold compGo
    rw [hi]
    dsimp only
    rw [hlt]
    dsimp only
    rw [h1]
    dsimp only
    unfold compTail
    rw [h3]
    cases b with
    | false =>
      dsimp only
      rw [h2]
      have ih := compGo_inv I xs hi hs h n (done ++ [x]) rest ys s1 hx' hn' (by simp; omega) (h4 rfl)
      rw [List.length_append, List.length_singleton] at ih
      exact ih
    | true =>
      dsimp only
      obtain ⟨y, s2, h6, h7⟩ := h5 rfl
      have hst : stepL elt (.lst ys) (bindE f (g x) e s) s1 = .ok (.lst (ys ++ [y])) (bindE f (g x) e s) s2 := by
        rw [r_stepL, h6, andThen_ok, r_chk, szOk_of (by omega)]; rfl
      rw [hst]
      dsimp only
      rw [h2]
      have ih := compGo_inv I xs hi hs h n (done ++ [x]) rest (ys ++ [y]) s2 hx' hn' (by simp; omega) h7
      rw [List.length_append, List.length_singleton] at ih
      exact ih
theorem comp_inv {g : α → D} (I : List α → List D → Store → Prop) (xs : List α) (hi : ∀ s, sr.items s = some (xs.map g)) (hs : xs.length ≤ 16777216) (h0 : I [] [] s)
    (h : ∀ (done : List α) (x : α) (rest : List α) (ys : List D) (s : Store), xs = done ++ x :: rest → I done ys s → f (g x) (wipeE e0 vs) s = .ok () (bindE f (g x) (wipeE e0 vs) s) s ∧ wipeE (bindE f (g x) (wipeE e0 vs) s) vs = wipeE e0 vs ∧
      ∃ (b : Bool) (s1 : Store), cond (bindE f (g x) (wipeE e0 vs) s) s = .ok b (bindE f (g x) (wipeE e0 vs) s) s1 ∧ (b = false → I (done ++ [x]) ys s1) ∧
        (b = true → ∃ y s2, elt (bindE f (g x) (wipeE e0 vs) s) s1 = .ok y (bindE f (g x) (wipeE e0 vs) s) s2 ∧ I (done ++ [x]) (ys ++ [y]) s2)) :
    ∃ ys s', runComp sr f cond (stepL elt) vs (.lst []) e0 s = .ok (.lst ys) (unE e0 (wipeE e0 vs) vs) s' ∧ I xs ys s' := by
  obtain ⟨ys, s', h1, h2, _⟩ := compGo_inv (g := g) (e := wipeE e0 vs) (f := f) (cond := cond) (elt := elt) (vs := vs) (sr := sr) I xs hi hs h xs.length [] xs [] s rfl rfl (Nat.le_refl _) h0
  refine ⟨ys, s', ?_, h2⟩
  unfold runComp
  rw [hi]
  dsimp only
  rw [List.length_map]
  have h1' : compGo f cond (stepL elt) vs sr xs.length 0 (.lst []) (wipeE e0 vs) s = .ok (.lst ys) (wipeE e0 vs) s' := h1
  rw [h1']
end
/-! ### loops -/
section
variable {f : D → M Unit} {body : SM}
/-- a loop that runs through; I of what was walked, the slots, the cells -/
theorem for_inv {g : α → D} (I : List α → PEnv → Store → Prop) (xs : List α) {e : PEnv} {s : Store} (h0 : I [] e s)
    (h : ∀ (done : List α) (x : α) (rest : List α) (e : PEnv) (s : Store), xs = done ++ x :: rest → I done e s → ∃ e' s', ((((f (g x) e s).toS fun _ => body) = .nx e' s') ∨ (((f (g x) e s).toS fun _ => body) = .ct e' s')) ∧ I (done ++ [x]) e' s') :
    ∃ e' s', forL f body (xs.map g) e s = .nx e' s' ∧ I xs e' s' := by
  have key : ∀ (rest done : List α) (e : PEnv) (s : Store), xs = done ++ rest → I done e s → ∃ e' s', forL f body (rest.map g) e s = .nx e' s' ∧ I xs e' s' := by
    intro rest
    induction rest with
    | nil =>
      intro done e s hx hI
      rw [List.append_nil] at hx
      subst hx
      exact ⟨e, s, rfl, hI⟩
    | cons x rest ih =>
      intro done e s hx hI
      obtain ⟨e1, s1, h1, h2⟩ := h done x rest e s hx hI
      obtain ⟨e2, s2, h3, h4⟩ := ih (done ++ [x]) e1 s1 (by rw [hx]; simp) h2
      refine ⟨e2, s2, ?_, h4⟩
      rw [List.map_cons, r_forL_cons]
      rcases h1 with h1 | h1
      · rw [h1, turn_nx, h3]
      · rw [h1, turn_ct, h3]
  exact key xs [] e s rfl h0
/-- a loop that may return from within -/
theorem for_ret {g : α → D} (I : List α → PEnv → Store → Prop) (R : D → Store → Prop) (xs : List α) {e : PEnv} {s : Store} (h0 : I [] e s)
    (h : ∀ (done : List α) (x : α) (rest : List α) (e : PEnv) (s : Store), xs = done ++ x :: rest → I done e s → (∃ e' s', ((((f (g x) e s).toS fun _ => body) = .nx e' s') ∨ (((f (g x) e s).toS fun _ => body) = .ct e' s')) ∧ I (done ++ [x]) e' s') ∨
      ∃ d e' s', ((f (g x) e s).toS fun _ => body) = .ret d e' s' ∧ R d s') :
    (∃ e' s', forL f body (xs.map g) e s = .nx e' s' ∧ I xs e' s') ∨ ∃ d e' s', forL f body (xs.map g) e s = .ret d e' s' ∧ R d s' := by
  have key : ∀ (rest done : List α) (e : PEnv) (s : Store), xs = done ++ rest → I done e s → (∃ e' s', forL f body (rest.map g) e s = .nx e' s' ∧ I xs e' s') ∨ ∃ d e' s', forL f body (rest.map g) e s = .ret d e' s' ∧ R d s' := by
    intro rest
    induction rest with
    | nil =>
      intro done e s hx hI
      rw [List.append_nil] at hx
      subst hx
      exact .inl ⟨e, s, rfl, hI⟩
    | cons x rest ih =>
      intro done e s hx hI
      rcases h done x rest e s hx hI with ⟨e1, s1, h1, h2⟩ | ⟨d, e1, s1, h1, h2⟩
      · rcases ih (done ++ [x]) e1 s1 (by rw [hx]; simp) h2 with ⟨e2, s2, h3, h4⟩ | ⟨d, e2, s2, h3, h4⟩
        · refine .inl ⟨e2, s2, ?_, h4⟩
          rw [List.map_cons, r_forL_cons]
          rcases h1 with h1 | h1
          · rw [h1, turn_nx, h3]
          · rw [h1, turn_ct, h3]
        · refine .inr ⟨d, e2, s2, ?_, h4⟩
          rw [List.map_cons, r_forL_cons]
          rcases h1 with h1 | h1
          · rw [h1, turn_nx, h3]
          · rw [h1, turn_ct, h3]
      · refine .inr ⟨d, e1, s1, ?_, h2⟩
        rw [List.map_cons, r_forL_cons, h1, turn_ret]
  exact key xs [] e s rfl h0
end
end
end QB

/-! Part 42: plain lemmas that many laws want: the box of draws, stores that grow, enumerations, equal data. -/
namespace QB
open PySem PySem.Spec PyProof.Rows L2
/-! ### the box -/
structure Bx where
  b0 : Int
  b1 : Bool
  b2 : Int
  b3 : Int
def boxC (x : Bx) : Cell := .lst [.int x.b0, .bl x.b1, .int x.b2, .int x.b3]
structure BxOk (N : Int) (x : Bx) : Prop where
  l2 : 0 ≤ x.b2
  u2 : x.b2 < 2147483629
  l3 : 0 ≤ x.b3
  u3 : x.b3 ≤ N
theorem BxOk.mono {N M : Int} {x : Bx} (h : BxOk N x) (hm : N ≤ M) : BxOk M x := ⟨h.l2, h.u2, h.l3, by have := h.u3; omega⟩
@[simp] theorem ix40 : ixN 4 0 = some 0 := rfl
@[simp] theorem ix43 : ixN 4 3 = some 3 := rfl
def box0 (g : Int) : Bx := ⟨if g < 0 then -g else g, decide (1000000000000000000 ≤ if g < 0 then -g else g), (if g < 0 then -g else g) % 2147483629, 0⟩
theorem box0_ok {g : Int} : BxOk 0 (box0 g) := ⟨Int.emod_nonneg _ (by decide), Int.emod_lt_of_pos _ (by decide), Int.le_refl _, Int.le_refl _⟩
/-- the cell b of a store is a box that was asked at most N times -/
def BOk (b : Nat) (N : Int) (s : Store) : Prop := ∃ x, s[b]? = some (boxC x) ∧ BxOk N x
theorem BOk.lt {b : Nat} {N : Int} {s : Store} (h : BOk b N s) : b < s.length := by
  obtain ⟨x, e, _⟩ := h
  exact (List.getElem?_eq_some_iff.mp e).1
theorem BOk.mono {b : Nat} {N M : Int} {s : Store} (h : BOk b N s) (hm : N ≤ M) : BOk b M s := by
  obtain ⟨x, e, q⟩ := h; exact ⟨x, e, q.mono hm⟩
theorem BOk.push {b : Nat} {N : Int} {s t : Store} (h : BOk b N s) : BOk b N (s ++ t) := by
  have := h.lt
  obtain ⟨x, e, q⟩ := h
  exact ⟨x, by rw [List.getElem?_append_left this]; exact e, q⟩
theorem BOk.put {b k : Nat} {N : Int} {s : Store} {c : Cell} (h : BOk b N s) (hk : k ≠ b) : BOk b N (s.set k c) := by
  obtain ⟨x, e, q⟩ := h
  exact ⟨x, by rw [List.getElem?_set_ne hk]; exact e, q⟩
/-- all cells but b are as they were, new ones may have come -/
structure Kp (b : Nat) (s s' : Store) : Prop where
  len : s.length ≤ s'.length
  get : ∀ k, k < s.length → k ≠ b → s'[k]? = s[k]?
theorem Kp.refl {b : Nat} (s : Store) : Kp b s s := ⟨Nat.le_refl _, fun _ _ _ => rfl⟩
theorem Kp.trans {b : Nat} {s s1 s2 : Store} (h : Kp b s s1) (h2 : Kp b s1 s2) : Kp b s s2 :=
  ⟨Nat.le_trans h.len h2.len, fun k hk hb => (h2.get k (Nat.lt_of_lt_of_le hk h.len) hb).trans (h.get k hk hb)⟩
theorem Kp.push {b : Nat} {s s1 t : Store} (h : Kp b s s1) : Kp b s (s1 ++ t) :=
  ⟨by rw [List.length_append]; exact Nat.le_trans h.len (Nat.le_add_right _ _), fun k hk hb => by rw [List.getElem?_append_left (Nat.lt_of_lt_of_le hk h.len)]; exact h.get k hk hb⟩
theorem Kp.put {b k : Nat} {s s1 : Store} {c : Cell} (h : Kp b s s1) (hk : s.length ≤ k) : Kp b s (s1.set k c) :=
  ⟨by rw [List.length_set]; exact h.len, fun j hj hb => by rw [List.getElem?_set_ne (by omega)]; exact h.get j hj hb⟩
theorem Kp.putb {b : Nat} {s s1 : Store} {c : Cell} (h : Kp b s s1) : Kp b s (s1.set b c) :=
  ⟨by rw [List.length_set]; exact h.len, fun j hj hb => by rw [List.getElem?_set_ne (fun e => hb e.symm)]; exact h.get j hj hb⟩
theorem Kp.at_ {b k : Nat} {s s1 : Store} {c : Cell} (h : Kp b s s1) (e : s[k]? = some c) (hb : k ≠ b) : s1[k]? = some c := by
  rw [h.get k (List.getElem?_eq_some_iff.mp e).1 hb]; exact e
theorem get_push {s : Store} {c : Cell} {t : Store} : (s ++ c :: t)[s.length]? = some c := by simp
theorem put_self {s : Store} {k : Nat} {c : Cell} (h : k < s.length) : (s.set k c)[k]? = some c := List.getElem?_set_self h
/-! ### equal data -/
theorem eqD_self {d : D} (h : okD d = true) : eqD d d = some (.bl true) := by
  unfold eqD
  rw [h]
  show some (D.bl (PyData.eqv (toP d) (toP d))) = _
  rw [PySem.SeqAt.eqv_refl _ (okN_lay 60 d h).1]
theorem neD_self {d : D} (h : okD d = true) : neD d d = some (.bl false) := by
  unfold neD
  rw [h]
  show some (D.bl (!PyData.eqv (toP d) (toP d))) = _
  rw [PySem.SeqAt.eqv_refl _ (okN_lay 60 d h).1]; rfl
theorem okNs_map {α : Type} {n : Nat} {f : α → D} : ∀ {l : List α}, (∀ x ∈ l, okN n (f x) = true) → okNs n (l.map f) = true
  | [], _ => by simp [okNs]
  | x :: l, h => by
    rw [List.map_cons]
    simp only [okNs]
    rw [h x List.mem_cons_self, okNs_map fun y hy => h y (List.mem_cons_of_mem _ hy)]; rfl
/-! ### places -/
/-- the items with their places -/
def placed {α : Type} (l : List α) : List (Int × α) := (rangeI l.length).zip l
theorem rangeI_succ {n : Nat} : rangeI ((n + 1 : Nat) : Int) = 0 :: (rangeI n).map (· + 1) := by
  unfold rangeI
  rw [Int.toNat_natCast, Int.toNat_natCast, List.range_succ_eq_map, List.map_cons, List.map_map, List.map_map]
  rfl
theorem enumL_map {α : Type} {f : α → D} : ∀ (l : List α) (j : Nat), enumL j (l.map f) = ((rangeI l.length).zip l).map fun p => .tup [.int (p.1 + j), f p.2]
  | [], _ => by simp [enumL]
  | x :: l, j => by
    rw [List.map_cons]
    show D.tup [.int (j : Nat), f x] :: enumL (j + 1) (l.map f) = _
    rw [enumL_map l (j + 1), List.length_cons, rangeI_succ, List.zip_cons_cons, List.map_cons, List.zip_map_left, List.map_map]
    congr 1
    · simp
    · refine List.map_congr_left fun p _ => ?_
      show D.tup [.int (p.1 + ((j + 1 : Nat) : Int)), f p.2] = D.tup [.int (p.1 + 1 + (j : Nat)), f p.2]
      congr 3; push_cast; omega
theorem enumL_placed {α : Type} {f : α → D} (l : List α) : enumL 0 (l.map f) = (placed l).map fun p => .tup [.int p.1, f p.2] := by
  rw [enumL_map]
  unfold placed
  refine List.map_congr_left fun p _ => ?_
  congr 3; simp
theorem placed_mem {α : Type} {l : List α} {p : Int × α} (h : p ∈ placed l) : 0 ≤ p.1 ∧ p.1 < l.length ∧ l[p.1.toNat]? = some p.2 := by
  unfold placed at h
  obtain ⟨i, hi, e⟩ := List.getElem_of_mem h
  rw [List.length_zip, rangeI_length] at hi
  have hil : i < l.length := by omega
  rw [List.getElem_zip] at e
  have e1 : (rangeI l.length)[i]'(by rw [rangeI_length]; omega) = (i : Int) := by unfold rangeI; simp
  rw [e1] at e
  subst e
  exact ⟨by simp, by simp; omega, by simp [hil]⟩
theorem placed_fst {α : Type} (l : List α) : (placed l).map (·.1) = rangeI l.length := by
  unfold placed
  rw [List.map_fst_zip]
  rw [rangeI_length]; omega
theorem placed_len {α : Type} (l : List α) : (placed l).length = l.length := by
  have := congrArg List.length (placed_fst l)
  rw [List.length_map, rangeI_length] at this
  omega
/-- who is chosen by what stands at the place -/
theorem placed_filter {α : Type} (l : List α) (P : α → Bool) (Q : Int → Bool) (h : ∀ (k : Nat) x, l[k]? = some x → P x = Q (k : Int)) : ((placed l).filter fun p => P p.2).map Prod.fst = (rangeI l.length).filter Q := by
  rw [← placed_fst, List.filter_map]
  show _ = List.map Prod.fst _
  congr 1
  refine List.filter_congr fun p hp => ?_
  obtain ⟨h0, h1, e⟩ := placed_mem hp
  have := h _ _ e
  rw [Int.toNat_of_nonneg h0] at this
  exact this
theorem filter_int {α : Type} {g : α → Int} {l : List α} {b : α → Bool} : ((l.filter b).map fun x => D.int (g x)) = ((l.filter b).map g).map D.int := by rw [List.map_map]; rfl
theorem atI_map {α : Type} {f : α → D} {l : List α} {k : Int} (h0 : 0 ≤ k) (h1 : k < l.length) (d : α) : atI (l.map f) k = some (f (l.getD k.toNat d)) := by
  obtain ⟨n, rfl⟩ : ∃ n : Nat, k = n := ⟨k.toNat, (Int.toNat_of_nonneg h0).symm⟩
  have hk : n < l.length := by omega
  rw [atI_nat (by rw [List.length_map]; exact hk), List.getElem?_map, Int.toNat_natCast, List.getElem?_eq_getElem hk, List.getD_eq_getElem?_getD, List.getElem?_eq_getElem hk]
  rfl
theorem atI_neg1 {α : Type} {l : List α} (d : α) (h : l ≠ []) : atI l (-1) = some (l.getLastD d) := by
  obtain ⟨xs, a, rfl⟩ : ∃ xs a, l = xs ++ [a] := ⟨l.dropLast, l.getLast h, (List.dropLast_concat_getLast h).symm⟩
  rw [atI_last]
  simp
theorem range_map {n : Int} {g : Int → D} : ((List.range n.toNat).map fun i : Nat => g (i : Int)) = (rangeI n).map g := by unfold rangeI; rw [List.map_map]; rfl
theorem rangeI_cast {n : Nat} : (rangeI (n : Int)).length = n := by rw [rangeI_length]; omega
end QB

/-! The pure layer, part 46: running index, count, list(range(a, b)), unpacked lists by simp. -/
namespace QB
open PySem PySem.Spec PyProof.Rows L2
section
variable {e : PEnv} {s : Store} {n : Nat} {g : List D → M Unit} {ds l : List D} {f : SeqF} {a b : M Bv}
@[simp] theorem r_tupA_tup : tupA n g (.tup ds) e s = if ds.length = n then g ds e s else .bad := by
  show (if ds.length = n then g ds else fail) e s = _
  split <;> rfl
@[simp] theorem r_tupA_lst : tupA n g (.lst ds) e s = if ds.length = n then g ds e s else .bad := by
  show (if ds.length = n then g ds else fail) e s = _
  split <;> rfl
@[simp] theorem r_sqM : sqM f a b e s = (a e s).andThen fun x => bnd (rd x) fun d => bnd (chk (isLs d) (rt ())) fun _ => bnd b fun y => bnd (rd x) fun dx => bnd (rd y) fun dy => opt (sqF f dx dy) := rfl
@[simp] theorem r_isLs : isLs (.lst l) = true := rfl
@[simp] theorem r_lrgM : lrgM a b e s = (a e s).andThen fun x => bnd b fun y => bnd (rd x) fun dx => bnd (rd y) fun dy => bnd (opt (rangeD dx dy)) fun r => rt (.lst (rgL r.1 r.2)) := rfl
theorem rgOk_of {a b : Int} (h1 : -1000000 ≤ a) (h2 : a ≤ 1000000) (h3 : -1000000 ≤ b) (h4 : b ≤ 1000000) : rgOk a b = true := by
  unfold rgOk
  simp only [Bool.and_eq_true, decide_eq_true_eq]
  omega
theorem toPs_bls (d : PyData) : ∀ bs : List Bool, (toPs (bs.map D.bl)).map (fun z => PyData.eqv z d) = bs.map fun b => PyData.eqv (.bool b) d
  | [] => rfl
  | b :: bs => by
    show PyData.eqv (toP (.bl b)) d :: (toPs (bs.map D.bl)).map (fun z => PyData.eqv z d) = _
    rw [toPs_bls d bs]; rfl
end
end QB

namespace K58
open PySem QB L2
theorem take_ok {s : Store} {b : Nat} {x : Bx} {many N : Int} (hb : s[b]? = some (boxC x)) (hx : BxOk N x) (hN : N ≤ 1000000) (h1 : 0 < many) (h2 : many < 1000) :
    ∃ r x', 0 ≤ r ∧ r < many ∧ BxOk (N + 1) x' ∧ p__law_take [.ref b, .int many] s = .ok (.int r) (s.set b (boxC x')) := by
  have hlt : b < s.length := (List.getElem?_eq_some_iff.mp hb).1
  have l2 := hx.l2; have u2 := hx.u2; have l3 := hx.l3; have u3 := hx.u3
  have hs1 : ∀ c : Cell, (s.set b c)[b]? = some c := fun c => List.getElem?_set_self hlt
  unfold boxC at hb
  by_cases hc : x.b1 = true ∧ 0 < x.b0
  · refine ⟨x.b0 % many, { x with b0 := x.b0 / many }, Int.emod_nonneg _ (by omega), Int.emod_lt_of_pos _ h1, ⟨l2, u2, l3, by dsimp only; omega⟩, ?_⟩
    have h2' : many < 18446744073709551616 := by omega
    simp [p__law_take, b__law_take, startE, hb, hc.1, hc.2, h1, h2', hs1, boxC]
  · have hq : (x.b2 + 15487371 * (x.b3 + 1) + 179424673) < 18446744073709551616 := by omega
    have hq2 : -18446744073709551616 < (x.b2 + 15487371 * (x.b3 + 1) + 179424673) := by omega
    generalize hm : ((x.b2 + 15487371 * (x.b3 + 1) + 179424673) ^ 5) % 2147483647 = m
    have hm0 : 0 ≤ m := by rw [← hm]; exact Int.emod_nonneg _ (by decide)
    have hm1 : m < 2147483647 := by rw [← hm]; exact Int.emod_lt_of_pos _ (by decide)
    have hp : m * 48271 + 104729 * (x.b3 + 1) < 18446744073709551616 := by omega
    have hp2 : -18446744073709551616 < m * 48271 + 104729 * (x.b3 + 1) := by omega
    refine ⟨((m * 48271 + 104729 * (x.b3 + 1)) ^ 3 % 2147483587 / 64) % many, { x with b3 := x.b3 + 1 }, Int.emod_nonneg _ (by omega), Int.emod_lt_of_pos _ h1, ⟨l2, u2, by dsimp only; omega, by dsimp only; omega⟩, ?_⟩
    have hc' : x.b1 = true → ¬ 0 < x.b0 := fun a b => hc ⟨a, b⟩
    cases hb1 : x.b1 with
    | false =>
      simp [p__law_take, b__law_take, startE, hb, hb1, h1, hs1, boxC, hq, hq2, hm, hp, hp2]
    | true =>
      have := hc' hb1
      simp [p__law_take, b__law_take, startE, hb, hb1, this, h1, hs1, boxC, hq, hq2, hm, hp, hp2]
/-- a draw -/
theorem takeP {s : Store} {b : Nat} {N many : Int} (hb : BOk b N s) (hN : N ≤ 1000000) (h1 : 0 < many) (h2 : many < 1000) :
    ∃ r s', 0 ≤ r ∧ r < many ∧ p__law_take [.ref b, .int many] s = .ok (.int r) s' ∧ BOk b (N + 1) s' ∧ Kp b s s' ∧ s'.length = s.length := by
  have hlt := hb.lt
  obtain ⟨x, e, hx⟩ := hb
  obtain ⟨r, x', a1, a2, a3, a4⟩ := take_ok e hx hN h1 h2
  exact ⟨r, _, a1, a2, a4, ⟨x', put_self hlt, a3⟩, (Kp.refl s).putb, by rw [List.length_set]⟩
theorem cell_ok {ns : List Int} {k : Int} {s : Store} (h0 : 0 ≤ k) : ∃ v, p__law_cell [.wls (ns.map D.int), .int k] s = .ok (.int v) s := by
  have hcut : cutL (ns.map D.int) none (some 1) = (ns.take 1).map D.int := by rw [cut_to (by omega), List.map_take]; rfl
  by_cases h : k < ns.length
  · refine ⟨ns.getD k.toNat 0, ?_⟩
    have := atI_map (f := D.int) (l := ns) h0 h 0
    simp [p__law_cell, b__law_cell, startE, h, this]
  · refine ⟨7979 * k + (ns.take 1).sum % 1000033, ?_⟩
    generalize ns.take 1 = t at hcut
    simp [p__law_cell, b__law_cell, startE, h, hcut]
theorem box_ok {g : Int} {s : Store} : p__law_box [.int g] s = .ok (.ref s.length) (s ++ [boxC (box0 g)]) := by
  simp [p__law_box, b__law_box, startE, boxC, box0]
theorem box_BOk {g : Int} {s : Store} : BOk s.length 0 (s ++ [boxC (box0 g)]) := ⟨box0 g, get_push, box0_ok⟩
end K58

namespace K58
open PySem QB L2
def soD : Option Int → D
  | none => .non
  | some t => .int t
def stD (st : List (Option Int)) : D := .tup (st.map soD)
def setD (s : List Int) : D := .tup (s.map D.int)
def rowD (r : List (List Int)) : D := .tup (r.map setD)
def rowsD (rs : List (List (List Int))) : D := .tup (rs.map rowD)
def wD (st : List (Option Int)) (rs : List (List (List Int))) : D := .obj "Watch" [("stops", stD st), ("rows", rowsD rs)]
structure VS (st : List (Option Int)) : Prop where
  n2 : 2 ≤ st.length
  n4 : st.length ≤ 4
  tm : ∀ t, some t ∈ st → 0 ≤ t ∧ t ≤ 8
  ex : none ∈ st
structure VR (st : List (Option Int)) (rs : List (List (List Int))) : Prop where
  l1 : 1 ≤ rs.length
  l9 : rs.length ≤ 9
  row : ∀ r ∈ rs, r.length = st.length ∧ ∀ s ∈ r, s.Pairwise (· < ·) ∧ ∀ b ∈ s, 0 ≤ b ∧ b < st.length
  last : ∀ t, some t ∈ st → t < rs.length
@[simp] theorem rd_stD {st : List (Option Int)} {e : PEnv} {s : Store} : rd (.v (stD st)) e s = .ok (stD st) e s := rfl
@[simp] theorem rd_setD {st : List Int} {e : PEnv} {s : Store} : rd (.v (setD st)) e s = .ok (setD st) e s := rfl
@[simp] theorem rd_rowD {st : List (List Int)} {e : PEnv} {s : Store} : rd (.v (rowD st)) e s = .ok (rowD st) e s := rfl
@[simp] theorem rd_rowsD {st : List (List (List Int))} {e : PEnv} {s : Store} : rd (.v (rowsD st)) e s = .ok (rowsD st) e s := rfl
@[simp] theorem rd_wD {st : List (Option Int)} {rs : List (List (List Int))} {e : PEnv} {s : Store} : rd (.v (wD st rs)) e s = .ok (wD st rs) e s := rfl
@[simp] theorem rd_soD {o : Option Int} {e : PEnv} {s : Store} : rd (.v (soD o)) e s = .ok (soD o) e s := by cases o <;> rfl
@[simp] theorem att_stops {st : List (Option Int)} {rs : List (List (List Int))} : attrD cls_stops "stops" (wD st rs) = some (stD st) := rfl
@[simp] theorem att_rows {st : List (Option Int)} {rs : List (List (List Int))} : attrD cls_rows "rows" (wD st rs) = some (rowsD rs) := rfl
@[simp] theorem non_soD {o : Option Int} : QB.isNon (soD o) = o.isNone := by cases o <;> rfl
section
variable {s : Store}
theorem is_integer_ok {v : Int} : p_is_integer [.int v] s = .ok (.bl true) s := by
  simp [p_is_integer, b_is_integer, startE, isTy]
theorem is_between_ok {v a b : Int} : p_is_between [.int v, .int a, .int b] s = .ok (.bl (decide (a ≤ v ∧ v ≤ b))) s := by
  simp [p_is_between, b_is_between, startE, is_integer_ok]
  by_cases h : a ≤ v <;> simp [h]
theorem is_tuple_of_ok {l : List D} {n : Int} : p_is_tuple_of [.tup l, .int n] s = .ok (.bl (decide ((l.length : Int) = n))) s := by
  simp [p_is_tuple_of, b_is_tuple_of, startE, isTy]
theorem is_row_ok {ns : List Int} {a b : Int} (h : ∀ x ∈ ns, a ≤ x ∧ x ≤ b) (hl : ns.length ≤ 1000) : p_is_row [setD ns, .int ns.length, .int a, .int b] s = .ok (.bl true) s := by
  simp [p_is_row, b_is_row, startE, setD, is_tuple_of_ok]
  rw [comp_all (g := D.int) (fun x => .bl true) ns rfl (by omega)]
  · simp [all_map]
  · intro x hx
    simp [bindE, is_between_ok, h x hx]
theorem zip_ints : ∀ ns : List Int, zipL (ns.map D.int) (cutL (ns.map D.int) (some 1) none) = (ns.zip ns.tail).map fun p => .tup [.int p.1, .int p.2] := fun ns => by
  have e : cutL (ns.map D.int) (some 1) none = ns.tail.map D.int := by
    have := cut_from (ds := ns.map D.int) (k := 1)
    rw [show ((1 : Nat) : Int) = 1 from rfl] at this
    rw [this, List.map_tail, List.drop_one]
  rw [e]
  unfold zipL
  rw [List.zipWith_map, List.zip, List.map_zipWith]
theorem zip_adj {α : Type} {R : α → α → Prop} : ∀ {as : List α}, as.Pairwise R → ∀ p ∈ as.zip as.tail, R p.1 p.2
  | [], _, p, hp => by simp at hp
  | [a], _, p, hp => by simp at hp
  | a :: b :: as, h, p, hp => by
    have h1 := List.pairwise_cons.mp h
    simp only [List.tail_cons, List.zip_cons_cons, List.mem_cons] at hp
    rcases hp with e | hp
    · subst e; exact h1.1 b List.mem_cons_self
    · exact zip_adj h1.2 p hp
theorem is_rising_ok {ns : List Int} (h : ns.Pairwise (· < ·)) (hl : ns.length ≤ 1000) : p_is_rising [setD ns] s = .ok (.bl true) s := by
  have hz := zip_ints ns
  simp [p_is_rising, b_is_rising, startE, setD]
  generalize cutL (ns.map D.int) (some 1) none = c at hz
  rw [comp_all (g := fun p : Int × Int => .tup [.int p.1, .int p.2]) (fun p => .bl true) (ns.zip ns.tail) (by simp [hz]) (by simp; omega)]
  · simp [all_map]
  · intro p hp
    have := zip_adj h p hp
    simp [bindE, this]
theorem asc_len {ns : List Int} {n : Int} (h : ns.Pairwise (· < ·)) (hb : ∀ b ∈ ns, 0 ≤ b ∧ b < n) : ns.length ≤ n.toNat := by
  have hnd : ns.Nodup := h.imp fun {a b} q => by omega
  have := len_sub (l' := rangeI n) hnd fun x hx => rangeI_mem.mpr (hb x hx)
  rw [rangeI_length] at this; exact this
theorem is_set_ok {ns : List Int} {n : Int} (h : ns.Pairwise (· < ·)) (hb : ∀ b ∈ ns, 0 ≤ b ∧ b < n) (hn : n ≤ 100) : p_is_set [setD ns, .int n] s = .ok (.bl true) s := by
  have hl := asc_len h hb
  have h1 := is_row_ok (s := s) (ns := ns) (a := 0) (b := n - 1) (fun x hx => by have := hb x hx; omega) (by omega)
  have h2 := is_rising_ok (s := s) h (by omega)
  simp [p_is_set, b_is_set, startE, isTy]
  simp only [setD] at h1 h2 ⊢
  simp [h1, h2, isTy]
theorem are_stops_ok {st : List (Option Int)} (h : VS st) : p_are_stops [stD st] s = .ok (.bl true) s := by
  have h2 := h.n2; have h4 := h.n4
  have c1 : (2 : Int) ≤ st.length := by omega
  have c2 : (st.length : Int) ≤ 4 := by omega
  simp [p_are_stops, b_are_stops, startE, isTy, stD, c1, c2]
  rw [comp_all (g := soD) (fun x => .bl true) st rfl (by omega)]
  · simp [all_map]
    rw [comp_if (g := soD) (fun o => o.isNone) soD st rfl (by omega)]
    · have : 0 < (st.filter fun o => o.isNone).length := List.length_pos_of_mem (List.mem_filter.mpr ⟨h.ex, rfl⟩)
      simp
      exact h.ex
    · intro o ho
      simp [bindE]
  · intro o ho
    cases o with
    | none => simp [bindE, soD]
    | some t =>
      have := h.tm t ho
      simp [bindE, soD, is_between_ok, this]
theorem are_suspects_ok {r : List (List Int)} {n : Nat} (hn : n ≤ 100) (h : r.length = n) (hr : ∀ s ∈ r, s.Pairwise (· < ·) ∧ ∀ b ∈ s, 0 ≤ b ∧ b < n) : p_are_suspects [.int n, rowD r] s = .ok (.bl true) s := by
  subst h
  simp [p_are_suspects, b_are_suspects, startE, isTy, rowD]
  rw [comp_all (g := setD) (fun x => .bl true) r rfl (by omega)]
  · simp [all_map]
  · intro x hx
    simp [bindE, is_set_ok (s := s) (hr x hx).1 (hr x hx).2 (by omega)]
theorem are_rows_ok {st : List (Option Int)} {rs : List (List (List Int))} (hs : VS st) (h : VR st rs) : p_are_rows [stD st, rowsD rs] s = .ok (.bl true) s := by
  have h1 := h.l1; have h9 := h.l9; have h4 := hs.n4
  have c1 : (1 : Int) ≤ rs.length := by omega
  have c2 : (rs.length : Int) ≤ 9 := by omega
  simp [p_are_rows, b_are_rows, startE, isTy, stD, rowsD, c1, c2]
  rw [comp_all (g := rowD) (fun x => .bl true) rs rfl (by omega)]
  · simp [all_map]
    rw [comp_if (g := soD) (fun o => !o.isNone) soD st rfl (by omega)]
    · have e : ∃ ts : List Int, (st.filter fun o => !o.isNone).map soD = ts.map D.int ∧ ∀ t ∈ ts, some t ∈ st := by
        refine ⟨(st.filter fun o => !o.isNone).map fun o => o.getD 0, ?_, fun t ht => ?_⟩
        · rw [List.map_map]
          refine List.map_congr_left fun o ho => ?_
          cases o with
          | none => have := (List.mem_filter.mp ho).2; cases this
          | some t => rfl
        · obtain ⟨o, ho, e⟩ := List.mem_map.mp ht
          obtain ⟨h1, h2⟩ := List.mem_filter.mp ho
          cases o with
          | none => cases h2
          | some t' => have e : t' = t := e; rw [← e]; exact h1
      obtain ⟨ts, e1, e2⟩ := e
      have el : ts.length ≤ 4 := by
        have := congrArg List.length e1
        rw [List.length_map, List.length_map] at this
        have := List.length_filter_le (fun o : Option Int => !o.isNone) st
        omega
      have em : maxD (.lst (.int 0 :: ts.map D.int)) = some (.int (maxL (0 :: ts))) := r_max_ints (ns := 0 :: ts) (by simp)
      have ez : szOk (1 + ts.length) = true := szOk_of (by omega)
      have ea : addD (.lst [.int 0]) (.lst (ts.map D.int)) = some (.lst (.int 0 :: ts.map D.int)) := by
        show (if szOk (1 + (ts.map D.int).length) = true then _ else _) = _
        rw [List.length_map, if_pos ez]; rfl
      have hlt : maxL (0 :: ts) < rs.length := by
        obtain ⟨h3, _⟩ := maxL_mem (ns := 0 :: ts) (by simp)
        rcases List.mem_cons.mp h3 with q | q
        · rw [q]; omega
        · exact h.last _ (e2 _ q)
      rw [e1]
      simp [ea, em, hlt]
    · intro o ho
      simp [bindE]
  · intro r hr
    have := are_suspects_ok (s := s) (n := st.length) (r := r) (by omega) (h.row r hr).1 (h.row r hr).2
    simp [bindE, this]
theorem init_ok {st : List (Option Int)} {rs : List (List (List Int))} (hs : VS st) (h : VR st rs) : p_Watch___init__ [stD st, rowsD rs] s = .ok [("stops", stD st), ("rows", rowsD rs)] s := by
  simp [p_Watch___init__, b_Watch___init__, startI, startE, are_stops_ok hs, are_rows_ok hs h]
  rfl
theorem noRefL_map {α : Type} {f : α → D} : ∀ {l : List α}, (∀ x ∈ l, noRef (f x) = true) → noRefL (l.map f) = true
  | [], _ => rfl
  | x :: l, h => by
    show (noRef (f x) && noRefL (l.map f)) = true
    rw [h x List.mem_cons_self, noRefL_map fun y hy => h y (List.mem_cons_of_mem _ hy)]; rfl
theorem noRef_w {st : List (Option Int)} {rs : List (List (List Int))} : noRef (wD st rs) = true := by
  have h1 : noRef (stD st) = true := by
    show noRefL (st.map soD) = true
    exact noRefL_map fun o _ => by cases o <;> rfl
  have h2 : noRef (rowsD rs) = true := by
    show noRefL (rs.map rowD) = true
    refine noRefL_map fun r _ => ?_
    show noRefL (r.map setD) = true
    refine noRefL_map fun t _ => ?_
    show noRefL (t.map D.int) = true
    exact noRefL_map fun i _ => rfl
  show (noRef (stD st) && (noRef (rowsD rs) && true)) = true
  rw [h1, h2]; rfl
end
end K58

namespace K58
open PySem QB L2
def stopAt (st : List (Option Int)) (m : Int) : Option Int := st.getD m.toNat none
def upO (o : Option Int) (t : Int) : Bool := match o with
  | none => true
  | some x => decide (t < x)
def upB (st : List (Option Int)) (m t : Int) : Bool := upO (stopAt st m) t
def ups (st : List (Option Int)) (t : Int) : List Int := (rangeI st.length).filter fun m => upB st m t
def lasts (st : List (Option Int)) : List Int := (rangeI st.length).filter fun m => (stopAt st m).isNone
def gones (st : List (Option Int)) : List Int := (rangeI st.length).filter fun m => !(stopAt st m).isNone
def rowAt (rs : List (List (List Int))) (t : Int) : List (List Int) := rs.getD t.toNat []
def susp (r : List (List Int)) (a : Int) : List Int := r.getD a.toNat []
def byL (r : List (List Int)) (m : Int) (some : List Int) : List Int := some.filter fun o => decide (m ∈ susp r o)
def endR (rs : List (List (List Int))) : List (List Int) := rs.getLastD []
theorem stopAt_get {st : List (Option Int)} {k : Nat} {o : Option Int} (h : st[k]? = some o) : stopAt st (k : Int) = o := by
  unfold stopAt
  rw [Int.toNat_natCast, List.getD_eq_getElem?_getD, h]; rfl
theorem placed_st (st : List (Option Int)) (P : Option Int → Bool) : ((placed st).filter fun p => P p.2).map Prod.fst = (rangeI st.length).filter fun m => P (stopAt st m) :=
  placed_filter st P _ fun k x h => by rw [stopAt_get h]
theorem enum_st (st : List (Option Int)) : enumL 0 (st.map soD) = (placed st).map fun p => .tup [.int p.1, soD p.2] := enumL_placed st
theorem enum_rs (rs : List (List (List Int))) : enumL 0 (rs.map rowD) = (placed rs).map fun p => .tup [.int p.1, rowD p.2] := enumL_placed rs
section
variable {s : Store} {st : List (Option Int)} {rs : List (List (List Int))}
theorem up_at_ok {t : Int} (h : VS st) : p_up_at [wD st rs, .int t] s = .ok (.lst ((ups st t).map D.int)) s := by
  have h4 := h.n4
  have he := enum_st st
  simp [p_up_at, b_up_at, startE, stD]
  rw [comp_if (g := fun p : Int × Option Int => .tup [.int p.1, soD p.2]) (fun p => upO p.2 t) (fun p => .int p.1) (placed st) (by simp [he]) (by rw [placed_len]; omega)]
  · have e : ((placed st).filter fun p => upO p.2 t).map (fun p => D.int p.1) = (ups st t).map D.int := by
      rw [filter_int, placed_st st fun o => upO o t]; rfl
    simp [e]
  · intro p hp
    cases hq : p.2 with
    | none => simp [bindE, hq, upO, soD]
    | some x => simp [bindE, hq, upO, soD]
theorem lasting_ok (h : VS st) : p_lasting [wD st rs] s = .ok (.lst ((lasts st).map D.int)) s := by
  have h4 := h.n4
  have he := enum_st st
  simp [p_lasting, b_lasting, startE, stD]
  rw [comp_if (g := fun p : Int × Option Int => .tup [.int p.1, soD p.2]) (fun p => p.2.isNone) (fun p => .int p.1) (placed st) (by simp [he]) (by rw [placed_len]; omega)]
  · have e : ((placed st).filter fun p => p.2.isNone).map (fun p => D.int p.1) = (lasts st).map D.int := by
      rw [filter_int, placed_st st fun o => o.isNone]; rfl
    simp [e]
  · intro p hp
    simp [bindE]
theorem susp_at {r : List (List Int)} {o : Int} (h0 : 0 ≤ o) (h1 : o < r.length) : atI (r.map setD) o = some (setD (susp r o)) := atI_map h0 h1 []
theorem in_set {neg : Bool} {h : Int} {ns : List Int} : inD neg (.int h) (setD ns) = some (.bl (neg != decide (h ∈ ns))) := in_intsT
theorem suspected_ok {r : List (List Int)} {m : Int} {os : List Int} (hl : os.length ≤ 1000) (h : ∀ o ∈ os, 0 ≤ o ∧ o < r.length) : p_suspected_by [rowD r, .int m, .lst (os.map D.int)] s = .ok (.lst ((byL r m os).map D.int)) s := by
  simp [p_suspected_by, b_suspected_by, startE, rowD]
  rw [comp_if (g := D.int) (fun o => decide (m ∈ susp r o)) D.int os rfl (by omega)]
  · simp [byL]
  · intro o ho
    have := susp_at (r := r) (h o ho).1 (h o ho).2
    simp [bindE, this, in_set]
end
end K58

namespace K58
open PySem QB L2
section
variable {s : Store} {st : List (Option Int)} {rs : List (List (List Int))}
theorem lasts_mem {o : Int} : o ∈ lasts st ↔ (0 ≤ o ∧ o < st.length) ∧ (stopAt st o).isNone = true := by
  unfold lasts; rw [List.mem_filter, rangeI_mem]
theorem ups_mem {o t : Int} : o ∈ ups st t ↔ (0 ≤ o ∧ o < st.length) ∧ upB st o t = true := by
  unfold ups; rw [List.mem_filter, rangeI_mem]
theorem gones_mem {o : Int} : o ∈ gones st ↔ (0 ≤ o ∧ o < st.length) ∧ (!(stopAt st o).isNone) = true := by
  unfold gones; rw [List.mem_filter, rangeI_mem]
theorem flt_len {p : Int → Bool} : ((rangeI st.length).filter p).length ≤ st.length := by
  have := List.length_filter_le p (rangeI st.length)
  rw [rangeI_length] at this; omega
theorem end_mem (h : VR st rs) : endR rs ∈ rs := by
  have h1 := h.l1
  have hne : rs ≠ [] := fun e => by rw [e] at h1; simp at h1
  unfold endR
  rw [List.getLastD_eq_getLast?, List.getLast?_eq_some_getLast hne]
  exact List.getLast_mem hne
theorem end_at (h : VR st rs) : atI (rs.map rowD) (-1) = some (rowD (endR rs)) := by
  have h1 := h.l1
  have hne : rs ≠ [] := fun e => by rw [e] at h1; simp at h1
  rw [atI_neg1 (rowD []) (by simpa using hne)]
  unfold endR
  rw [List.getLastD_eq_getLast?, List.getLastD_eq_getLast?, List.getLast?_map, List.getLast?_eq_some_getLast hne]
  rfl
theorem row_len (h : VR st rs) {r : List (List Int)} (hr : r ∈ rs) : r.length = st.length := (h.row r hr).1
theorem byEnd_ok (hs : VS st) (h : VR st rs) {m : Int} : p_suspected_by [rowD (endR rs), .int m, .lst ((lasts st).map D.int)] s = .ok (.lst ((byL (endR rs) m (lasts st)).map D.int)) s := by
  have h4 := hs.n4
  refine suspected_ok ?_ fun o ho => ?_
  · have : (lasts st).length ≤ st.length := flt_len; omega
  · rw [row_len h (end_mem h)]; exact (lasts_mem.mp ho).1
def cmpl (st : List (Option Int)) (rs : List (List (List Int))) (weak : Bool) : Bool := (gones st).all fun m => decide ((if weak = true then 1 else ((lasts st).length : Int)) ≤ (byL (endR rs) m (lasts st)).length)
theorem complete_ok (hs : VS st) (h : VR st rs) {weak : Bool} : p_is_complete [wD st rs, .bl weak] s = .ok (.bl (cmpl st rs weak)) s := by
  have h4 := hs.n4
  have he := enum_st st
  have hen := end_at h
  have hlast := lasting_ok (s := s) (rs := rs) hs
  simp [p_is_complete, b_is_complete, startE, stD]
  rw [comp_if (g := fun p : Int × Option Int => .tup [.int p.1, soD p.2]) (fun p => !p.2.isNone) (fun p => .int p.1) (placed st) (by simp [he]) (by rw [placed_len]; omega)]
  · have e : ((placed st).filter fun p => !p.2.isNone).map (fun p => D.int p.1) = (gones st).map D.int := by
      rw [filter_int, placed_st st fun o => !o.isNone]; rfl
    have gl : (gones st).length ≤ 4 := by have : (gones st).length ≤ st.length := flt_len; omega
    simp only [e]
    simp
    rw [comp_all (g := D.int) (fun m => .int (byL (endR rs) m (lasts st)).length) (gones st) rfl (by omega)]
    · have e2 : ((gones st).map fun m => D.int (byL (endR rs) m (lasts st)).length) = ((gones st).map fun m => ((byL (endR rs) m (lasts st)).length : Int)).map D.int := by rw [List.map_map]; rfl
      have key : ∀ f : Int, runComp (.seq (.lst ((gones st).map fun m => D.int (byL (endR rs) m (lasts st)).length))) (setM 7) (rt true) (stepL (op2M geD (bvarM 7) (bvarM 4))) [7] (.lst []) [.val (wD st rs), .val (.bl weak), .val (.lst ((gones st).map D.int)), .val (.lst ((gones st).map fun m => D.int (byL (endR rs) m (lasts st)).length)), .val (.int f), .no, .no, .no] s =
          .ok (.lst ((gones st).map fun m => .bl (decide (f ≤ (byL (endR rs) m (lasts st)).length)))) [.val (wD st rs), .val (.bl weak), .val (.lst ((gones st).map D.int)), .val (.lst ((gones st).map fun m => D.int (byL (endR rs) m (lasts st)).length)), .val (.int f), .no, .no, .no] s := by
        intro f
        rw [comp_all (g := fun m => .int (byL (endR rs) m (lasts st)).length) (fun m => .bl (decide (f ≤ (byL (endR rs) m (lasts st)).length))) (gones st) rfl (by omega)]
        · simp
        · intro m hm; simp [bindE]
      simp only [wD, stD] at key hlast
      cases weak with
      | true => simp [wD, stD, key, all_map, cmpl]
      | false => simp [wD, stD, key, all_map, cmpl, hlast]
    · intro m hm
      have hb := byEnd_ok (s := s) (m := m) hs h
      have hr : ixD (rowsD rs) (.int (-1)) = some (rowD (endR rs)) := hen
      simp [bindE, hlast, hb, hr]
  · intro p hp
    simp [bindE]
end
end K58

namespace K58
open PySem QB L2
section
variable {s : Store} {e : PEnv} {f : D → M Unit} {body : SM} {st : List (Option Int)} {rs : List (List (List Int))} {r : List (List Int)}
@[simp] theorem top_st : topD (stD st) s = some (st.map soD) := rfl
@[simp] theorem top_rs : topD (rowsD rs) s = some (rs.map rowD) := rfl
@[simp] theorem top_r : topD (rowD r) s = some (r.map setD) := rfl
@[simp] theorem len_st : lenD (stD st) = some (.int st.length) := by show some (D.int ((st.map soD).length : Nat)) = _; rw [List.length_map]
@[simp] theorem len_rs : lenD (rowsD rs) = some (.int rs.length) := by show some (D.int ((rs.map rowD).length : Nat)) = _; rw [List.length_map]
@[simp] theorem len_r : lenD (rowD r) = some (.int r.length) := by show some (D.int ((r.map setD).length : Nat)) = _; rw [List.length_map]
@[simp] theorem for_en_rs : runFor (.enum (rowsD rs)) f body e s = forL f body (enumL 0 (rs.map rowD)) e s := runFor_c fun _ => rfl
end
section
variable {s : Store} {st : List (Option Int)} {rs : List (List (List Int))}
def okNow (st : List (Option Int)) (m : Int) (p : Int × List (List Int)) : Bool := !(upB st m p.1 && !(byL p.2 m (ups st p.1)).isEmpty)
def spNow (st : List (Option Int)) (rs : List (List (List Int))) (m : Int) : Bool := (placed rs).all (okNow st m)
def sparedB (st : List (Option Int)) (rs : List (List (List Int))) (m : Int) (later : Bool) : Bool := if later = true then (byL (endR rs) m (lasts st)).isEmpty else spNow st rs m
theorem emp_dec {l : List Int} : decide (l = []) = l.isEmpty := by cases l <;> rfl
theorem by_len {r : List (List Int)} {m : Int} {os : List Int} : (byL r m os).length ≤ os.length := List.length_filter_le _ _
theorem ups_len {t : Int} : (ups st t).length ≤ st.length := flt_len
theorem placed_row (h : VR st rs) {p : Int × List (List Int)} (hp : p ∈ placed rs) : p.2 ∈ rs := List.mem_of_getElem? (placed_mem hp).2.2
theorem byUp_ok (hs : VS st) (h : VR st rs) {m : Int} {p : Int × List (List Int)} (hp : p ∈ placed rs) : p_suspected_by [rowD p.2, .int m, .lst ((ups st p.1).map D.int)] s = .ok (.lst ((byL p.2 m (ups st p.1)).map D.int)) s := by
  have h4 := hs.n4
  refine suspected_ok ?_ fun o ho => ?_
  · have : (ups st p.1).length ≤ st.length := ups_len; omega
  · rw [row_len h (placed_row h hp)]; exact (ups_mem.mp ho).1
theorem inUp {m t : Int} (hm : 0 ≤ m ∧ m < st.length) : decide (m ∈ ups st t) = upB st m t := by
  cases hq : upB st m t with
  | true => exact decide_eq_true (ups_mem.mpr ⟨hm, hq⟩)
  | false => exact decide_eq_false fun z => by have := (ups_mem.mp z).2; rw [hq] at this; cases this
theorem spared_turn (hs : VS st) (h : VR st rs) {m : Int} (hm : 0 ≤ m ∧ m < st.length) {p : Int × List (List Int)} (hp : p ∈ placed rs) {x3 x4 x5 : Option D} {b : Bool} :
    ((tupA 2 (consT (setM 3) (consT (setM 4) nilT)) (.tup [.int p.1, rowD p.2]) [.val (wD st rs), .val (.int m), .val (.bl b), sl x3, sl x4, sl x5] s).toS fun _ => l_is_spared_0) =
      if okNow st m p = true then .nx [.val (wD st rs), .val (.int m), .val (.bl b), sl (some (.int p.1)), sl (some (rowD p.2)), sl (some (.lst ((ups st p.1).map D.int)))] s
      else .ret (.bl false) [.val (wD st rs), .val (.int m), .val (.bl b), sl (some (.int p.1)), sl (some (rowD p.2)), sl (some (.lst ((ups st p.1).map D.int)))] s := by
  have hu := up_at_ok (s := s) (rs := rs) (t := p.1) hs
  have hb := byUp_ok (s := s) (m := m) hs h hp
  have hi := inUp (t := p.1) hm
  unfold okNow
  cases h1 : upB st m p.1 with
  | false => simp [l_is_spared_0, hu, in_ints, hi, h1, sl]
  | true =>
    cases h2 : (byL p.2 m (ups st p.1)).isEmpty with
    | true => simp [l_is_spared_0, hu, in_ints, hi, h1, hb, ne_ints_nil, emp_dec, h2, sl]
    | false => simp [l_is_spared_0, hu, in_ints, hi, h1, hb, ne_ints_nil, emp_dec, h2, sl]
theorem spared_ok (hs : VS st) (h : VR st rs) {m : Int} (hm : 0 ≤ m ∧ m < st.length) {later : Bool} : p_is_spared [wD st rs, .int m, .bl later] s = .ok (.bl (sparedB st rs m later)) s := by
  have hen : ixD (rowsD rs) (.int (-1)) = some (rowD (endR rs)) := end_at h
  have hlast := lasting_ok (s := s) (rs := rs) hs
  have hb := byEnd_ok (s := s) (m := m) hs h
  cases later with
  | true =>
    simp [p_is_spared, b_is_spared, startE, hen, hlast, hb, eq_ints_nil, sparedB, emp_dec]
  | false =>
    have he := enum_rs rs
    have h2 := for_ret (f := tupA 2 (consT (setM 3) (consT (setM 4) nilT))) (body := l_is_spared_0) (g := fun p : Int × List (List Int) => .tup [.int p.1, rowD p.2])
      (fun done e s' => s' = s ∧ (∃ x3 x4 x5, e = [.val (wD st rs), .val (.int m), .val (.bl false), sl x3, sl x4, sl x5]) ∧ ∀ p ∈ done, okNow st m p = true) (fun d s' => s' = s ∧ d = .bl false ∧ ∃ p ∈ placed rs, okNow st m p = false) (placed rs)
      (e := [.val (wD st rs), .val (.int m), .val (.bl false), sl none, sl none, sl none]) (s := s) ⟨rfl, ⟨none, none, none, rfl⟩, fun p hp => by cases hp⟩ (by
        rintro done p rest e s' hx ⟨rfl, ⟨x3, x4, x5, rfl⟩, ha⟩
        have hp : p ∈ placed rs := by rw [hx]; simp
        have ht := spared_turn (s := s') hs h hm hp (x3 := x3) (x4 := x4) (x5 := x5) (b := false)
        cases hk : okNow st m p with
        | true =>
          rw [hk, if_pos rfl] at ht
          refine .inl ⟨_, _, .inl ht, rfl, ⟨_, _, _, rfl⟩, fun q hq => ?_⟩
          rcases List.mem_append.mp hq with hq | hq
          · exact ha q hq
          · rw [List.mem_singleton.mp hq]; exact hk
        | false =>
          rw [hk, if_neg (by simp)] at ht
          exact .inr ⟨_, _, _, ht, rfl, rfl, p, hp, hk⟩)
    rw [← he] at h2
    simp only [show sl none = Slot.no from rfl] at h2
    rcases h2 with ⟨e', s', h3, rfl, ⟨x3, x4, x5, rfl⟩, ha⟩ | ⟨d, e', s', h3, rfl, rfl, p, hp, hk⟩
    · have hall : spNow st rs m = true := List.all_eq_true.mpr ha
      simp [p_is_spared, b_is_spared, startE, h3, sparedB, hall]
    · have hall : spNow st rs m = false := by
        cases q : spNow st rs m with
        | false => rfl
        | true => have := List.all_eq_true.mp q p hp; rw [hk] at this; cases this
      simp [p_is_spared, b_is_spared, startE, h3, sparedB, hall]
def accB (st : List (Option Int)) (rs : List (List (List Int))) (weak later : Bool) : Bool := if weak = true then (lasts st).any fun m => sparedB st rs m later else if later = true then (lasts st).all fun m => sparedB st rs m true else (rangeI st.length).all fun m => sparedB st rs m false
theorem any_map {α : Type} {xs : List α} {p : α → Bool} : anyD (.lst (xs.map fun x => D.bl (p x))) = some (.bl (xs.any p)) := by
  have e : (xs.map fun x => D.bl (p x)) = (xs.map p).map D.bl := by rw [List.map_map]; rfl
  rw [e, r_any_bls, List.any_map]; rfl
theorem acc_ok (hs : VS st) (h : VR st rs) {weak later : Bool} : p_has_accuracy [wD st rs, .bl weak, .bl later] s = .ok (.bl (accB st rs weak later)) s := by
  have h4 := hs.n4
  have hlast := lasting_ok (s := s) (rs := rs) hs
  have key : ∀ (ms : List Int), ms.length ≤ 10 → (∀ m ∈ ms, 0 ≤ m ∧ m < st.length) → runComp (.seq (.lst (ms.map D.int))) (setM 5) (rt true) (stepL (callM p_is_spared (consM (varM 0) (consM (varM 5) (consM (varM 2) (rt [])))))) [5] (.lst []) [.val (wD st rs), .val (.bl weak), .val (.bl later), .val (.lst (ms.map D.int)), .no, .no] s =
      .ok (.lst (ms.map fun m => .bl (sparedB st rs m later))) [.val (wD st rs), .val (.bl weak), .val (.bl later), .val (.lst (ms.map D.int)), .no, .no] s := by
    intro ms hl hm
    rw [comp_all (g := D.int) (fun m => .bl (sparedB st rs m later)) ms rfl (by omega)]
    · simp
    · intro m hmm
      have := spared_ok (s := s) hs h (hm m hmm) (later := later)
      simp [bindE, this]
  have k1 := key (lasts st) (by have : (lasts st).length ≤ st.length := flt_len; omega) fun m hm => (lasts_mem.mp hm).1
  have k2 := key (rangeI st.length) (by rw [rangeI_length]; omega) fun m hm => rangeI_mem.mp hm
  have c1 : (-1099511627776 : Int) ≤ st.length := by omega
  have c2 : (st.length : Int) ≤ 16777216 := by omega
  cases weak <;> cases later <;> simp [p_has_accuracy, b_has_accuracy, startE, hlast, k1, k2, rgL_ints, all_map, any_map, accB, c1, c2]
end
end K58

namespace K58
open PySem QB L2
inductive Nm where
  | com | wcom | acc | wacc | lacc | lwacc
def nmS : Nm → Str
  | .com => "complete" | .wcom => "weakly complete" | .acc => "accurate" | .wacc => "weakly accurate" | .lacc => "later accurate" | .lwacc => "later weakly accurate"
def Nm.isC : Nm → Bool
  | .com => true | .wcom => true | _ => false
def Nm.isWC : Nm → Bool
  | .wcom => true | _ => false
def Nm.wk : Nm → Bool
  | .wcom => true | .wacc => true | .lwacc => true | _ => false
def Nm.lt : Nm → Bool
  | .lacc => true | .lwacc => true | _ => false
theorem in_two (n : Nm) : inD false (.str (nmS n)) (.tup [.str "complete", .str "weakly complete"]) = some (.bl n.isC) := by cases n <;> kernel_rfl
theorem eq_wc (n : Nm) : eqD (.str (nmS n)) (.str "weakly complete") = some (.bl n.isWC) := by cases n <;> kernel_rfl
theorem sub_wk (n : Nm) : inD false (.str "weakly") (.str (nmS n)) = some (.bl n.wk) := by cases n <;> kernel_rfl
theorem sub_lt (n : Nm) : inD false (.str "later") (.str (nmS n)) = some (.bl n.lt) := by cases n <;> kernel_rfl
theorem in_names (n : Nm) : inD true (.str (nmS n)) (.tup [.str "complete", .str "weakly complete", .str "accurate", .str "weakly accurate", .str "later accurate", .str "later weakly accurate"]) = some (.bl false) := by cases n <;> kernel_rfl
section
variable {s : Store} {st : List (Option Int)} {rs : List (List (List Int))}
def hasN (st : List (Option Int)) (rs : List (List (List Int))) (n : Nm) : Bool := if n.isC = true then cmpl st rs n.isWC else accB st rs n.wk n.lt
theorem has_name_ok (hs : VS st) (h : VR st rs) (n : Nm) : p_has_name [wD st rs, .str (nmS n)] s = .ok (.bl (hasN st rs n)) s := by
  have h1 := complete_ok (s := s) hs h (weak := n.isWC)
  have h2 := acc_ok (s := s) hs h (weak := n.wk) (later := n.lt)
  cases hc : n.isC with
  | true => simp [p_has_name, b_has_name, startE, in_two, eq_wc, hc, h1, hasN]
  | false => simp [p_has_name, b_has_name, startE, in_two, sub_wk, sub_lt, hc, h2, hasN]
theorem watch_has_ok (hs : VS st) (h : VR st rs) (n : Nm) : p_watch_has [wD st rs, .str (nmS n)] s = .ok (.bl (hasN st rs n)) s := by
  have h1 := has_name_ok (s := s) hs h n
  simp [p_watch_has, b_watch_has, startE, in_names, h1, isTy]
def clsW (a b c d e : Bool) : Str := if a = true then (if b = true then "P" else if c = true then "S" else if d = true then "later P" else if e = true then "later S" else "none") else "none"
def clsN (st : List (Option Int)) (rs : List (List (List Int))) : Str := clsW (hasN st rs .com) (hasN st rs .acc) (hasN st rs .wacc) (hasN st rs .lacc) (hasN st rs .lwacc)
def rowsC : List (Str × Nm) := [("P", .acc), ("S", .wacc), ("later P", .lacc), ("later S", .lwacc)]
theorem zip_cls : zipL [.str "P", .str "S", .str "later P", .str "later S"] (cutL [.str "complete", .str "weakly complete", .str "accurate", .str "weakly accurate", .str "later accurate", .str "later weakly accurate"] (some 2) none) = rowsC.map fun p => .tup [.str p.1, .str (nmS p.2)] := by kernel_rfl
theorem ne_strs_nil {l : List D} (h : okNs 59 l = true) : neD (.lst l) (.lst []) = some (.bl (!l.isEmpty)) := by
  unfold neD
  have h1 : okD (.lst l) = true := by unfold okD okN; exact h
  rw [h1]
  cases l <;> rfl
theorem watch_class_ok (hs : VS st) (h : VR st rs) : p_watch_class [wD st rs] s = .ok (.str (clsN st rs)) s := by
  have h1 : p_has_name [wD st rs, .str "complete"] s = _ := has_name_ok (s := s) hs h .com
  have hz := zip_cls
  cases hc : hasN st rs .com with
  | false => simp [p_watch_class, b_watch_class, startE, h1, hc, clsN, clsW]
  | true =>
    simp [p_watch_class, b_watch_class, startE, h1, hc]
    generalize cutL [D.str "complete", .str "weakly complete", .str "accurate", .str "weakly accurate", .str "later accurate", .str "later weakly accurate"] (some 2) none = cc at hz
    rw [comp_if (g := fun p : Str × Nm => .tup [.str p.1, .str (nmS p.2)]) (fun p => hasN st rs p.2) (fun p => .str p.1) rowsC (by simp [hz]) (by decide)]
    · have e : ∃ l, ((rowsC.filter fun p => hasN st rs p.2).map fun p => D.str p.1) = l ∧ (okNs 59 l = true) ∧ (l = [] ∧ clsN st rs = "none" ∨ ∃ t, l = .str (clsN st rs) :: t) := by
        refine ⟨_, rfl, ?_⟩
        unfold clsN rowsC
        simp only [List.filter_cons, List.filter_nil, hc]
        generalize hasN st rs .acc = a
        generalize hasN st rs .wacc = b
        generalize hasN st rs .lacc = c
        generalize hasN st rs .lwacc = d
        cases a <;> cases b <;> cases c <;> cases d <;> first | exact ⟨by kernel_rfl, .inr ⟨_, rfl⟩⟩ | exact ⟨by kernel_rfl, .inl ⟨rfl, rfl⟩⟩
      obtain ⟨l, e, e2, e3⟩ := e
      rw [e]
      rcases e3 with ⟨rfl, e4⟩ | ⟨t, rfl⟩
      · simp [ne_strs_nil e2, e4]
      · simp [ne_strs_nil e2]
    · intro p hp
      have := has_name_ok (s := s) hs h p.2
      simp [bindE, this]
end
end K58

namespace K58
open PySem QB L2
section
variable {s : Store} {st : List (Option Int)} {rs : List (List (List Int))} {r : List (List Int)}
def everyL (st : List (Option Int)) (r : List (List Int)) (t : Int) : List Int := (rangeI st.length).filter fun m => !upB st m t && !(byL r m (ups st t)).isEmpty
def shR (st : List (Option Int)) (r : List (List Int)) (t : Int) : List (List Int) := (rangeI st.length).map fun m => if upB st m t = true then everyL st r t else []
def shRs (st : List (Option Int)) (rs : List (List (List Int))) : List (List (List Int)) := (placed rs).map fun p => shR st p.2 p.1
theorem rngL_I {n : Int} : rngL 0 n.toNat = (rangeI n).map D.int := rngL_ints
theorem shared_row_ok (hs : VS st) {t : Int} (hr : r.length = st.length) : p_shared_row [wD st rs, .int t, rowD r] s = .ok (rowD (shR st r t)) s := by
  have h4 := hs.n4
  have hu := up_at_ok (s := s) (rs := rs) (t := t) hs
  have hul : (ups st t).length ≤ st.length := ups_len
  have hb : ∀ m : Int, p_suspected_by [rowD r, .int m, .lst ((ups st t).map D.int)] s = .ok (.lst ((byL r m (ups st t)).map D.int)) s := fun m => suspected_ok (by omega) fun o ho => by rw [hr]; exact (ups_mem.mp ho).1
  have c1 : (-4611686018427387904 : Int) < st.length := by omega
  have c2 : (st.length : Int) < 4611686018427387904 := by omega
  have rl := rangeI_length (n := (st.length : Int))
  simp [p_shared_row, b_shared_row, startE, hu, hr, c1, c2]
  rw [comp_if (g := D.int) (fun m => !upB st m t && !(byL r m (ups st t)).isEmpty) D.int (rangeI st.length) (by simp [← rngL_I]) (by rw [rl]; omega)]
  · simp [hr, c1, c2]
    rw [comp_all (g := D.int) (fun m => setD (if upB st m t = true then everyL st r t else [])) (rangeI st.length) (by simp [← rngL_I]) (by rw [rl]; omega)]
    · simp [rowD, shR]
    · intro m hm
      have hi := inUp (t := t) (rangeI_mem.mp hm)
      cases hq : upB st m t with
      | true => simp [bindE, in_ints, hi, hq, everyL, setD]
      | false => simp [bindE, in_ints, hi, hq, setD]
  · intro m hm
    have hi := inUp (t := t) (rangeI_mem.mp hm)
    cases hq : upB st m t with
    | true => simp [bindE, in_ints, hi, hq]
    | false => simp [bindE, in_ints, hi, hq, hb, ne_ints_nil, emp_dec]
theorem everyL_asc {t : Int} : (everyL st r t).Pairwise (· < ·) := by
  unfold everyL
  refine List.Pairwise.filter _ ?_
  unfold rangeI
  rw [List.pairwise_map]
  exact List.pairwise_lt_range.imp fun {a b} h => by omega
theorem shR_len {t : Int} : (shR st r t).length = st.length := by unfold shR; rw [List.length_map, rangeI_length]; omega
theorem VR_sh (hs : VS st) (h : VR st rs) : VR st (shRs st rs) where
  l1 := by unfold shRs; rw [List.length_map, placed_len]; exact h.l1
  l9 := by unfold shRs; rw [List.length_map, placed_len]; exact h.l9
  row := fun r hr => by
    obtain ⟨p, hp, rfl⟩ := List.mem_map.mp hr
    refine ⟨shR_len, fun x hx => ?_⟩
    obtain ⟨m, hm, rfl⟩ := List.mem_map.mp hx
    split
    · exact ⟨everyL_asc, fun b hb => rangeI_mem.mp (List.mem_filter.mp hb).1⟩
    · exact ⟨List.Pairwise.nil, fun b hb => by cases hb⟩
  last := fun t ht => by unfold shRs; rw [List.length_map, placed_len]; exact h.last t ht
theorem make_ok (hs : VS st) (h : VR st rs) : p_Watch___init__ [stD st, rowsD rs] s = .ok [("stops", stD st), ("rows", rowsD rs)] s := init_ok hs h
theorem shared_watch_ok (hs : VS st) (h : VR st rs) : p_shared_watch [wD st rs] s = .ok (wD st (shRs st rs)) s := by
  have h9 := h.l9
  have he := enum_rs rs
  have hm := make_ok (s := s) hs (VR_sh hs h)
  simp [p_shared_watch, b_shared_watch, startE]
  rw [comp_all (g := fun p : Int × List (List Int) => .tup [.int p.1, rowD p.2]) (fun p => rowD (shR st p.2 p.1)) (placed rs) (by show some (enumL 0 (rs.map rowD)) = _; rw [he]) (by rw [placed_len]; omega)]
  · have e : D.tup ((placed rs).map fun p => rowD (shR st p.2 p.1)) = rowsD (shRs st rs) := by unfold rowsD shRs; rw [List.map_map]; rfl
    simp [e, hm, wD]
  · intro p hp
    have := shared_row_ok (s := s) (rs := rs) (t := p.1) (r := p.2) hs (row_len h (placed_row h hp))
    simp [bindE, this]
def leadL (r : List (List Int)) (m : Int) : Option Int := ((rangeI r.length).filter fun o => !decide (o ∈ susp r m)).head?
theorem leader_in_ok {m : Int} (h0 : 0 ≤ m) (h1 : m < r.length) (hl : r.length ≤ 100) : p_leader_in [rowD r, .int m] s = .ok (soD (leadL r m)) s := by
  have c1 : (-4611686018427387904 : Int) < r.length := by omega
  have c2 : (r.length : Int) < 4611686018427387904 := by omega
  have rl := rangeI_length (n := (r.length : Int))
  have hat : ixD (rowD r) (.int m) = some (setD (susp r m)) := susp_at h0 h1
  simp [p_leader_in, b_leader_in, startE, c1, c2]
  rw [comp_if (g := D.int) (fun o => !decide (o ∈ susp r m)) D.int (rangeI r.length) (by simp [← rngL_I]) (by rw [rl]; omega)]
  · unfold leadL
    cases hq : (rangeI r.length).filter fun o => !decide (o ∈ susp r m) with
    | nil => simp [soD]
    | cons a t =>
      have := ne_ints_nil (ns := a :: t)
      simp only [List.map_cons] at this
      simp [this, soD]
  · intro o ho
    simp [bindE, hat, in_set]
theorem rowAt_at {t : Int} (h0 : 0 ≤ t) (h1 : t < rs.length) : ixD (rowsD rs) (.int t) = some (rowD (rowAt rs t)) := atI_map h0 h1 []
theorem rowAt_mem {t : Int} (h0 : 0 ≤ t) (h1 : t < rs.length) : rowAt rs t ∈ rs := by
  unfold rowAt
  have hk : t.toNat < rs.length := by omega
  rw [List.getD_eq_getElem?_getD, List.getElem?_eq_getElem hk]
  exact List.getElem_mem hk
def capT (rs : List (List (List Int))) (t : Int) : Int := if (rs.length : Int) - 1 < t then (rs.length : Int) - 1 else t
theorem capT_b (h : VR st rs) {t : Int} (h0 : 0 ≤ t) : 0 ≤ capT rs t ∧ capT rs t < rs.length := by
  have := h.l1
  unfold capT; split <;> omega
theorem leader_at_ok (hs : VS st) (h : VR st rs) {t m : Int} (h0 : 0 ≤ t) (h1 : t ≤ 1000) (hm : 0 ≤ m ∧ m < st.length) : p_leader_at [wD st rs, .int t, .int m] s = .ok (soD (leadL (rowAt rs (capT rs t)) m)) s := by
  have hc := capT_b h h0
  have hr := rowAt_at hc.1 hc.2
  have hrl := row_len h (rowAt_mem hc.1 hc.2)
  have h4 := hs.n4
  have hl := leader_in_ok (s := s) (r := rowAt rs (capT rs t)) hm.1 (by rw [hrl]; exact hm.2) (by omega)
  have em : minD (.lst [.int t, .int ((rs.length : Int) - 1)]) = some (.int (capT rs t)) := by
    have := r_min_ints (ns := [t, (rs.length : Int) - 1]) (by simp)
    exact this
  have c3 : m ≤ (st.length : Int) - 1 := by omega
  simp [p_leader_at, b_leader_at, startE, is_between_ok, h0, h1, hm.1, c3, em, hr, hl]
theorem in_so {neg : Bool} {o : Option Int} {ns : List Int} : inD neg (soD o) (.lst (ns.map D.int)) = some (.bl (neg != match o with | none => false | some v => decide (v ∈ ns))) := by
  cases o with
  | some v => exact in_ints
  | none =>
    unfold inD soD
    have h1 : okD (.lst (ns.map D.int)) = true := okD_ints
    have h2 : ((ns.map D.int).any fun z => eqd z .non) = false := by
      rw [List.any_map]
      exact List.any_eq_false.mpr fun x _ => by show ¬ (false = true); simp
    simp [h2, okD, okN, okNs_ints]
theorem eq_so {a b : Option Int} : eqD (soD a) (soD b) = some (.bl (decide (a = b))) := by
  cases a <;> cases b <;> first | rfl | (rename_i x y; simp [soD])
end
end K58

namespace K58
open PySem QB L2
section
variable {s : Store} {st : List (Option Int)} {rs : List (List (List Int))} {r : List (List Int)}
def goodsL (st : List (Option Int)) (rs : List (List (List Int))) (L : Int) : List Bool := rs.map fun r => (lasts st).all fun m => decide (leadL r m = some L)
def badT (gs : List Bool) : List Int := ((placed gs).filter fun p => !p.2).map fun p => p.1 + 1
def setlT (st : List (Option Int)) (rs : List (List (List Int))) : Option Int := match leadL (endR rs) ((lasts st).headD 0) with
  | none => none
  | some L => if L ∈ lasts st then (if (goodsL st rs L).getLastD false = true then some (maxL (0 :: badT (goodsL st rs L))) else none) else none
theorem lasts_ne (h : VS st) : ∃ a t, lasts st = a :: t := by
  obtain ⟨k, hk, e⟩ := List.getElem_of_mem h.ex
  have : (k : Int) ∈ lasts st := lasts_mem.mpr ⟨⟨by omega, by omega⟩, by rw [stopAt_get (List.getElem?_eq_some_iff.mpr ⟨hk, e⟩)]; rfl⟩
  cases hq : lasts st with
  | nil => rw [hq] at this; cases this
  | cons a t => exact ⟨a, t, rfl⟩
theorem settles_ok (hs : VS st) (h : VR st rs) : p_settles [wD st rs] s = .ok (soD (setlT st rs)) s := by
  have h4 := hs.n4; have h9 := h.l9; have h1 := h.l1
  obtain ⟨a, t, hl⟩ := lasts_ne hs
  have hlast := lasting_ok (s := s) (rs := rs) hs
  have hen : ixD (rowsD rs) (.int (-1)) = some (rowD (endR rs)) := end_at h
  have hlen : (lasts st).length ≤ st.length := flt_len
  have lead : ∀ r ∈ rs, ∀ m ∈ lasts st, p_leader_in [rowD r, .int m] s = .ok (soD (leadL r m)) s := fun r hr m hm => by
    have e := row_len h hr
    have := (lasts_mem.mp hm).1
    exact leader_in_ok this.1 (by rw [e]; exact this.2) (by omega)
  have l0 : p_leader_in [rowD (endR rs), .int a] s = .ok (soD (leadL (endR rs) a)) s := lead _ (end_mem h) a (by rw [hl]; exact List.mem_cons_self)
  have hh : (lasts st).headD 0 = a := by rw [hl]; rfl
  have hat : ixD (.lst ((lasts st).map D.int)) (.int 0) = some (.int a) := by rw [hl, List.map_cons]; exact r_at0
  have e0 : setlT st rs = match leadL (endR rs) a with
    | none => none
    | some L => if L ∈ lasts st then (if (goodsL st rs L).getLastD false = true then some (maxL (0 :: badT (goodsL st rs L))) else none) else none := by unfold setlT; rw [hh]
  simp only [r_ix_lst] at hat
  cases hL : leadL (endR rs) a with
  | none =>
    rw [hL] at e0 l0
    dsimp only at e0
    have hi : inD true (soD none) (.lst ((lasts st).map D.int)) = some (.bl true) := in_so
    simp [p_settles, b_settles, startE, hlast, hen, hat, l0, hi, e0]
    rfl
  | some L =>
    rw [hL] at e0 l0
    dsimp only at e0
    by_cases hm : L ∈ lasts st
    · have hi : inD true (soD (some L)) (.lst ((lasts st).map D.int)) = some (.bl false) := by rw [in_so]; simp [hm]
      simp [p_settles, b_settles, startE, hlast, hen, hat, l0, hi]
      rw [comp_all (g := rowD) (fun r => .bl ((lasts st).all fun m => decide (leadL r m = some L))) rs rfl (by omega)]
      · have eg : (rs.map fun r => D.bl ((lasts st).all fun m => decide (leadL r m = some L))) = (goodsL st rs L).map D.bl := by unfold goodsL; rw [List.map_map]; rfl
        have gl : (goodsL st rs L).length = rs.length := by unfold goodsL; rw [List.length_map]
        have gne : goodsL st rs L ≠ [] := fun e => by rw [e] at gl; simp at gl; omega
        have gat : atI ((goodsL st rs L).map D.bl) (-1) = some (.bl ((goodsL st rs L).getLastD false)) := by
          rw [atI_neg1 (D.bl false) (by simpa using gne), List.getLastD_eq_getLast?, List.getLastD_eq_getLast?, List.getLast?_map, List.getLast?_eq_some_getLast gne]; rfl
        rw [if_pos hm] at e0
        rw [eg]
        cases hg : (goodsL st rs L).getLastD false with
        | false =>
          rw [hg] at gat
          rw [hg] at e0
          simp [gat, e0]
          rfl
        | true =>
          rw [hg] at gat
          rw [hg, if_pos rfl] at e0
          simp [gat]
          have hen2 := enumL_placed (f := D.bl) (goodsL st rs L)
          rw [comp_if (g := fun p : Int × Bool => .tup [.int p.1, .bl p.2]) (fun p => !p.2) (fun p => .int (p.1 + 1)) (placed (goodsL st rs L)) (by simp [hen2]) (by rw [placed_len]; omega)]
          · have eb : ((placed (goodsL st rs L)).filter fun p => !p.2).map (fun p => D.int (p.1 + 1)) = (badT (goodsL st rs L)).map D.int := by unfold badT; rw [List.map_map]; rfl
            have bl : (badT (goodsL st rs L)).length ≤ 9 := by
              unfold badT
              rw [List.length_map]
              have := List.length_filter_le (fun p : Int × Bool => !p.2) (placed (goodsL st rs L))
              rw [placed_len] at this; omega
            have ez : szOk (1 + (badT (goodsL st rs L)).length) = true := szOk_of (by omega)
            have ea : addD (.lst [.int 0]) (.lst ((badT (goodsL st rs L)).map D.int)) = some (.lst (.int 0 :: (badT (goodsL st rs L)).map D.int)) := by
              show (if szOk (1 + ((badT (goodsL st rs L)).map D.int).length) = true then _ else _) = _
              rw [List.length_map, if_pos ez]; rfl
            have em : maxD (.lst (.int 0 :: (badT (goodsL st rs L)).map D.int)) = some (.int (maxL (0 :: badT (goodsL st rs L)))) := r_max_ints (ns := 0 :: badT (goodsL st rs L)) (by simp)
            simp only [eb]
            simp [ea, em, e0, soD]
          · intro p hp
            simp [bindE]
      · intro r hr
        have hc : runComp (.seq (.lst ((lasts st).map D.int))) (setM 5) (rt true) (stepL (op2M eqD (toB (callM p_leader_in (consM (varM 4) (consM (varM 5) (rt []))))) (bvarM 2))) [5] (.lst []) [.val (wD st rs), .val (.lst ((lasts st).map D.int)), .val (soD (some L)), .no, .val (rowD r), .no, .no, .no] s =
            .ok (.lst ((lasts st).map fun m => .bl (decide (leadL r m = some L)))) [.val (wD st rs), .val (.lst ((lasts st).map D.int)), .val (soD (some L)), .no, .val (rowD r), .no, .no, .no] s := by
          rw [comp_all (g := D.int) (fun m => .bl (decide (leadL r m = some L))) (lasts st) rfl (by omega)]
          · simp
          · intro m hmm
            have := lead r hr m hmm
            simp [bindE, this, eq_so]
        simp [bindE, hc, all_map]
    · have hi : inD true (soD (some L)) (.lst ((lasts st).map D.int)) = some (.bl true) := by rw [in_so]; simp [hm]
      rw [if_neg hm] at e0
      simp [p_settles, b_settles, startE, hlast, hen, hat, l0, hi, e0]
      rfl
end
end K58

namespace K58
open PySem QB L2
section
variable {s : Store} {st : List (Option Int)} {rs : List (List (List Int))} {r : List (List Int)}
theorem st_at {m : Int} (h0 : 0 ≤ m) (h1 : m < st.length) : ixD (stD st) (.int m) = some (soD (stopAt st m)) := atI_map h0 h1 none
theorem law_up_ok {m t : Int} (h0 : 0 ≤ m) (h1 : m < st.length) : p__law_up [stD st, .int m, .int t] s = .ok (.bl (upB st m t)) s := by
  have h := st_at h0 h1
  unfold upB
  cases hq : stopAt st m with
  | none => rw [hq] at h; simp [p__law_up, b__law_up, startE, h, upO]
  | some x => rw [hq] at h; simp [p__law_up, b__law_up, startE, h, upO, soD]
theorem susp_mem (h : VR st rs) {t a : Int} (ht : 0 ≤ t ∧ t < rs.length) (ha : 0 ≤ a ∧ a < st.length) : susp (rowAt rs t) a ∈ rowAt rs t := by
  have e := row_len h (rowAt_mem ht.1 ht.2)
  unfold susp
  have hk : a.toNat < (rowAt rs t).length := by rw [e]; omega
  rw [List.getD_eq_getElem?_getD, List.getElem?_eq_getElem hk]
  exact List.getElem_mem hk
theorem susp_b (h : VR st rs) {t a : Int} (ht : 0 ≤ t ∧ t < rs.length) (ha : 0 ≤ a ∧ a < st.length) : ∀ b ∈ susp (rowAt rs t) a, 0 ≤ b ∧ b < st.length :=
  ((h.row _ (rowAt_mem ht.1 ht.2)).2 _ (susp_mem h ht ha)).2
theorem susp_len (hs : VS st) (h : VR st rs) {t a : Int} (ht : 0 ≤ t ∧ t < rs.length) (ha : 0 ≤ a ∧ a < st.length) : (susp (rowAt rs t) a).length ≤ 4 := by
  have h4 := hs.n4
  have := asc_len ((h.row _ (rowAt_mem ht.1 ht.2)).2 _ (susp_mem h ht ha)).1 (susp_b h ht ha)
  omega
theorem eq_nil_of {l : List D} (h : okNs 59 l = true) : eqD (.lst l) (.lst []) = some (.bl l.isEmpty) := by
  unfold eqD
  have h1 : okD (.lst l) = true := by unfold okD okN; exact h
  rw [h1]
  cases l <;> rfl
theorem ne_nil_of {l : List D} (h : okNs 59 l = true) : neD (.lst l) (.lst []) = some (.bl (!l.isEmpty)) := ne_strs_nil h
theorem ok_ones {α : Type} {W : List α} : okNs 59 (W.map fun _ => D.int 1) = true := okNs_map fun p _ => by simp [okN]
def kC (st : List (Option Int)) (E : List (List Int)) : Bool := ((gones st).filter fun m => !((lasts st).filter fun a => !decide (m ∈ susp E a)).isEmpty).isEmpty
def kWC (st : List (Option Int)) (E : List (List Int)) : Bool := ((gones st).filter fun m => ((lasts st).filter fun a => decide (m ∈ susp E a)).isEmpty).isEmpty
theorem isE_map {α β : Type} {f : α → β} {l : List α} : (l.map f).isEmpty = l.isEmpty := by cases l <;> rfl
theorem end_rowAt (h : VR st rs) : rowAt rs ((rs.length : Int) - 1) = endR rs := by
  have h1 := h.l1
  have e : ((rs.length : Int) - 1).toNat = rs.length - 1 := by omega
  unfold rowAt endR
  rw [e, List.getLastD_eq_getLast?, List.getLast?_eq_getElem?, List.getD_eq_getElem?_getD]
theorem fil_e {α : Type} {l : List α} {p : α → Bool} : (l.filter p).isEmpty = true ↔ ∀ x ∈ l, ¬ p x = true := by
  rw [List.isEmpty_iff, List.filter_eq_nil_iff]
theorem nfil_e {α : Type} {l : List α} {p : α → Bool} : (!(l.filter p).isEmpty) = true ↔ ∃ x ∈ l, p x = true := by
  constructor
  · intro h
    cases hq : l.filter p with
    | nil => rw [hq] at h; cases h
    | cons a t => exact ⟨a, List.mem_filter.mp (by rw [hq]; exact List.mem_cons_self)⟩
  · rintro ⟨x, hx, hp⟩
    have := List.mem_filter.mpr ⟨hx, hp⟩
    cases hq : l.filter p with
    | nil => rw [hq] at this; cases this
    | cons a t => rfl
theorem kC_eq : kC st (endR rs) = hasN st rs .com := by
  rw [Bool.eq_iff_iff]
  show kC st (endR rs) = true ↔ cmpl st rs false = true
  unfold kC cmpl byL
  rw [fil_e, List.all_eq_true]
  refine forall_congr' fun m => forall_congr' fun hm => ?_
  rw [nfil_e, decide_eq_true_iff]
  simp only [Bool.false_eq_true, if_false]
  constructor
  · intro h
    have : (lasts st).filter (fun o => decide (m ∈ susp (endR rs) o)) = lasts st := List.filter_eq_self.mpr fun a ha => by
      cases hq : decide (m ∈ susp (endR rs) a) with
      | true => rfl
      | false => exact absurd ⟨a, ha, by rw [hq]; rfl⟩ h
    rw [this]; exact Int.le_refl _
  · rintro h ⟨a, ha, hq⟩
    have h1 : ((lasts st).filter fun o => decide (m ∈ susp (endR rs) o)).length = (lasts st).length := by
      have := List.length_filter_le (fun o => decide (m ∈ susp (endR rs) o)) (lasts st)
      omega
    have := List.length_filter_eq_length_iff.mp h1 a ha
    rw [this] at hq; cases hq
theorem kWC_eq : kWC st (endR rs) = hasN st rs .wcom := by
  rw [Bool.eq_iff_iff]
  show kWC st (endR rs) = true ↔ cmpl st rs true = true
  unfold kWC cmpl byL
  rw [fil_e, List.all_eq_true]
  refine forall_congr' fun m => forall_congr' fun hm => ?_
  rw [decide_eq_true_iff]
  simp only [if_true]
  cases (lasts st).filter fun o => decide (m ∈ susp (endR rs) o) with
  | nil => simp
  | cons a t => simp; omega
theorem upB_last {m t : Int} (hm : m ∈ lasts st) : upB st m t = true := by
  have := (lasts_mem.mp hm).2
  unfold upB
  cases hq : stopAt st m with
  | none => rfl
  | some x => rw [hq] at this; cases this
def inLs (st : List (Option Int)) (o : Option Int) : Bool := match o with
  | none => false
  | some v => decide (v ∈ lasts st)
def headsL (st : List (Option Int)) (rs : List (List (List Int))) (t : Int) : List (Option Int) := (lasts st).map fun m => leadL (rowAt rs t) m
theorem ne_so {a b : Option Int} : neD (soD a) (soD b) = some (.bl (!decide (a = b))) := by
  cases a <;> cases b <;> first | rfl | (rename_i x y; simp [soD])
theorem ok_sos {l : List (Option Int)} : okNs 59 (l.map soD) = true := okNs_map fun o _ => by cases o <;> simp [soD, okN]
theorem capT_in {t : Int} (ht : 0 ≤ t ∧ t < rs.length) : capT rs t = t := by
  unfold capT; rw [if_neg (by omega)]
theorem fil_all {α : Type} {l : List α} {p : α → Bool} : (l.filter p).isEmpty = l.all fun x => !p x := by
  rw [Bool.eq_iff_iff, fil_e, List.all_eq_true]
  refine forall_congr' fun x => forall_congr' fun hx => ?_
  cases p x <;> simp
theorem mem_placed {α : Type} {l : List α} {k : Nat} {x : α} (h : l[k]? = some x) : ((k : Int), x) ∈ placed l := by
  obtain ⟨hk, e⟩ := List.getElem?_eq_some_iff.mp h
  have : (k : Int) ∈ (placed l).map (·.1) := by rw [placed_fst]; exact rangeI_mem.mpr ⟨by omega, by omega⟩
  obtain ⟨q, hq, e1⟩ := List.mem_map.mp this
  have h3 := (placed_mem hq).2.2
  rw [e1, Int.toNat_natCast, h] at h3
  have : q = ((k : Int), x) := Prod.ext e1 (Option.some.inj h3).symm
  rw [← this]; exact hq
def gd (st : List (Option Int)) (rs : List (List (List Int))) (L t : Int) : Bool := (lasts st).all fun m => decide (leadL (rowAt rs t) m = some L)
theorem goods_get {L : Int} {k : Nat} (hk : k < rs.length) : (goodsL st rs L)[k]? = some (gd st rs L k) := by
  unfold goodsL gd rowAt
  rw [List.getElem?_map, List.getElem?_eq_getElem hk, Int.toNat_natCast, List.getD_eq_getElem?_getD, List.getElem?_eq_getElem hk]; rfl
theorem goods_last (h : VR st rs) {L : Int} : (goodsL st rs L).getLastD false = gd st rs L ((rs.length : Int) - 1) := by
  have h1 := h.l1
  have e := goods_get (st := st) (rs := rs) (L := L) (k := rs.length - 1) (by omega)
  have el : (goodsL st rs L).length = rs.length := by unfold goodsL; rw [List.length_map]
  rw [List.getLastD_eq_getLast?, List.getLast?_eq_getElem?, el, e]
  have : ((rs.length - 1 : Nat) : Int) = (rs.length : Int) - 1 := by omega
  rw [this]; rfl
theorem setl_some (h : VR st rs) {a L : Int} {tl : List Int} (hl : lasts st = a :: tl) (ho : leadL (endR rs) a = some L) (hL : L ∈ lasts st) {k : Nat} (hk : k < rs.length) (hg : ∀ j : Nat, k ≤ j → j < rs.length → gd st rs L j = true) (hb : ∀ j : Nat, k = j + 1 → gd st rs L j = false) : setlT st rs = some (k : Int) := by
  have h1 := h.l1
  unfold setlT
  rw [hl]
  show (match leadL (endR rs) a with
    | none => none
    | some L => _) = some (k : Int)
  rw [ho, ← hl]
  dsimp only
  rw [if_pos hL, goods_last h]
  have e1 : ((rs.length : Int) - 1) = ((rs.length - 1 : Nat) : Int) := by omega
  rw [e1, hg _ (by omega) (by omega), if_pos rfl]
  congr 1
  obtain ⟨q1, q2⟩ := maxL_mem (ns := 0 :: badT (goodsL st rs L)) (by simp)
  have up : ∀ y ∈ 0 :: badT (goodsL st rs L), y ≤ (k : Int) := by
    intro y hy
    rcases List.mem_cons.mp hy with rfl | hy
    · omega
    · unfold badT at hy
      obtain ⟨p, hp, rfl⟩ := List.mem_map.mp hy
      obtain ⟨hp, hf⟩ := List.mem_filter.mp hp
      obtain ⟨b1, b2, b3⟩ := placed_mem hp
      have el : (goodsL st rs L).length = rs.length := by unfold goodsL; rw [List.length_map]
      by_cases hlt : p.1 < (k : Int)
      · omega
      · exfalso
        have := goods_get (st := st) (rs := rs) (L := L) (k := p.1.toNat) (by omega)
        rw [this] at b3
        rw [hg _ (by omega) (by omega)] at b3
        rw [← Option.some.inj b3] at hf
        cases hf
  have lo : (k : Int) ∈ 0 :: badT (goodsL st rs L) := by
    cases k with
    | zero => exact List.mem_cons_self
    | succ j =>
      refine List.mem_cons_of_mem _ ?_
      unfold badT
      have := goods_get (st := st) (rs := rs) (L := L) (k := j) (by omega)
      rw [hb j rfl] at this
      refine List.mem_map.mpr ⟨((j : Int), false), List.mem_filter.mpr ⟨mem_placed this, rfl⟩, by simp⟩
  have := q2 _ lo
  have := up _ q1
  omega
theorem set_mid {c d : Cell} {t : Store} : (s ++ c :: t).set s.length d = s ++ d :: t := by
  rw [List.set_append_right _ _ (Nat.le_refl _)]; simp
theorem shRs_I : shRs st rs = (rangeI rs.length).map fun t => shR st (rowAt rs t) t := by
  unfold shRs
  rw [← placed_fst, List.map_map]
  refine List.map_congr_left fun p hp => ?_
  have : rowAt rs p.1 = p.2 := by unfold rowAt; rw [List.getD_eq_getElem?_getD, (placed_mem hp).2.2]; rfl
  show _ = shR st (rowAt rs p.1) p.1
  rw [this]
theorem range_asc {n : Int} : (rangeI n).Pairwise (· < ·) := by
  unfold rangeI
  rw [List.pairwise_map]
  exact List.pairwise_lt_range.imp fun {a b} h => by omega
theorem rangeI_get {n t : Int} (ht : 0 ≤ t ∧ t < n) (hk : t.toNat < (rangeI n).length) : (rangeI n)[t.toNat] = t := by
  have e : (rangeI n)[t.toNat]? = some t := by
    unfold rangeI
    rw [List.getElem?_map, List.getElem?_range (by omega)]
    show some ((t.toNat : Nat) : Int) = some t
    congr 1; omega
  rw [List.getElem?_eq_getElem hk] at e
  exact Option.some.inj e
theorem stop_mem {m x : Int} (hm : 0 ≤ m ∧ m < st.length) (ho : stopAt st m = some x) : some x ∈ st := by
  unfold stopAt at ho
  have hk : m.toNat < st.length := by omega
  rw [List.getD_eq_getElem?_getD, List.getElem?_eq_getElem hk] at ho
  have ho : st[m.toNat] = some x := ho
  rw [← ho]; exact List.getElem_mem hk
end
end K58

namespace K58
open PySem QB L2
section
variable {s : Store} {st : List (Option Int)} {rs : List (List (List Int))} {n : Nat}
/-- a datum is the same as itself -/
def Sm (n : Nat) (d : D) : Prop := ∀ s, p__law_same n [d, d] s = .ok (.bl true) s
theorem sm_non : Sm (n + 1) .non := fun s => by simp [p__law_same, startE]
theorem sm_bl {b : Bool} : Sm (n + 1) (.bl b) := fun s => by cases b <;> simp [p__law_same, startE, isTy]
theorem sm_int {i : Int} : Sm (n + 1) (.int i) := fun s => by simp [p__law_same, startE, isTy]
theorem sm_none : Sm (n + 1) (.str "none") := fun s => by kernel_rfl
theorem sm_P : Sm (n + 1) (.str "P") := fun s => by kernel_rfl
theorem sm_S : Sm (n + 1) (.str "S") := fun s => by kernel_rfl
theorem sm_lP : Sm (n + 1) (.str "later P") := fun s => by kernel_rfl
theorem sm_lS : Sm (n + 1) (.str "later S") := fun s => by kernel_rfl
theorem sm_seq {l : List D} (hl : l.length ≤ 1000) (h : ∀ d ∈ l, Sm n d) (hk : d = .lst l ∨ d = .tup l) : Sm (n + 1) d := fun s => by
  have c1 : (-4611686018427387904 : Int) < l.length := by omega
  have c2 : (l.length : Int) < 4611686018427387904 := by omega
  have rl := rangeI_length (n := (l.length : Int))
  rcases hk with rfl | rfl
  · simp [p__law_same, startE, isTy, c1, c2]
    rw [comp_if (g := D.int) (fun i => false) D.int (rangeI l.length) (by simp [← rngL_I]) (by rw [rl]; omega)]
    · have e : eqD (.lst []) (.lst []) = some (.bl true) := eq_ints_nil (ns := [])
      rw [show (rangeI (l.length : Int)).filter (fun _ => false) = [] from List.filter_eq_nil_iff.mpr fun _ _ => by simp]
      simp [e]
    · intro i hi
      have hi := rangeI_mem.mp hi
      obtain ⟨k, rfl⟩ : ∃ k : Nat, i = k := ⟨i.toNat, by omega⟩
      have hk : k < l.length := by omega
      have hat := L2.atI_nat (List.getElem?_eq_getElem hk)
      have := h l[k] (List.getElem_mem hk) s
      simp [bindE, hat, this]
  · simp [p__law_same, startE, isTy, c1, c2]
    rw [comp_if (g := D.int) (fun i => false) D.int (rangeI l.length) (by simp [← rngL_I]) (by rw [rl]; omega)]
    · have e : eqD (.lst []) (.lst []) = some (.bl true) := eq_ints_nil (ns := [])
      rw [show (rangeI (l.length : Int)).filter (fun _ => false) = [] from List.filter_eq_nil_iff.mpr fun _ _ => by simp]
      simp [e]
    · intro i hi
      have hi := rangeI_mem.mp hi
      obtain ⟨k, rfl⟩ : ∃ k : Nat, i = k := ⟨i.toNat, by omega⟩
      have hk : k < l.length := by omega
      have hat := L2.atI_nat (List.getElem?_eq_getElem hk)
      have := h l[k] (List.getElem_mem hk) s
      simp [bindE, hat, this]
theorem sm_lst {l : List D} (hl : l.length ≤ 1000) (h : ∀ d ∈ l, Sm n d) : Sm (n + 1) (.lst l) := sm_seq hl h (.inl rfl)
theorem sm_tup {l : List D} (hl : l.length ≤ 1000) (h : ∀ d ∈ l, Sm n d) : Sm (n + 1) (.tup l) := sm_seq hl h (.inr rfl)
theorem sm_so {o : Option Int} : Sm (n + 1) (soD o) := by
  cases o with
  | none => exact sm_non
  | some v => exact sm_int
theorem sm_st (hs : VS st) : Sm (n + 2) (stD st) := sm_tup (by rw [List.length_map]; have := hs.n4; omega) fun d hd => by
  obtain ⟨o, ho, rfl⟩ := List.mem_map.mp hd
  exact sm_so
theorem sm_rs (hs : VS st) (h : VR st rs) : Sm (n + 4) (rowsD rs) := sm_tup (by rw [List.length_map]; have := h.l9; omega) fun d hd => by
  obtain ⟨r, hr, rfl⟩ := List.mem_map.mp hd
  have h4 := hs.n4
  have hl := row_len h hr
  refine sm_tup (by rw [List.length_map]; omega) fun d hd => ?_
  obtain ⟨x, hx, rfl⟩ := List.mem_map.mp hd
  have := asc_len ((h.row r hr).2 x hx).1 ((h.row r hr).2 x hx).2
  refine sm_tup (by rw [List.length_map]; omega) fun d hd => ?_
  obtain ⟨i, hi, rfl⟩ := List.mem_map.mp hd
  exact sm_int
theorem sm_cls : Sm (n + 1) (.str (clsN st rs)) := by
  unfold clsN
  generalize hasN st rs .com = a
  generalize hasN st rs .acc = b
  generalize hasN st rs .wacc = c
  generalize hasN st rs .lacc = d
  generalize hasN st rs .lwacc = e
  cases a <;> cases b <;> cases c <;> cases d <;> cases e <;> first | exact sm_none | exact sm_P | exact sm_S | exact sm_lP | exact sm_lS
end
end K58

namespace K58
open PySem QB L2
section
variable {s : Store} {st : List (Option Int)} {rs : List (List (List Int))} {r : List (List Int)}
theorem rowAt_sh {t : Int} (ht : 0 ≤ t ∧ t < rs.length) : rowAt (shRs st rs) t = shR st (rowAt rs t) t := by
  rw [shRs_I]
  unfold rowAt
  have hk : t.toNat < (rangeI rs.length).length := by rw [rangeI_cast]; omega
  rw [List.getD_eq_getElem?_getD, List.getElem?_map, List.getElem?_eq_getElem hk]
  have : (rangeI (rs.length : Int))[t.toNat] = t := by unfold rangeI; simp; omega
  rw [this]; rfl
theorem susp_sh {o t : Int} (ho : 0 ≤ o ∧ o < st.length) : susp (shR st r t) o = if upB st o t = true then everyL st r t else [] := by
  unfold susp shR
  have hk : o.toNat < (rangeI st.length).length := by rw [rangeI_cast]; omega
  rw [List.getD_eq_getElem?_getD, List.getElem?_map, List.getElem?_eq_getElem hk]
  have : (rangeI (st.length : Int))[o.toNat] = o := by unfold rangeI; simp; omega
  rw [this]; rfl
theorem sh_len : (shRs st rs).length = rs.length := by unfold shRs; rw [List.length_map, placed_len]
theorem up_gone (h : VR st rs) {m : Int} (hm : m ∈ gones st) : upB st m ((rs.length : Int) - 1) = false := by
  obtain ⟨hm, hq⟩ := gones_mem.mp hm
  unfold upB
  cases ho : stopAt st m with
  | none => rw [ho] at hq; cases hq
  | some x =>
    have : some x ∈ st := by
      unfold stopAt at ho
      have hk : m.toNat < st.length := by omega
      rw [List.getD_eq_getElem?_getD, List.getElem?_eq_getElem hk] at ho
      have ho : st[m.toNat] = some x := ho
      rw [← ho]; exact List.getElem_mem hk
    have := h.last x this
    show decide ((rs.length : Int) - 1 < x) = false
    exact decide_eq_false (by omega)
end
end K58

namespace K58
open PySem QB L2
section
variable {s : Store} {st : List (Option Int)} {rs : List (List (List Int))} {r : List (List Int)}
def wl (st : List (Option Int)) (rs : List (List (List Int))) : D := .lst [stD st, rowsD rs]
@[simp] theorem rd_wl {e : PEnv} : rd (.v (wl st rs)) e s = .ok (wl st rs) e s := rfl
@[simp] theorem tup_wl {e : PEnv} {f g : D → M Unit} : tupA 2 (consT f (consT g nilT)) (wl st rs) e s = (f (stD st) e s).andThen fun _ => bnd (g (rowsD rs)) fun _ => rt () := by
  unfold wl
  rw [r_tupA_lst]
  rfl
@[simp] theorem ix_wl0 : ixD (wl st rs) (.int 0) = some (stD st) := rfl
@[simp] theorem ix_wl1 : ixD (wl st rs) (.int 1) = some (rowsD rs) := rfl
/-- the slots of the six guarantees -/
def hEnv (st : List (Option Int)) (rs : List (List (List Int))) (nm : Str) (k : Nat) (x9 x10 x11 x12 x13 : Option D) : PEnv :=
  [.val (wl st rs), .val (.str nm), .val (stD st), .val (rowsD rs), .val (.int st.length), .val (.int ((rs.length : Int) - 1)), .val (.lst ((lasts st).map D.int)), .val (.lst ((gones st).map D.int)), .val (.ref k), sl x9, sl x10, sl x11, sl x12, sl x13]
theorem by_ups {r : List (List Int)} {m t : Int} : ((rangeI st.length).filter fun a => upB st a t && decide (m ∈ susp r a)) = byL r m (ups st t) := by
  unfold byL ups
  rw [List.filter_filter]
  exact List.filter_congr fun a _ => Bool.and_comm _ _
theorem row_eq {p : Int × List (List Int)} (hp : p ∈ placed rs) : rowAt rs p.1 = p.2 := by
  unfold rowAt; rw [List.getD_eq_getElem?_getD, (placed_mem hp).2.2]; rfl
/-- what stands ill of m at t -/
def illT (st : List (Option Int)) (rs : List (List (List Int))) (m t : Int) : List Int := if upB st m t = true then byL (rowAt rs t) m (ups st t) else []
theorem sp_ill {m : Int} : spNow st rs m = ((rangeI rs.length).flatMap (illT st rs m)).isEmpty := by
  rw [Bool.eq_iff_iff]
  unfold spNow
  rw [List.all_eq_true, List.isEmpty_iff, List.flatMap_eq_nil_iff]
  constructor
  · intro h t ht
    rw [← placed_fst] at ht
    obtain ⟨p, hp, rfl⟩ := List.mem_map.mp ht
    have := h p hp
    unfold okNow at this
    unfold illT
    rw [row_eq hp]
    cases hu : upB st m p.1 with
    | false => rfl
    | true =>
      rw [hu] at this
      rw [if_pos rfl]
      cases hq : byL p.2 m (ups st p.1) with
      | nil => rfl
      | cons a l => rw [hq] at this; cases this
  · intro h p hp
    have := h p.1 (by rw [← placed_fst]; exact List.mem_map.mpr ⟨p, hp, rfl⟩)
    unfold illT at this
    rw [row_eq hp] at this
    unfold okNow
    cases hu : upB st m p.1 with
    | false => rfl
    | true => rw [hu, if_pos rfl] at this; rw [this]; rfl
theorem has_turn0 (hs : VS st) (h : VR st rs) {nm : Str} {m t : Int} {k : Nat} {B : List Int} {x12 x13 : Option D} (hB : B.length ≤ 1000) (hm : 0 ≤ m ∧ m < st.length) (ht : 0 ≤ t ∧ t < rs.length) {x10 : Option D} :
    (setM 12 (.int t) (hEnv st rs nm k (some (.int m)) x10 (some (.lst (.int 0 :: B.map fun _ => D.int 1))) x12 x13) s).toS (fun _ => l__law_has_0) = .nx (hEnv st rs nm k (some (.int m)) x10 (some (.lst (.int 0 :: (B ++ illT st rs m t).map fun _ => D.int 1))) (some (.int t)) x13) s := by
  have h4 := hs.n4
  have c1 : (-4611686018427387904 : Int) < st.length := by omega
  have c2 : (st.length : Int) < 4611686018427387904 := by omega
  have rl := rangeI_length (n := (st.length : Int))
  have hr := rowAt_at ht.1 ht.2
  have hrl := row_len h (rowAt_mem ht.1 ht.2)
  have hup := law_up_ok (s := s) (t := t) hm.1 hm.2
  unfold hEnv illT
  simp only [show ∀ d, sl (some d) = Slot.val d from fun _ => rfl]
  cases hu : upB st m t with
  | false =>
    rw [hu] at hup
    simp [l__law_has_0, hup]
  | true =>
    rw [hu] at hup
    simp [l__law_has_0, hup, c1, c2]
    rw [comp_if (g := D.int) (fun a => upB st a t && decide (m ∈ susp (rowAt rs t) a)) (fun _ => .int 1) (rangeI st.length) (by simp [← rngL_I]) (by rw [rl]; omega)]
    · rw [by_ups]
      have bl : (byL (rowAt rs t) m (ups st t)).length ≤ 4 := by
        have := by_len (r := rowAt rs t) (m := m) (os := ups st t)
        have := ups_len (st := st) (t := t); omega
      generalize byL (rowAt rs t) m (ups st t) = L at bl
      have z : szOk (B.length + 1 + L.length) = true := szOk_of (by omega)
      have ea : addD (.lst (.int 0 :: B.map fun _ => D.int 1)) (.lst (L.map fun _ => D.int 1)) = some (.lst (.int 0 :: ((B.map fun _ => D.int 1) ++ L.map fun _ => D.int 1))) := by
        show (if szOk ((D.int 0 :: B.map fun _ => D.int 1).length + (L.map fun _ => D.int 1).length) = true then _ else _) = _
        rw [List.length_cons, List.length_map, List.length_map, if_pos z]; rfl
      simp [ea]
    · intro a ha
      have ha := rangeI_mem.mp ha
      have hat : ixD (rowD (rowAt rs t)) (.int a) = some (setD (susp (rowAt rs t) a)) := susp_at ha.1 (by rw [hrl]; exact ha.2)
      have hua := law_up_ok (s := s) (t := t) ha.1 ha.2
      cases hq : upB st a t with
      | false => rw [hq] at hua; simp [bindE, hua]
      | true => rw [hq] at hua; simp [bindE, hua, hr, hat, in_set]
theorem has_loop0 (hs : VS st) (h : VR st rs) {nm : Str} {m : Int} {k : Nat} {x10 x12 x13 : Option D} (hm : 0 ≤ m ∧ m < st.length) :
    ∃ x12', forL (setM 12) l__law_has_0 (rngL 0 rs.length) (hEnv st rs nm k (some (.int m)) x10 (some (.lst [.int 0])) x12 x13) s = .nx (hEnv st rs nm k (some (.int m)) x10 (some (.lst (.int 0 :: ((rangeI rs.length).flatMap (illT st rs m)).map fun _ => D.int 1))) x12' x13) s := by
  have h4 := hs.n4; have h9 := h.l9
  obtain ⟨e', s', h1, ⟨x12', rfl⟩, rfl⟩ := for_inv (f := setM 12) (body := l__law_has_0) (g := D.int) (fun done e s' => (∃ x12, e = hEnv st rs nm k (some (.int m)) x10 (some (.lst (.int 0 :: (done.flatMap (illT st rs m)).map fun _ => D.int 1))) x12 x13) ∧ s' = s) (rangeI rs.length)
    (e := hEnv st rs nm k (some (.int m)) x10 (some (.lst [.int 0])) x12 x13) (s := s) ⟨⟨x12, rfl⟩, rfl⟩ (by
      rintro done t rest e s' hx ⟨⟨y, rfl⟩, rfl⟩
      have ht : t ∈ rangeI rs.length := by rw [hx]; simp
      have hd : done.length ≤ 9 := by
        have := congrArg List.length hx
        rw [rangeI_cast, List.length_append] at this; omega
      have il : ∀ u, (illT st rs m u).length ≤ 4 := fun u => by
        unfold illT
        split
        · have := by_len (r := rowAt rs u) (m := m) (os := ups st u)
          have := ups_len (st := st) (t := u); omega
        · simp
      have hl : (done.flatMap (illT st rs m)).length ≤ 4 * done.length := by
        clear hx
        clear hd
        induction done with
        | nil => simp
        | cons x l ih =>
          have := il x
          rw [List.flatMap_cons, List.length_append, List.length_cons]; omega
      have q := has_turn0 (s := s') (nm := nm) (k := k) (B := done.flatMap (illT st rs m)) (x10 := x10) (x12 := y) (x13 := x13) hs h (by omega) hm (rangeI_mem.mp ht)
      refine ⟨_, _, .inl q, ⟨some (.int t), ?_⟩, rfl⟩
      simp [List.flatMap_append])
  refine ⟨x12', ?_⟩
  rw [← rngL_I, Int.toNat_natCast] at h1
  exact h1
theorem has_turn1 (hs : VS st) (h : VR st rs) {nm : Str} {m : Int} {L : List Int} {x9 x10 x11 x12 x13 : Option D} (hL : L.length ≤ 1000) (hm : 0 ≤ m ∧ m < st.length) :
    ∃ x11' x12', (setM 9 (.int m) (hEnv st rs nm s.length x9 x10 x11 x12 x13) (s ++ [.lst (L.map D.int)])).toS (fun _ => l__law_has_1) = .nx (hEnv st rs nm s.length (some (.int m)) x10 x11' x12' x13) (s ++ [.lst ((L ++ if spNow st rs m = true then [m] else []).map D.int)]) := by
  have h9 := h.l9
  obtain ⟨x12', hl⟩ := has_loop0 (s := s ++ [.lst (L.map D.int)]) (nm := nm) (k := s.length) (x10 := x10) (x12 := x12) (x13 := x13) hs h hm
  refine ⟨some (.lst (.int 0 :: ((rangeI rs.length).flatMap (illT st rs m)).map fun _ => D.int 1)), x12', ?_⟩
  have rg : rngOk (rs.length : Int) = true := by simp [rngOk]; omega
  have z : szOk (L.length + 1) = true := szOk_of (by omega)
  rw [sp_ill]
  generalize (rangeI rs.length).flatMap (illT st rs m) = B at hl
  unfold hEnv at hl ⊢
  simp only [show ∀ d, sl (some d) = Slot.val d from fun _ => rfl] at hl ⊢
  have he : eqD (.lst (.int 0 :: B.map fun _ => D.int 1)) (.lst [.int 0]) = some (.bl B.isEmpty) := by
    have := eq_ints (ns := 0 :: B.map fun _ => 1) (ms := [0])
    simp only [List.map_cons, List.map_map, List.map_nil] at this
    rw [show (B.map fun _ => D.int 1) = B.map (D.int ∘ fun _ => 1) from rfl, this]
    cases B <;> simp
  simp [l__law_has_1, rg]
  rw [hl]
  cases B with
  | nil =>
    have he : eqD (.lst [.int 0]) (.lst [.int 0]) = some (.bl true) := he
    simp [he, z]
  | cons x l =>
    have he : eqD (.lst (.int 0 :: .int 1 :: l.map fun _ => D.int 1)) (.lst [.int 0]) = some (.bl false) := he
    simp [he]
end
end K58

namespace K58
open PySem QB L2
section
variable {s : Store} {st : List (Option Int)} {rs : List (List (List Int))} {r : List (List Int)}
def sameN : Nm → Nm → Bool
  | .com, .com => true
  | .wcom, .wcom => true
  | .acc, .acc => true
  | .wacc, .wacc => true
  | .lacc, .lacc => true
  | .lwacc, .lwacc => true
  | _, _ => false
theorem eq_n (n m : Nm) : eqD (.str (nmS n)) (.str (nmS m)) = some (.bl (sameN n m)) := by cases n <;> cases m <;> kernel_rfl
def spL (st : List (Option Int)) (rs : List (List (List Int))) : List Int := (rangeI st.length).filter (spNow st rs)
theorem has_loop1 (hs : VS st) (h : VR st rs) {nm : Str} {x9 x10 x11 x12 x13 : Option D} :
    ∃ x9' x11' x12', forL (setM 9) l__law_has_1 (rngL 0 st.length) (hEnv st rs nm s.length x9 x10 x11 x12 x13) (s ++ [.lst []]) = .nx (hEnv st rs nm s.length x9' x10 x11' x12' x13) (s ++ [.lst ((spL st rs).map D.int)]) := by
  have h4 := hs.n4
  obtain ⟨e', s', h1, ⟨x9', x11', x12', rfl⟩, rfl⟩ := for_inv (f := setM 9) (body := l__law_has_1) (g := D.int) (fun done e s' => (∃ x9 x11 x12, e = hEnv st rs nm s.length x9 x10 x11 x12 x13) ∧ s' = s ++ [.lst ((done.filter (spNow st rs)).map D.int)]) (rangeI st.length)
    (e := hEnv st rs nm s.length x9 x10 x11 x12 x13) (s := s ++ [.lst []]) ⟨⟨x9, x11, x12, rfl⟩, rfl⟩ (by
      rintro done m rest e s' hx ⟨⟨y9, y11, y12, rfl⟩, rfl⟩
      have hm : m ∈ rangeI st.length := by rw [hx]; simp
      have hd : done.length ≤ 4 := by
        have := congrArg List.length hx
        rw [rangeI_cast, List.length_append] at this; omega
      obtain ⟨x11', x12', q⟩ := has_turn1 (s := s) (nm := nm) (L := done.filter (spNow st rs)) (x9 := y9) (x10 := x10) (x11 := y11) (x12 := y12) (x13 := x13) hs h (by have := List.length_filter_le (spNow st rs) done; omega) (rangeI_mem.mp hm)
      refine ⟨_, _, .inl q, ⟨_, _, _, rfl⟩, ?_⟩
      rw [List.filter_append]
      have : [m].filter (spNow st rs) = if spNow st rs m = true then [m] else [] := by
        cases hq : spNow st rs m <;> simp [hq]
      rw [this])
  refine ⟨x9', x11', x12', ?_⟩
  rw [← rngL_I, Int.toNat_natCast] at h1
  exact h1
theorem acc_len : decide ((((spL st rs).length : Nat) : Int) = st.length) = accB st rs false false := by
  rw [Bool.eq_iff_iff, decide_eq_true_iff]
  show _ ↔ (rangeI st.length).all (fun m => spNow st rs m) = true
  rw [List.all_eq_true]
  unfold spL
  constructor
  · intro e m hm
    have : ((rangeI (st.length : Int)).filter (spNow st rs)).length = (rangeI (st.length : Int)).length := by rw [rangeI_cast]; omega
    exact List.length_filter_eq_length_iff.mp this m hm
  · intro e
    have : (rangeI (st.length : Int)).filter (spNow st rs) = rangeI st.length := List.filter_eq_self.mpr e
    rw [this, rangeI_cast]
theorem wacc_ne : (!((spL st rs).filter fun m => decide (m ∈ lasts st)).isEmpty) = accB st rs true false := by
  rw [Bool.eq_iff_iff]
  show _ ↔ (lasts st).any (fun m => spNow st rs m) = true
  rw [nfil_e, List.any_eq_true]
  constructor
  · rintro ⟨m, hm, hq⟩
    exact ⟨m, of_decide_eq_true hq, (List.mem_filter.mp hm).2⟩
  · rintro ⟨m, hm, hq⟩
    exact ⟨m, List.mem_filter.mpr ⟨rangeI_mem.mpr (lasts_mem.mp hm).1, hq⟩, decide_eq_true hm⟩
def laterL (st : List (Option Int)) (E : List (List Int)) : List Int := (lasts st).filter fun m => (byL E m (lasts st)).isEmpty
theorem lacc_len : decide ((((laterL st (endR rs)).length : Nat) : Int) = ((lasts st).length : Nat)) = accB st rs false true := by
  rw [Bool.eq_iff_iff, decide_eq_true_iff]
  show _ ↔ (lasts st).all (fun m => sparedB st rs m true) = true
  rw [List.all_eq_true]
  unfold laterL
  constructor
  · intro e m hm
    have e2 : ((lasts st).filter fun m => (byL (endR rs) m (lasts st)).isEmpty).length = (lasts st).length := by omega
    exact List.length_filter_eq_length_iff.mp e2 m hm
  · intro e
    have e2 : ((lasts st).filter fun m => (byL (endR rs) m (lasts st)).isEmpty) = lasts st := List.filter_eq_self.mpr e
    rw [e2]
theorem lwacc_ne : (!(laterL st (endR rs)).isEmpty) = accB st rs true true := by
  rw [Bool.eq_iff_iff]
  show _ ↔ (lasts st).any (fun m => sparedB st rs m true) = true
  unfold laterL
  rw [nfil_e, List.any_eq_true]
  rfl
theorem law_has_ok (hs : VS st) (h : VR st rs) (n : Nm) : ∃ t : Store, p__law_has [wl st rs, .str (nmS n)] s = .ok (.bl (hasN st rs n)) (s ++ t) := by
  have h4 := hs.n4; have h9 := h.l9; have h1 := h.l1
  have c1 : (-4611686018427387904 : Int) < st.length := by omega
  have c2 : (st.length : Int) < 4611686018427387904 := by omega
  have rl := rangeI_length (n := (st.length : Int))
  have ll : (lasts st).length ≤ st.length := flt_len
  have gl : (gones st).length ≤ st.length := flt_len
  have hr : ixD (rowsD rs) (.int ((rs.length : Int) - 1)) = some (rowD (endR rs)) := by
    rw [← end_rowAt h]; exact rowAt_at (by omega) (by omega)
  have hE := row_len h (end_mem h)
  have q1 : eqD (.str (nmS n)) (.str "complete") = some (.bl (sameN n .com)) := eq_n n .com
  have q2 : eqD (.str (nmS n)) (.str "weakly complete") = some (.bl (sameN n .wcom)) := eq_n n .wcom
  have q3 : eqD (.str (nmS n)) (.str "accurate") = some (.bl (sameN n .acc)) := eq_n n .acc
  have q4 : eqD (.str (nmS n)) (.str "weakly accurate") = some (.bl (sameN n .wacc)) := eq_n n .wacc
  have q5 : eqD (.str (nmS n)) (.str "later accurate") = some (.bl (sameN n .lacc)) := eq_n n .lacc
  have hat : ∀ o ∈ lasts st, ixD (rowD (endR rs)) (.int o) = some (setD (susp (endR rs) o)) := fun o ho => susp_at (lasts_mem.mp ho).1.1 (by rw [hE]; exact (lasts_mem.mp ho).1.2)
  obtain ⟨x9', x11', x12', hlp⟩ := has_loop1 (s := s) (nm := nmS n) (x9 := none) (x10 := none) (x11 := none) (x12 := none) (x13 := none) hs h
  have spl : (spL st rs).length ≤ st.length := flt_len
  unfold hEnv at hlp
  simp only [show sl none = Slot.no from rfl] at hlp
  generalize hnm : nmS n = nm at q1 q2 q3 q4 q5 hlp
  by_cases z : sameN n .com = true ∨ sameN n .wcom = true
  · refine ⟨[], ?_⟩
    rw [List.append_nil]
    simp [p__law_has, b__law_has, startE, c1, c2]
    rw [comp_if (g := D.int) (fun m => (stopAt st m).isNone) D.int (rangeI st.length) (by simp [← rngL_I]) (by rw [rl]; omega)]
    rotate_left
    · intro m hm
      have := st_at (st := st) (rangeI_mem.mp hm).1 (rangeI_mem.mp hm).2
      simp [bindE, this]
    simp [c1, c2]
    rw [comp_if (g := D.int) (fun m => !(stopAt st m).isNone) D.int (rangeI st.length) (by simp [← rngL_I]) (by rw [rl]; omega)]
    rotate_left
    · intro m hm
      have := st_at (st := st) (rangeI_mem.mp hm).1 (rangeI_mem.mp hm).2
      simp [bindE, this]
    rw [show ((rangeI st.length).filter fun m => (stopAt st m).isNone) = lasts st from rfl, show ((rangeI st.length).filter fun m => !(stopAt st m).isNone) = gones st from rfl]
    cases n with
    | com =>
      simp [q1, sameN]
      rw [comp_if (g := D.int) (fun m => !((lasts st).filter fun a => !decide (m ∈ susp (endR rs) a)).isEmpty) D.int (gones st) rfl (by omega)]
      · have e1 : ((gones st).filter fun m => !((lasts st).filter fun a => !decide (m ∈ susp (endR rs) a)).isEmpty).isEmpty = hasN st rs .com := kC_eq
        generalize ((gones st).filter fun m => !((lasts st).filter fun a => !decide (m ∈ susp (endR rs) a)).isEmpty) = G at e1
        simp [eq_ints_nil, emp_dec, e1]
      · intro m hm
        simp [bindE]
        rw [comp_if (g := D.int) (fun a => !decide (m ∈ susp (endR rs) a)) D.int (lasts st) rfl (by omega)]
        · generalize ((lasts st).filter fun a => !decide (m ∈ susp (endR rs) a)) = F
          simp [ne_ints_nil, emp_dec]
        · intro o ho
          simp [bindE, hr, hat o ho, in_set]
    | wcom =>
      simp [q1, q2, sameN]
      rw [comp_if (g := D.int) (fun m => ((lasts st).filter fun a => decide (m ∈ susp (endR rs) a)).isEmpty) D.int (gones st) rfl (by omega)]
      · have e1 : ((gones st).filter fun m => ((lasts st).filter fun a => decide (m ∈ susp (endR rs) a)).isEmpty).isEmpty = hasN st rs .wcom := kWC_eq
        generalize ((gones st).filter fun m => ((lasts st).filter fun a => decide (m ∈ susp (endR rs) a)).isEmpty) = G at e1
        simp [eq_ints_nil, emp_dec, e1]
      · intro m hm
        simp [bindE]
        rw [comp_if (g := D.int) (fun a => decide (m ∈ susp (endR rs) a)) D.int (lasts st) rfl (by omega)]
        · generalize ((lasts st).filter fun a => decide (m ∈ susp (endR rs) a)) = F
          simp [eq_ints_nil, emp_dec]
        · intro o ho
          simp [bindE, hr, hat o ho, in_set]
    | _ => simp [sameN] at z
  · have z1 : sameN n .com = false := by cases n <;> simp_all [sameN]
    have z2 : sameN n .wcom = false := by cases n <;> simp_all [sameN]
    refine ⟨[.lst ((spL st rs).map D.int)], ?_⟩
    simp [p__law_has, b__law_has, startE, c1, c2]
    rw [comp_if (g := D.int) (fun m => (stopAt st m).isNone) D.int (rangeI st.length) (by simp [← rngL_I]) (by rw [rl]; omega)]
    rotate_left
    · intro m hm
      have := st_at (st := st) (rangeI_mem.mp hm).1 (rangeI_mem.mp hm).2
      simp [bindE, this]
    simp [c1, c2]
    rw [comp_if (g := D.int) (fun m => !(stopAt st m).isNone) D.int (rangeI st.length) (by simp [← rngL_I]) (by rw [rl]; omega)]
    rotate_left
    · intro m hm
      have := st_at (st := st) (rangeI_mem.mp hm).1 (rangeI_mem.mp hm).2
      simp [bindE, this]
    rw [show ((rangeI st.length).filter fun m => (stopAt st m).isNone) = lasts st from rfl, show ((rangeI st.length).filter fun m => !(stopAt st m).isNone) = gones st from rfl]
    simp [q1, q2, z1, z2, c1, c2]
    rw [hlp]
    cases n with
    | com => simp [sameN] at z1
    | wcom => simp [sameN] at z2
    | acc =>
      have e1 : decide ((((spL st rs).length : Nat) : Int) = st.length) = hasN st rs .acc := acc_len
      simp [q3, sameN, ← e1]
    | wacc =>
      simp [q3, q4, sameN]
      rw [comp_if (g := D.int) (fun m => decide (m ∈ lasts st)) D.int (spL st rs) (by simp) (by omega)]
      · have e1 : (!((spL st rs).filter fun m => decide (m ∈ lasts st)).isEmpty) = hasN st rs .wacc := wacc_ne
        generalize ((spL st rs).filter fun m => decide (m ∈ lasts st)) = G at e1
        simp [ne_ints_nil, emp_dec, e1]
      · intro m hm
        simp [bindE, in_ints]
    | lacc =>
      simp [q3, q4, sameN]
      rw [comp_if (g := D.int) (fun m => (byL (endR rs) m (lasts st)).isEmpty) D.int (lasts st) rfl (by omega)]
      · have e1 : decide ((((laterL st (endR rs)).length : Nat) : Int) = ((lasts st).length : Nat)) = hasN st rs .lacc := lacc_len
        rw [show ((lasts st).filter fun m => (byL (endR rs) m (lasts st)).isEmpty) = laterL st (endR rs) from rfl]
        generalize laterL st (endR rs) = G at e1
        simp [q5, sameN, ← e1]
      · intro m hm
        simp [bindE]
        rw [comp_if (g := D.int) (fun a => decide (m ∈ susp (endR rs) a)) D.int (lasts st) rfl (by omega)]
        · rw [show ((lasts st).filter fun a => decide (m ∈ susp (endR rs) a)) = byL (endR rs) m (lasts st) from rfl]
          generalize byL (endR rs) m (lasts st) = F
          simp [eq_ints_nil, emp_dec]
        · intro o ho
          simp [bindE, hr, hat o ho, in_set]
    | lwacc =>
      simp [q3, q4, sameN]
      rw [comp_if (g := D.int) (fun m => (byL (endR rs) m (lasts st)).isEmpty) D.int (lasts st) rfl (by omega)]
      · have e1 : (!(laterL st (endR rs)).isEmpty) = hasN st rs .lwacc := lwacc_ne
        rw [show ((lasts st).filter fun m => (byL (endR rs) m (lasts st)).isEmpty) = laterL st (endR rs) from rfl]
        generalize laterL st (endR rs) = G at e1
        simp [q5, sameN, ne_ints_nil, emp_dec, e1]
      · intro m hm
        simp [bindE]
        rw [comp_if (g := D.int) (fun a => decide (m ∈ susp (endR rs) a)) D.int (lasts st) rfl (by omega)]
        · rw [show ((lasts st).filter fun a => decide (m ∈ susp (endR rs) a)) = byL (endR rs) m (lasts st) from rfl]
          generalize byL (endR rs) m (lasts st) = F
          simp [eq_ints_nil, emp_dec]
        · intro o ho
          simp [bindE, hr, hat o ho, in_set]
end
end K58

namespace K58
open PySem QB L2
section
variable {s : Store} {st : List (Option Int)} {rs : List (List (List Int))} {r : List (List Int)}
theorem law_has_up (hs : VS st) (h : VR st rs) (n : Nm) : ∃ s', p__law_has [wl st rs, .str (nmS n)] s = .ok (.bl (hasN st rs n)) s' ∧ ∃ t, s' = s ++ t := by
  obtain ⟨t, e⟩ := law_has_ok (s := s) hs h n
  exact ⟨_, e, t, rfl⟩
theorem law_class_ok (hs : VS st) (h : VR st rs) : ∃ s', p__law_class [wl st rs] s = .ok (.str (clsN st rs)) s' ∧ ∃ t, s' = s ++ t := by
  obtain ⟨s0, w0, t0, e0⟩ := law_has_up (s := s) hs h .com
  obtain ⟨s1, w1, t1, e1⟩ := law_has_up (s := s0) hs h .acc
  obtain ⟨s2, w2, t2, e2⟩ := law_has_up (s := s1) hs h .wacc
  obtain ⟨s3, w3, t3, e3⟩ := law_has_up (s := s2) hs h .lacc
  obtain ⟨s4, w4, t4, e4⟩ := law_has_up (s := s3) hs h .lwacc
  have w0 : p__law_has [wl st rs, .str "complete"] s = _ := w0
  have w1 : p__law_has [wl st rs, .str "accurate"] s0 = _ := w1
  have w2 : p__law_has [wl st rs, .str "weakly accurate"] s1 = _ := w2
  have w3 : p__law_has [wl st rs, .str "later accurate"] s2 = _ := w3
  have w4 : p__law_has [wl st rs, .str "later weakly accurate"] s3 = _ := w4
  unfold clsN
  cases b0 : hasN st rs .com with
  | false =>
    rw [b0] at w0
    exact ⟨s0, by simp [p__law_class, b__law_class, startE, w0, clsW], t0, e0⟩
  | true =>
    rw [b0] at w0
    cases b1 : hasN st rs .acc with
    | true =>
      rw [b1] at w1
      exact ⟨s1, by simp [p__law_class, b__law_class, l__law_class_0, startE, w0, w1, clsW], t0 ++ t1, by rw [e1, e0, List.append_assoc]⟩
    | false =>
      rw [b1] at w1
      cases b2 : hasN st rs .wacc with
      | true =>
        rw [b2] at w2
        exact ⟨s2, by simp [p__law_class, b__law_class, l__law_class_0, startE, w0, w1, w2, clsW], t0 ++ t1 ++ t2, by rw [e2, e1, e0]; simp⟩
      | false =>
        rw [b2] at w2
        cases b3 : hasN st rs .lacc with
        | true =>
          rw [b3] at w3
          exact ⟨s3, by simp [p__law_class, b__law_class, l__law_class_0, startE, w0, w1, w2, w3, clsW], t0 ++ t1 ++ t2 ++ t3, by rw [e3, e2, e1, e0]; simp⟩
        | false =>
          rw [b3] at w3
          cases b4 : hasN st rs .lwacc <;> rw [b4] at w4 <;> exact ⟨s4, by simp [p__law_class, b__law_class, l__law_class_0, startE, w0, w1, w2, w3, w4, clsW], t0 ++ t1 ++ t2 ++ t3 ++ t4, by rw [e4, e3, e2, e1, e0]; simp⟩
theorem law_leader_ok (hs : VS st) (h : VR st rs) {t m : Int} (h0 : 0 ≤ t) (hm : 0 ≤ m ∧ m < st.length) : p__law_leader_of [wl st rs, .int t, .int m] s = .ok (soD (leadL (rowAt rs (capT rs t)) m)) s := by
  have h4 := hs.n4
  have hc := capT_b h h0
  have hr := rowAt_at hc.1 hc.2
  have hrl := row_len h (rowAt_mem hc.1 hc.2)
  have c1 : (-4611686018427387904 : Int) < st.length := by omega
  have c2 : (st.length : Int) < 4611686018427387904 := by omega
  have rl := rangeI_length (n := (st.length : Int))
  have hat : ixD (rowD (rowAt rs (capT rs t))) (.int m) = some (setD (susp (rowAt rs (capT rs t)) m)) := susp_at hm.1 (by rw [hrl]; exact hm.2)
  have ec : (if (rs.length : Int) - 1 < t then (rs.length : Int) - 1 else t) = capT rs t := rfl
  simp [p__law_leader_of, b__law_leader_of, startE, c1, c2, ec, hr, hat]
  rw [comp_if (g := D.int) (fun o => !decide (o ∈ susp (rowAt rs (capT rs t)) m)) D.int (rangeI st.length) (by simp [← rngL_I]) (by rw [rl]; omega)]
  · unfold leadL
    rw [hrl]
    cases hq : (rangeI st.length).filter fun o => !decide (o ∈ susp (rowAt rs (capT rs t)) m) with
    | nil => simp [soD]
    | cons a t =>
      have := ne_ints_nil (ns := a :: t)
      simp only [List.map_cons] at this
      simp [this, soD]
  · intro o ho
    simp [bindE, in_set]
end
end K58

namespace K58
open PySem QB L2
section
variable {s : Store} {st : List (Option Int)} {rs : List (List (List Int))} {r : List (List Int)}
theorem shared_turn (hs : VS st) (h : VR st rs) {k : Nat} {t : Int} {x5 x6 x7 : Option D} {L : List D} (hk : s[k]? = some (.lst L)) (hL : L.length ≤ 1000) (ht : 0 ≤ t ∧ t < rs.length) :
    ∃ x6' x7', (setM 5 (.int t) [.val (wl st rs), .val (stD st), .val (rowsD rs), .val (.int st.length), .val (.ref k), sl x5, sl x6, sl x7, .no, .no] s).toS (fun _ => l__law_shared_0) =
      .nx [.val (wl st rs), .val (stD st), .val (rowsD rs), .val (.int st.length), .val (.ref k), sl (some (.int t)), sl x6', sl x7', .no, .no] (s.set k (.lst (L ++ [rowD (shR st (rowAt rs t) t)]))) := by
  have h4 := hs.n4
  have c1 : (-4611686018427387904 : Int) < st.length := by omega
  have c2 : (st.length : Int) < 4611686018427387904 := by omega
  have rl := rangeI_length (n := (st.length : Int))
  have hr := rowAt_at ht.1 ht.2
  have hrl := row_len h (rowAt_mem ht.1 ht.2)
  have z : szOk (L.length + 1) = true := szOk_of (by omega)
  refine ⟨some (.lst ((ups st t).map D.int)), some (setD (everyL st (rowAt rs t) t)), ?_⟩
  simp only [show ∀ d, sl (some d) = Slot.val d from fun _ => rfl]
  have ul : (ups st t).length ≤ st.length := ups_len
  simp [l__law_shared_0, c1, c2]
  rw [comp_if (g := D.int) (fun m => upB st m t) D.int (rangeI st.length) (by simp [← rngL_I]) (by rw [rl]; omega)]
  rotate_left
  · intro m hm
    have hup := law_up_ok (s := s) (t := t) (rangeI_mem.mp hm).1 (rangeI_mem.mp hm).2
    simp [bindE, hup]
  rw [show ((rangeI st.length).filter fun m => upB st m t) = ups st t from rfl]
  simp [c1, c2]
  rw [comp_if (g := D.int) (fun m => !upB st m t && !(byL (rowAt rs t) m (ups st t)).isEmpty) D.int (rangeI st.length) (by simp [← rngL_I]) (by rw [rl]; omega)]
  rotate_left
  · intro m hm
    have hi := inUp (t := t) (rangeI_mem.mp hm)
    cases hq : upB st m t with
    | true => simp [bindE, in_ints, hi, hq]
    | false =>
      simp [bindE, in_ints, hi, hq]
      rw [comp_if (g := D.int) (fun a => decide (m ∈ susp (rowAt rs t) a)) D.int (ups st t) rfl (by omega)]
      · rw [show ((ups st t).filter fun a => decide (m ∈ susp (rowAt rs t) a)) = byL (rowAt rs t) m (ups st t) from rfl]
        generalize byL (rowAt rs t) m (ups st t) = F
        simp [ne_ints_nil, emp_dec]
      · intro a ha
        have ha := (ups_mem.mp ha).1
        have hat : ixD (rowD (rowAt rs t)) (.int a) = some (setD (susp (rowAt rs t) a)) := susp_at ha.1 (by rw [hrl]; exact ha.2)
        simp [bindE, hr, hat, in_set]
  rw [show ((rangeI st.length).filter fun m => !upB st m t && !(byL (rowAt rs t) m (ups st t)).isEmpty) = everyL st (rowAt rs t) t from rfl]
  rw [show setD (everyL st (rowAt rs t) t) = .tup ((everyL st (rowAt rs t) t).map D.int) from rfl]
  simp [c1, c2, hk]
  rw [comp_all (g := D.int) (fun m => setD (if upB st m t = true then everyL st (rowAt rs t) t else [])) (rangeI st.length) (by simp [← rngL_I]) (by rw [rl]; omega)]
  · have e : D.tup ((rangeI st.length).map fun m => setD (if upB st m t = true then everyL st (rowAt rs t) t else [])) = rowD (shR st (rowAt rs t) t) := by unfold rowD shR; rw [List.map_map]; rfl
    simp [hk, z, e]
  · intro m hm
    have hi := inUp (t := t) (rangeI_mem.mp hm)
    cases hq : upB st m t with
    | true => simp [bindE, in_ints, hi, hq, setD]
    | false => simp [bindE, in_ints, hi, hq, setD]
theorem law_shared_ok (hs : VS st) (h : VR st rs) : ∃ t : Store, p__law_shared [wl st rs] s = .ok (wl st (shRs st rs)) (s ++ t) := by
  have h9 := h.l9
  have c1 : (-4611686018427387904 : Int) < rs.length := by omega
  have c2 : (rs.length : Int) < 4611686018427387904 := by omega
  obtain ⟨e', s', hr, ⟨x5, x6, x7, rfl⟩, rfl⟩ := for_inv (f := setM 5) (body := l__law_shared_0) (g := D.int)
    (fun done e s' => (∃ x5 x6 x7, e = [.val (wl st rs), .val (stD st), .val (rowsD rs), .val (.int st.length), .val (.ref s.length), sl x5, sl x6, sl x7, .no, .no]) ∧ s' = s ++ [.lst (done.map fun t => rowD (shR st (rowAt rs t) t))]) (rangeI rs.length)
    (e := [.val (wl st rs), .val (stD st), .val (rowsD rs), .val (.int st.length), .val (.ref s.length), sl none, sl none, sl none, .no, .no]) (s := s ++ [.lst []]) ⟨⟨none, none, none, rfl⟩, rfl⟩ (by
      rintro done t rest e s' hx ⟨⟨x5, x6, x7, rfl⟩, rfl⟩
      have ht : t ∈ rangeI rs.length := by rw [hx]; simp
      have hd : done.length ≤ 9 := by
        have := congrArg List.length hx
        rw [rangeI_cast, List.length_append] at this; simp at this; omega
      obtain ⟨x6', x7', hturn⟩ := shared_turn (s := s ++ [.lst (done.map fun t => rowD (shR st (rowAt rs t) t))]) (k := s.length) (x5 := x5) (x6 := x6) (x7 := x7) hs h get_push (by rw [List.length_map]; omega) (rangeI_mem.mp ht)
      refine ⟨_, _, .inl hturn, ⟨_, _, _, rfl⟩, ?_⟩
      rw [set_mid, List.map_append]
      simp)
  refine ⟨[.lst ((rangeI rs.length).map fun t => rowD (shR st (rowAt rs t) t))], ?_⟩
  simp only [show sl none = Slot.no from rfl] at hr
  rw [← rngL_I, Int.toNat_natCast] at hr
  have e : D.tup ((rangeI rs.length).map fun t => rowD (shR st (rowAt rs t) t)) = rowsD (shRs st rs) := by unfold rowsD; rw [shRs_I, List.map_map]; rfl
  simp [p__law_shared, b__law_shared, startE, c1, c2]
  rw [hr]
  simp [e, wl]
end
end K58

namespace K58
open PySem QB L2
section
variable {s : Store} {st : List (Option Int)} {rs : List (List (List Int))} {r : List (List Int)}
def oneB (st : List (Option Int)) (rs : List (List (List Int))) (a t : Int) : Bool := (leadL (rowAt rs t) a).isSome && (inLs st (leadL (rowAt rs t) a) && (headsL st rs t).all fun h => decide (h = leadL (rowAt rs t) a))
def oneT (st : List (Option Int)) (rs : List (List (List Int))) (a t : Int) : Option Int := if oneB st rs a t = true then leadL (rowAt rs t) a else none
theorem oneT_iff {a t L : Int} {tl : List Int} (hl : lasts st = a :: tl) : oneT st rs a t = some L ↔ leadL (rowAt rs t) a = some L ∧ L ∈ lasts st ∧ gd st rs L t = true := by
  unfold oneT oneB headsL gd
  rw [List.all_map]
  cases ho : leadL (rowAt rs t) a with
  | none => simp
  | some M =>
    simp only [Option.isSome_some, Bool.true_and]
    constructor
    · intro h
      split at h
      · rename_i hh
        cases h
        obtain ⟨h1, h2⟩ := (Bool.and_eq_true _ _).mp hh
        exact ⟨rfl, of_decide_eq_true h1, List.all_eq_true.mpr fun m hm => List.all_eq_true.mp h2 m hm⟩
      · cases h
    · rintro ⟨e, h1, h2⟩
      cases e
      rw [if_pos]
      rw [Bool.and_eq_true]
      exact ⟨decide_eq_true h1, List.all_eq_true.mpr fun m hm => List.all_eq_true.mp h2 m hm⟩
theorem settles_turn (hs : VS st) (h : VR st rs) {k : Nat} {a t : Int} {tl : List Int} (hl : lasts st = a :: tl) {x5 x6 x7 x8 : Option D} {L : List D} (hk : s[k]? = some (.lst L)) (hL : L.length ≤ 1000) (ht : 0 ≤ t ∧ t < rs.length) :
    ∃ x7' x8', (setM 5 (.int t) [.val (wl st rs), .val (stD st), .val (.int ((rs.length : Int) - 1)), .val (.lst ((lasts st).map D.int)), .val (.ref k), sl x5, sl x6, sl x7, sl x8, .no, .no] s).toS (fun _ => l__law_settles_0) =
      .nx [.val (wl st rs), .val (stD st), .val (.int ((rs.length : Int) - 1)), .val (.lst ((lasts st).map D.int)), .val (.ref k), sl (some (.int t)), sl x6, sl x7', sl x8', .no, .no] (s.set k (.lst (L ++ [soD (oneT st rs a t)]))) := by
  have h4 := hs.n4
  have ll : (lasts st).length ≤ st.length := flt_len
  have hlen : (headsL st rs t).length ≤ 4 := by unfold headsL; rw [List.length_map]; omega
  have z : szOk (L.length + 1) = true := szOk_of (by omega)
  refine ⟨some (.lst ((headsL st rs t).map soD)), some (soD (leadL (rowAt rs t) a)), ?_⟩
  simp only [show ∀ d, sl (some d) = Slot.val d from fun _ => rfl]
  simp [l__law_settles_0]
  rw [comp_all (g := D.int) (fun m => soD (leadL (rowAt rs t) m)) (lasts st) rfl (by omega)]
  rotate_left
  · intro m hm
    have := law_leader_ok (s := s) hs h (t := t) ht.1 (lasts_mem.mp hm).1
    rw [capT_in ht] at this
    simp [bindE, this]
  have e1 : ((lasts st).map fun m => soD (leadL (rowAt rs t) m)) = (headsL st rs t).map soD := by unfold headsL; rw [List.map_map]; rfl
  rw [e1]
  have hat : atI ((headsL st rs t).map soD) 0 = some (soD (leadL (rowAt rs t) a)) := by unfold headsL; rw [hl, List.map_cons, List.map_cons]; exact r_at0
  unfold oneT oneB
  generalize headsL st rs t = H at hat hlen
  generalize leadL (rowAt rs t) a = o at hat
  have hem : ((H.filter fun h => !decide (h = o))).isEmpty = H.all fun h => decide (h = o) := by
    rw [fil_all]
    congr 1
    funext h
    cases decide (h = o) <;> rfl
  generalize (H.all fun h => decide (h = o)) = G at hem
  have hi : inD false (soD o) (.lst ((lasts st).map D.int)) = some (.bl (inLs st o)) := by rw [in_so]; cases o <;> simp [inLs]
  simp [hat, hk]
  cases o with
  | none => simp [hk, z, soD]
  | some v =>
    simp [hi, hk]
    cases hv : inLs st (some v) with
    | false => simp [hk, z, soD]
    | true =>
      simp [hk]
      rw [comp_if (g := soD) (fun h => !decide (h = some v)) soD H rfl (by omega)]
      · generalize hF : (H.filter fun h => !decide (h = some v)) = F at hem
        cases G <;> simp [eq_nil_of ok_sos, hem, hk, z, soD]
      · intro x hx
        simp [bindE, ne_so]
end
end K58

namespace K58
open PySem QB L2
section
variable {s : Store} {st : List (Option Int)} {rs : List (List (List Int))} {r : List (List Int)}
def onesD (st : List (Option Int)) (rs : List (List (List Int))) (a : Int) : List D := (rangeI rs.length).map fun t => soD (oneT st rs a t)
theorem ones_at {a i : Int} (hi : 0 ≤ i ∧ i < rs.length) : atI (onesD st rs a) i = some (soD (oneT st rs a i)) := by
  obtain ⟨k, rfl⟩ : ∃ k : Nat, i = k := ⟨i.toNat, by omega⟩
  have hk : k < rs.length := by omega
  have e : (onesD st rs a)[k]? = some (soD (oneT st rs a k)) := by
    unfold onesD rangeI
    rw [List.map_map, List.getElem?_map, List.getElem?_range (by omega)]; rfl
  exact L2.atI_nat e
def eEnv (st : List (Option Int)) (rs : List (List (List Int))) (k : Nat) (j : Int) (x5 x7 x8 : Option D) : PEnv :=
  [.val (wl st rs), .val (stD st), .val (.int ((rs.length : Int) - 1)), .val (.lst ((lasts st).map D.int)), .val (.ref k), sl x5, .val (.int j), sl x7, sl x8, .no, .no]
theorem while_yes {c : M Bool} {body : SM} {n : Nat} {e : PEnv} (h : c e s = .ok true e s) : whileGo c body (n + 1) e s = turnS (body e s) (whileGo c body n) := by
  show (c e s).toS _ = _
  rw [h]; rfl
theorem while_no {c : M Bool} {body : SM} {n : Nat} {e : PEnv} (h : c e s = .ok false e s) : whileGo c body (n + 1) e s = .nx e s := by
  show (c e s).toS _ = _
  rw [h]; rfl
def settC : M Bool := andT (boolM (op2M gtD (bvarM 6) (toB (rt (.int 0))))) (andT (boolM (op2M (isD true) (toB (op2M ixD (bvarM 4) (toB (op2M subD (bvarM 6) (toB (rt (.int 1))))))) (toB (rt .non)))) (boolM (op2M eqD (toB (op2M ixD (bvarM 4) (toB (op2M subD (bvarM 6) (toB (rt (.int 1))))))) (toB (op2M ixD (bvarM 4) (bvarM 2))))))
theorem settC_0 {k : Nat} {x5 x7 x8 : Option D} : settC (eEnv st rs k 0 x5 x7 x8) s = .ok false (eEnv st rs k 0 x5 x7 x8) s := by
  unfold eEnv
  simp [settC]
theorem settC_s (h : VR st rs) {k : Nat} {a L j : Int} {x5 x7 x8 : Option D} (hk : s[k]? = some (.lst (onesD st rs a))) (hlast : oneT st rs a ((rs.length : Int) - 1) = some L) (hj : 0 ≤ j ∧ j < (rs.length : Int) - 1) :
    settC (eEnv st rs k (j + 1) x5 x7 x8) s = .ok (decide (oneT st rs a j = some L)) (eEnv st rs k (j + 1) x5 x7 x8) s := by
  have h1 := h.l1
  have e1 : (j + 1) - 1 = j := by omega
  have a1 := ones_at (st := st) (rs := rs) (a := a) (i := j) ⟨by omega, by omega⟩
  have a2 := ones_at (st := st) (rs := rs) (a := a) (i := (rs.length : Int) - 1) ⟨by omega, by omega⟩
  rw [hlast] at a2
  have pos : (0 : Int) < j + 1 := by omega
  unfold eEnv
  cases ho : oneT st rs a j with
  | none =>
    rw [ho] at a1
    rw [show soD none = .non from rfl] at a1
    simp [settC, hk, a1, a2, e1, pos]
  | some v =>
    rw [ho] at a1
    rw [show soD (some v) = .int v from rfl] at a1
    rw [show soD (some L) = .int L from rfl] at a2
    simp [settC, hk, a1, a2, e1, pos]
theorem back_while (h : VR st rs) {k : Nat} {a L : Int} {x5 x7 x8 : Option D} (hk : s[k]? = some (.lst (onesD st rs a))) (hlast : oneT st rs a ((rs.length : Int) - 1) = some L) :
    ∀ (j f : Nat), j ≤ rs.length - 1 → ∃ i : Nat, i ≤ j ∧ (∀ m : Nat, i ≤ m → m < j → oneT st rs a m = some L) ∧ (∀ m : Nat, i = m + 1 → oneT st rs a m ≠ some L) ∧
      whileGo settC l__law_settles_1 (f + j + 1) (eEnv st rs k j x5 x7 x8) s = .nx (eEnv st rs k i x5 x7 x8) s
  | 0, f, _ => ⟨0, Nat.le_refl _, fun m _ hm => by omega, fun m hm => by omega, while_no settC_0⟩
  | j + 1, f, hj => by
    have h1 := h.l1
    have hc := settC_s (x5 := x5) (x7 := x7) (x8 := x8) h hk hlast (j := j) ⟨by omega, by omega⟩
    have e2 : ((j + 1 : Nat) : Int) = (j : Int) + 1 := by omega
    rw [e2]
    by_cases q : oneT st rs a j = some L
    · obtain ⟨i, hi, k1, k2, hw⟩ := back_while h hk hlast (x5 := x5) (x7 := x7) (x8 := x8) j f (by omega)
      refine ⟨i, by omega, fun m h1 h2 => ?_, k2, ?_⟩
      · by_cases e : m = j
        · rw [e]; exact q
        · exact k1 m h1 (by omega)
      · rw [decide_eq_true q] at hc
        rw [show f + (j + 1) + 1 = (f + j + 1) + 1 by omega, while_yes hc]
        have ht : l__law_settles_1 (eEnv st rs k ((j : Int) + 1) x5 x7 x8) s = .nx (eEnv st rs k (j : Int) x5 x7 x8) s := by
          have e1 : ((j : Int) + 1) - 1 = j := by omega
          unfold eEnv
          simp [l__law_settles_1, e1]
        rw [ht, turn_nx]
        exact hw
    · refine ⟨j + 1, Nat.le_refl _, fun m _ hm => by omega, fun m hm => ?_, ?_⟩
      · have : m = j := by omega
        rw [this]; exact q
      · rw [decide_eq_false q] at hc
        rw [while_no hc, e2]
theorem law_settles_ok (hs : VS st) (h : VR st rs) : ∃ t : Store, p__law_settles [wl st rs] s = .ok (soD (setlT st rs)) (s ++ t) := by
  have h4 := hs.n4; have h9 := h.l9; have h1 := h.l1
  have c1 : (-4611686018427387904 : Int) < st.length := by omega
  have c2 : (st.length : Int) < 4611686018427387904 := by omega
  have rl := rangeI_length (n := (st.length : Int))
  have rg : rngOk (rs.length : Int) = true := by simp [rngOk]; omega
  obtain ⟨a, tl, hl⟩ := lasts_ne hs
  refine ⟨[.lst (onesD st rs a)], ?_⟩
  obtain ⟨e', s', hr, ⟨x5, x7, x8, rfl⟩, rfl⟩ := for_inv (f := setM 5) (body := l__law_settles_0) (g := D.int)
    (fun done e s' => (∃ x5 x7 x8, e = [.val (wl st rs), .val (stD st), .val (.int ((rs.length : Int) - 1)), .val (.lst ((lasts st).map D.int)), .val (.ref s.length), sl x5, sl none, sl x7, sl x8, .no, .no]) ∧ s' = s ++ [.lst (done.map fun t => soD (oneT st rs a t))]) (rangeI rs.length)
    (e := [.val (wl st rs), .val (stD st), .val (.int ((rs.length : Int) - 1)), .val (.lst ((lasts st).map D.int)), .val (.ref s.length), sl none, sl none, sl none, sl none, .no, .no]) (s := s ++ [.lst []]) ⟨⟨none, none, none, rfl⟩, rfl⟩ (by
      rintro done t rest e s' hx ⟨⟨x5, x7, x8, rfl⟩, rfl⟩
      have ht : t ∈ rangeI rs.length := by rw [hx]; simp
      have hd : done.length ≤ 9 := by
        have := congrArg List.length hx
        rw [rangeI_cast, List.length_append] at this; simp at this; omega
      obtain ⟨x7', x8', hturn⟩ := settles_turn (s := s ++ [.lst (done.map fun t => soD (oneT st rs a t))]) (k := s.length) (x5 := x5) (x6 := none) (x7 := x7) (x8 := x8) hs h hl get_push (by rw [List.length_map]; omega) (rangeI_mem.mp ht)
      refine ⟨_, _, .inl hturn, ⟨_, _, _, rfl⟩, ?_⟩
      rw [set_mid, List.map_append]
      rfl)
  simp only [show sl none = Slot.no from rfl] at hr
  rw [← rngL_I, Int.toNat_natCast] at hr
  rw [show ((rangeI rs.length).map fun t => soD (oneT st rs a t)) = onesD st rs a from rfl] at hr
  have hk : (s ++ [Cell.lst (onesD st rs a)])[s.length]? = some (.lst (onesD st rs a)) := get_push
  have hlast := ones_at (st := st) (rs := rs) (a := a) (i := (rs.length : Int) - 1) ⟨by omega, by omega⟩
  have herow := end_rowAt h
  simp [p__law_settles, b__law_settles, startE, c1, c2]
  rw [comp_if (g := D.int) (fun m => (stopAt st m).isNone) D.int (rangeI st.length) (by simp [← rngL_I]) (by rw [rl]; omega)]
  rotate_left
  · intro m hm
    have := st_at (st := st) (rangeI_mem.mp hm).1 (rangeI_mem.mp hm).2
    simp [bindE, this]
  rw [show ((rangeI st.length).filter fun m => (stopAt st m).isNone) = lasts st from rfl]
  simp [rg]
  rw [hr]
  cases ho : oneT st rs a ((rs.length : Int) - 1) with
  | none =>
    rw [ho] at hlast
    rw [show soD none = .non from rfl] at hlast
    have hn : setlT st rs = none := by
      cases hq : setlT st rs with
      | none => rfl
      | some x =>
        exfalso
        unfold setlT at hq
        rw [hl] at hq
        have hq : (match leadL (endR rs) a with
          | none => none
          | some L => if L ∈ a :: tl then (if (goodsL st rs L).getLastD false = true then some (maxL (0 :: badT (goodsL st rs L))) else none) else none) = some x := hq
        cases hL : leadL (endR rs) a with
        | none => rw [hL] at hq; cases hq
        | some L =>
          rw [hL] at hq
          dsimp only at hq
          split at hq
          · rename_i hm
            split at hq
            · rename_i hg
              rw [goods_last h] at hg
              have := (oneT_iff hl).mpr ⟨by rw [herow]; exact hL, by rw [hl]; exact hm, hg⟩
              rw [this] at ho; cases ho
            · cases hq
          · cases hq
    simp [hlast, hn, soD]
  | some L =>
    obtain ⟨i, hi, k1, k2, hw⟩ := back_while (s := s ++ [Cell.lst (onesD st rs a)]) h hk ho (x5 := x5) (x7 := x7) (x8 := x8) (rs.length - 1) (1000000 - (rs.length - 1) - 1) (Nat.le_refl _)
    obtain ⟨q1, q2, q3⟩ := (oneT_iff hl).mp ho
    rw [herow] at q1
    have hset : setlT st rs = some (i : Int) := setl_some h hl q1 q2 (k := i) (by omega) (fun j hj1 hj2 => by
        by_cases e : j = rs.length - 1
        · have : (j : Int) = (rs.length : Int) - 1 := by omega
          rw [this]; exact q3
        · exact ((oneT_iff hl).mp (k1 j hj1 (by omega))).2.2) (fun j hj => by
        have := k2 j hj
        cases hg : gd st rs L j with
        | false => rfl
        | true =>
          exfalso
          have ha := of_decide_eq_true (List.all_eq_true.mp hg a (by rw [hl]; exact List.mem_cons_self))
          exact this ((oneT_iff hl).mpr ⟨ha, q2, hg⟩))
    rw [ho] at hlast
    rw [show soD (some L) = .int L from rfl] at hlast
    rw [hset]
    have e9 : 1000000 - (rs.length - 1) - 1 + (rs.length - 1) + 1 = 1000000 := by omega
    have e8 : ((rs.length - 1 : Nat) : Int) = (rs.length : Int) - 1 := by omega
    rw [e9, e8] at hw
    unfold eEnv settC at hw
    simp [hlast]
    rw [hw]
    simp [soD]
end
end K58

namespace K58
open PySem QB L2
section
variable {s : Store} {st : List (Option Int)} {rs : List (List (List Int))} {r : List (List Int)}
theorem any_up (hs : VS st) (t : Int) : ∃ a : Int, 0 ≤ a ∧ a < st.length ∧ upB st a t = true := by
  obtain ⟨a, tl, hl⟩ := lasts_ne hs
  have ha : a ∈ lasts st := by rw [hl]; exact List.mem_cons_self
  exact ⟨a, (lasts_mem.mp ha).1.1, (lasts_mem.mp ha).1.2, upB_last ha⟩
theorem mem_every {m t : Int} : m ∈ everyL st r t ↔ (0 ≤ m ∧ m < st.length) ∧ upB st m t = false ∧ ∃ o : Int, (0 ≤ o ∧ o < st.length) ∧ upB st o t = true ∧ m ∈ susp r o := by
  unfold everyL
  rw [List.mem_filter, rangeI_mem, Bool.and_eq_true]
  unfold byL
  rw [nfil_e]
  constructor
  · rintro ⟨h1, h2, o, ho, h3⟩
    obtain ⟨h4, h5⟩ := ups_mem.mp ho
    exact ⟨h1, by simpa using h2, o, h4, h5, of_decide_eq_true h3⟩
  · rintro ⟨h1, h2, o, h3, h4, h5⟩
    exact ⟨h1, by rw [h2]; rfl, o, ups_mem.mpr ⟨h3, h4⟩, decide_eq_true h5⟩
theorem every_twice (hs : VS st) {t : Int} : everyL st (shR st r t) t = everyL st r t := by
  unfold everyL
  refine List.filter_congr fun m hm => ?_
  have hm := rangeI_mem.mp hm
  have h1 := mem_every (st := st) (r := shR st r t) (m := m) (t := t)
  have h2 := mem_every (st := st) (r := r) (m := m) (t := t)
  have : m ∈ everyL st (shR st r t) t ↔ m ∈ everyL st r t := by
    rw [h1]
    constructor
    · rintro ⟨_, hu, o, ho, hou, hin⟩
      rw [susp_sh ho, if_pos hou] at hin
      exact hin
    · intro hin
      obtain ⟨_, hu, _⟩ := h2.mp hin
      obtain ⟨a, a0, a1, ha⟩ := any_up hs t
      refine ⟨hm, hu, a, ⟨a0, a1⟩, ha, ?_⟩
      rw [susp_sh ⟨a0, a1⟩, if_pos ha]; exact hin
  unfold everyL at this
  rw [List.mem_filter, List.mem_filter] at this
  have hr := rangeI_mem.mpr hm
  rw [Bool.eq_iff_iff]
  exact ⟨fun z => (this.mp ⟨hr, z⟩).2, fun z => (this.mpr ⟨hr, z⟩).2⟩
theorem sh_twice (hs : VS st) : shRs st (shRs st rs) = shRs st rs := by
  rw [shRs_I, sh_len]
  have : shRs st rs = (rangeI rs.length).map fun t => shR st (rowAt rs t) t := shRs_I
  refine Eq.trans (List.map_congr_left fun t ht => ?_) this.symm
  rw [rowAt_sh (rangeI_mem.mp ht)]
  unfold shR
  refine List.map_congr_left fun m hm => ?_
  have := every_twice (r := rowAt rs t) hs (t := t)
  unfold shR at this
  rw [this]
theorem sh_acc (hs : VS st) (h : VR st rs) : hasN st (shRs st rs) .acc = true := by
  show (rangeI st.length).all (fun m => spNow st (shRs st rs) m) = true
  refine List.all_eq_true.mpr fun m hm => ?_
  rw [sp_ill, List.isEmpty_iff, List.flatMap_eq_nil_iff]
  intro t ht
  rw [sh_len] at ht
  have ht := rangeI_mem.mp ht
  unfold illT
  rw [rowAt_sh ht]
  split
  · rename_i hu
    unfold byL
    refine List.filter_eq_nil_iff.mpr fun o ho hin => ?_
    obtain ⟨h3, h4⟩ := ups_mem.mp ho
    have hin := of_decide_eq_true hin
    rw [susp_sh h3, if_pos h4] at hin
    have := (mem_every.mp hin).2.1
    rw [hu] at this; cases this
  · rfl
theorem sh_end (hs : VS st) (h : VR st rs) : endR (shRs st rs) = shR st (endR rs) ((rs.length : Int) - 1) := by
  have h1 := h.l1
  rw [← end_rowAt (VR_sh hs h), sh_len, rowAt_sh ⟨by omega, by omega⟩, end_rowAt h]
theorem sh_com (hs : VS st) (h : VR st rs) : hasN st (shRs st rs) .com = hasN st rs .wcom := by
  rw [← kC_eq, ← kWC_eq, Bool.eq_iff_iff]
  unfold kC kWC
  rw [fil_e, fil_e, sh_end hs h]
  refine forall_congr' fun m => forall_congr' fun hm => ?_
  rw [nfil_e, fil_e]
  have hg := (gones_mem.mp hm).1
  have hup := up_gone h hm
  constructor
  · intro hk hk2
    obtain ⟨a, tl, hl⟩ := lasts_ne hs
    have ha : a ∈ lasts st := by rw [hl]; exact List.mem_cons_self
    refine hk ⟨a, ha, ?_⟩
    rw [susp_sh (lasts_mem.mp ha).1, if_pos (upB_last ha)]
    cases hq : decide (m ∈ everyL st (endR rs) ((rs.length : Int) - 1)) with
    | false => rfl
    | true =>
      exfalso
      obtain ⟨_, _, o, ho, hou, hin⟩ := mem_every.mp (of_decide_eq_true hq)
      by_cases hlo : o ∈ lasts st
      · exact hk2 o hlo (decide_eq_true hin)
      · have : o ∈ gones st := gones_mem.mpr ⟨ho, by
          cases hz : (stopAt st o).isNone with
          | false => rfl
          | true => exact absurd (lasts_mem.mpr ⟨ho, hz⟩) hlo⟩
        rw [up_gone h this] at hou; cases hou
  · rintro hk ⟨a, ha, hq⟩
    rw [susp_sh (lasts_mem.mp ha).1, if_pos (upB_last ha)] at hq
    refine hk fun o ho hin => ?_
    have : m ∈ everyL st (endR rs) ((rs.length : Int) - 1) := mem_every.mpr ⟨hg, hup, o, (lasts_mem.mp ho).1, upB_last ho, of_decide_eq_true hin⟩
    rw [decide_eq_true this] at hq; cases hq
theorem sh_cls (hs : VS st) (h : VR st rs) : clsN st (shRs st rs) = if hasN st rs .wcom = true then "P" else "none" := by
  unfold clsN
  rw [sh_com hs h, sh_acc hs h]
  cases hasN st rs .wcom <;> rfl
/-! ### the last row once more -/
theorem rangeI_snoc {n : Nat} : rangeI ((n + 1 : Nat) : Int) = rangeI n ++ [(n : Int)] := by
  unfold rangeI
  rw [Int.toNat_natCast, Int.toNat_natCast, List.range_succ, List.map_append]; rfl
def longR (rs : List (List (List Int))) : List (List (List Int)) := rs ++ [endR rs]
theorem long_end : endR (longR rs) = endR rs := by
  show (rs ++ [endR rs]).getLastD [] = _
  simp
theorem long_at {t : Int} (ht : 0 ≤ t ∧ t < rs.length) : rowAt (longR rs) t = rowAt rs t := by
  unfold rowAt longR
  have hk : t.toNat < rs.length := by omega
  rw [List.getD_eq_getElem?_getD, List.getD_eq_getElem?_getD, List.getElem?_append_left hk]
theorem long_at2 : rowAt (longR rs) rs.length = endR rs := by
  unfold rowAt longR
  rw [List.getD_eq_getElem?_getD, Int.toNat_natCast]
  simp
theorem upB_mono {m t : Int} (hu : upB st m t = true) : upB st m (t - 1) = true := by
  unfold upB upO at hu ⊢
  cases ho : stopAt st m with
  | none => rfl
  | some x =>
    rw [ho] at hu
    have := of_decide_eq_true hu
    exact decide_eq_true (by omega)
theorem long_sp (h : VR st rs) (m : Int) : spNow st (longR rs) m = spNow st rs m := by
  have h1 := h.l1
  rw [sp_ill, sp_ill]
  have e : (longR rs).length = rs.length + 1 := by unfold longR; simp
  rw [e, rangeI_snoc, List.flatMap_append]
  have e1 : (rangeI rs.length).flatMap (illT st (longR rs) m) = (rangeI rs.length).flatMap (illT st rs m) := by
    rw [List.flatMap_def, List.flatMap_def]
    congr 1
    refine List.map_congr_left fun t ht => ?_
    unfold illT
    rw [long_at (rangeI_mem.mp ht)]
  rw [e1]
  rw [Bool.eq_iff_iff, List.isEmpty_iff, List.isEmpty_iff, List.append_eq_nil_iff]
  constructor
  · exact fun z => z.1
  · intro z
    refine ⟨z, ?_⟩
    have z := List.flatMap_eq_nil_iff.mp z ((rs.length : Int) - 1) (rangeI_mem.mpr ⟨by omega, by omega⟩)
    rw [List.flatMap_cons, List.flatMap_nil, List.append_nil]
    unfold illT at z ⊢
    rw [end_rowAt h] at z
    rw [long_at2]
    split
    · rename_i hu
      rw [if_pos (upB_mono hu)] at z
      unfold byL at z ⊢
      have z := List.filter_eq_nil_iff.mp z
      refine List.filter_eq_nil_iff.mpr fun o ho => z o ?_
      obtain ⟨h3, h4⟩ := ups_mem.mp ho
      exact ups_mem.mpr ⟨h3, upB_mono h4⟩
    · rfl
theorem long_has (h : VR st rs) (n : Nm) : hasN st (longR rs) n = hasN st rs n := by
  have e1 : ∀ w, cmpl st (longR rs) w = cmpl st rs w := fun w => by unfold cmpl; rw [long_end]
  have e2 : ∀ m l, sparedB st (longR rs) m l = sparedB st rs m l := fun m l => by unfold sparedB; rw [long_end, long_sp h]
  have e3 : ∀ w l, accB st (longR rs) w l = accB st rs w l := fun w l => by unfold accB; simp only [e2]
  unfold hasN
  rw [e1, e3]
theorem long_cls (h : VR st rs) : clsN st (longR rs) = clsN st rs := by
  unfold clsN
  simp only [long_has h]
theorem placed_snoc {α : Type} {l : List α} {x : α} : placed (l ++ [x]) = placed l ++ [((l.length : Int), x)] := by
  unfold QB.placed
  rw [List.length_append, List.length_singleton, rangeI_snoc, List.zip_append (by rw [rangeI_cast])]
  rfl
theorem long_setl (h : VR st rs) : setlT st (longR rs) = setlT st rs := by
  unfold setlT
  rw [long_end]
  cases leadL (endR rs) ((lasts st).headD 0) with
  | none => rfl
  | some L =>
    dsimp only
    have e1 : goodsL st (longR rs) L = goodsL st rs L ++ [(goodsL st rs L).getLastD false] := by
      rw [goods_last h]
      unfold goodsL longR gd
      rw [List.map_append, end_rowAt h]; rfl
    rw [e1]
    generalize goodsL st rs L = G
    rw [show (G ++ [G.getLastD false]).getLastD false = G.getLastD false by simp]
    cases hq : G.getLastD false with
    | false => simp
    | true =>
      have : badT (G ++ [true]) = badT G := by
        unfold badT
        rw [placed_snoc, List.filter_append, List.map_append]
        simp
      rw [this]
theorem VR_long (hs : VS st) (h : VR st rs) (h9 : rs.length < 9) : VR st (longR rs) where
  l1 := by unfold longR; simp
  l9 := by unfold longR; simp; omega
  row := fun r hr => by
    unfold longR at hr
    rcases List.mem_append.mp hr with hr | hr
    · exact h.row r hr
    · rw [List.mem_singleton.mp hr]; exact h.row _ (end_mem h)
  last := fun t ht => by have := h.last t ht; unfold longR; simp; omega
end
end K58

namespace K58
open PySem QB L2
section
variable {s : Store} {st : List (Option Int)} {rs : List (List (List Int))} {r : List (List Int)}
theorem law_settles_up (hs : VS st) (h : VR st rs) : ∃ s', p__law_settles [wl st rs] s = .ok (soD (setlT st rs)) s' ∧ ∃ t, s' = s ++ t := by
  obtain ⟨t, e⟩ := law_settles_ok (s := s) hs h
  exact ⟨_, e, t, rfl⟩
theorem law_shared_up (hs : VS st) (h : VR st rs) : ∃ s', p__law_shared [wl st rs] s = .ok (wl st (shRs st rs)) s' ∧ ∃ t, s' = s ++ t := by
  obtain ⟨t, e⟩ := law_shared_ok (s := s) hs h
  exact ⟨_, e, t, rfl⟩
theorem add_long (h : VR st rs) : addD (rowsD rs) (.tup [rowD (endR rs)]) = some (rowsD (longR rs)) := by
  have h9 := h.l9
  show (if szOk ((rs.map rowD).length + 1) = true then _ else _) = _
  rw [List.length_map, if_pos (szOk_of (by omega))]
  unfold rowsD longR
  rw [List.map_append]; rfl
theorem sm_wl (hs : VS st) (h : VR st rs) {n : Nat} : Sm (n + 5) (wl st rs) := sm_lst (by simp) fun d hd => by
  simp only [List.mem_cons, List.not_mem_nil, or_false] at hd
  rcases hd with rfl | rfl
  · exact sm_st hs
  · exact sm_rs hs h
theorem shared_right_ok (hs : VS st) (h : VR st rs) {f : Bool} : ∃ s', p__law_shared_right [wl st rs, wD st rs, .bl f] s = .ok (.bl true) s' ∧ ∃ t, s' = s ++ t := by
  have hv := VR_sh hs h
  obtain ⟨s1, w1, t1, e1⟩ := law_shared_up (s := s) hs h
  obtain ⟨s2, w2, t2, e2⟩ := law_has_up (s := s1) hs h .wcom
  obtain ⟨s3, w3, t3, e3⟩ := law_settles_up (s := s2) hs hv
  obtain ⟨s4, w4, t4, e4⟩ := law_class_ok (s := s3) hs h
  obtain ⟨s5, w5, t5, e5⟩ := law_settles_up (s := s4) hs h
  have w2 : p__law_has [wl st rs, .str "weakly complete"] s1 = _ := w2
  have g1 := shared_watch_ok (s := s1) hs h
  have g2 := shared_watch_ok (s := s2) hs hv
  rw [sh_twice hs] at g2
  have n1 : p_watch_has [wD st (shRs st rs), .str "accurate"] s2 = _ := watch_has_ok hs hv .acc
  have n2 : p_watch_has [wD st (shRs st rs), .str "complete"] s2 = _ := watch_has_ok hs hv .com
  have n3 := watch_class_ok (s := s2) hs hv
  rw [sh_acc hs h] at n1
  rw [sh_com hs h] at n2
  rw [sh_cls hs h] at n3
  have g3 := settles_ok (s := s2) hs hv
  have i1 : isoB "Watch" cls_all (wD st (shRs st rs)) = some (.bl true) := rfl
  have m1 : p__law_same 6 [.lst [stD st, rowsD (shRs st rs)], wl st (shRs st rs)] s1 = .ok (.bl true) s1 := sm_wl (n := 1) hs hv s1
  have m2 : p__law_same 6 [.lst [stD st, rowsD (shRs st rs)], wl st (shRs st rs)] s2 = .ok (.bl true) s2 := sm_wl (n := 1) hs hv s2
  have m3 : p__law_same 6 [soD (setlT st (shRs st rs)), soD (setlT st (shRs st rs))] s3 = .ok (.bl true) s3 := sm_so s3
  have m4 : ∀ b : Bool, p__law_same 6 [.lst [.bl true, .bl b, .str (if b = true then "P" else "none")], .lst [.bl true, .bl b, .str (if b = true then "P" else "none")]] s2 = .ok (.bl true) s2 := fun b => sm_lst (n := 5) (by simp) (fun d hd => by
    simp only [List.mem_cons, List.not_mem_nil, or_false] at hd
    rcases hd with rfl | rfl | rfl
    · exact sm_bl
    · exact sm_bl
    · cases b
      · exact sm_none
      · exact sm_P) s2
  have m5 : p__law_same 6 [.lst [.str (clsN st rs), soD (setlT st rs)], .lst [.str (clsN st rs), soD (setlT st rs)]] s5 = .ok (.bl true) s5 := sm_lst (n := 5) (by simp) (fun d hd => by
    simp only [List.mem_cons, List.not_mem_nil, or_false] at hd
    rcases hd with rfl | rfl
    · exact sm_cls
    · exact sm_so) s5
  have hend : ixD (rowsD rs) (.int (-1)) = some (rowD (endR rs)) := end_at h
  have hadd := add_long h
  have hw : ∀ q, D.obj "Watch" [("stops", stD st), ("rows", rowsD q)] = wD st q := fun _ => rfl
  by_cases h9 : (rs.length : Int) < 9
  · have hL := VR_long hs h (by omega)
    have hi := init_ok (s := s3) hs hL
    have l1 := watch_class_ok (s := s3) hs hL
    have l2 := settles_ok (s := s3) hs hL
    rw [long_cls h] at l1
    rw [long_setl h] at l2
    refine ⟨s5, ?_, t1 ++ t2 ++ t3 ++ t4 ++ t5, by rw [e5, e4, e3, e2, e1]; simp⟩
    generalize hasN st rs .wcom = b at w2 n2 n3
    have m4 := m4 b
    have i2 : ∀ q, ixD (wl st q) (.int 1) = some (rowsD q) := fun _ => rfl
    cases b <;> cases f <;> simp at m4 n3 <;> simp [p__law_shared_right, b__law_shared_right, startE, w1, g1, i1, m1, w2, n1, n2, n3, m4, g2, m2, g3, w3, m3, h9, hend, hadd, hi, hw, l1, l2, w4, w5, m5]
  · refine ⟨s3, ?_, t1 ++ t2 ++ t3, by rw [e3, e2, e1]; simp⟩
    generalize hasN st rs .wcom = b at w2 n2 n3
    have m4 := m4 b
    cases b <;> cases f <;> simp at m4 n3 <;> simp [p__law_shared_right, b__law_shared_right, startE, w1, g1, i1, m1, w2, n1, n2, n3, m4, g2, m2, g3, w3, m3, h9]
end
end K58

namespace K58
open PySem QB L2
section
variable {s : Store} {st : List (Option Int)} {rs : List (List (List Int))} {r : List (List Int)}
theorem setl_lead (h : VR st rs) {t a : Int} {tl : List Int} (hl : lasts st = a :: tl) (e : setlT st rs = some t) : 0 ≤ t ∧ t < rs.length ∧ ∃ L, L ∈ lasts st ∧ ∀ j : Int, t ≤ j → j < rs.length → gd st rs L j = true := by
  have h1 := h.l1
  unfold setlT at e
  rw [hl] at e
  have e : (match leadL (endR rs) a with
    | none => none
    | some L => if L ∈ a :: tl then (if (goodsL st rs L).getLastD false = true then some (maxL (0 :: badT (goodsL st rs L))) else none) else none) = some t := e
  cases hL : leadL (endR rs) a with
  | none => rw [hL] at e; cases e
  | some L =>
    rw [hL] at e
    dsimp only at e
    split at e
    · rename_i hm
      split at e
      · rename_i hg
        cases e
        obtain ⟨q1, q2⟩ := maxL_mem (ns := 0 :: badT (goodsL st rs L)) (by simp)
        rw [goods_last h] at hg
        have el : (goodsL st rs L).length = rs.length := by unfold goodsL; rw [List.length_map]
        have bnd : ∀ y ∈ 0 :: badT (goodsL st rs L), 0 ≤ y ∧ y < rs.length := by
          intro y hy
          rcases List.mem_cons.mp hy with rfl | hy
          · exact ⟨Int.le_refl _, by omega⟩
          · unfold badT at hy
            obtain ⟨p, hp, rfl⟩ := List.mem_map.mp hy
            obtain ⟨hp, hf⟩ := List.mem_filter.mp hp
            obtain ⟨b1, b2, b3⟩ := placed_mem hp
            refine ⟨by omega, ?_⟩
            by_cases q : p.1 = (rs.length : Int) - 1
            · exfalso
              have := goods_get (st := st) (rs := rs) (L := L) (k := p.1.toNat) (by omega)
              rw [this] at b3
              have e2 : ((p.1.toNat : Nat) : Int) = (rs.length : Int) - 1 := by omega
              rw [e2, hg] at b3
              rw [← Option.some.inj b3] at hf; cases hf
            · omega
        obtain ⟨m0, m1⟩ := bnd _ q1
        refine ⟨m0, m1, L, by rw [hl]; exact hm, fun j hj1 hj2 => ?_⟩
        cases hq : gd st rs L j with
        | true => rfl
        | false =>
          exfalso
          have := goods_get (st := st) (rs := rs) (L := L) (k := j.toNat) (by omega)
          have e2 : ((j.toNat : Nat) : Int) = j := by omega
          rw [e2, hq] at this
          have hp := mem_placed this
          rw [e2] at hp
          have : j + 1 ∈ 0 :: badT (goodsL st rs L) := List.mem_cons_of_mem _ (List.mem_map.mpr ⟨(j, false), List.mem_filter.mpr ⟨hp, rfl⟩, rfl⟩)
          have := q2 _ this
          omega
      · cases e
    · cases e
theorem gones_not {o : Int} (ho : 0 ≤ o ∧ o < st.length) : (!decide (o ∈ gones st)) = (stopAt st o).isNone := by
  cases hq : (stopAt st o).isNone with
  | true =>
    rw [decide_eq_false fun z => by have := (gones_mem.mp z).2; rw [hq] at this; cases this]; rfl
  | false => rw [decide_eq_true (gones_mem.mpr ⟨ho, by rw [hq]; rfl⟩)]; rfl
theorem com_lacc (hs : VS st) (h : VR st rs) (h1 : hasN st rs .com = true) (h2 : hasN st rs .lacc = true) : setlT st rs ≠ none := by
  rw [← kC_eq] at h1
  unfold kC at h1
  rw [fil_e] at h1
  have h2 : (lasts st).all (fun m => sparedB st rs m true) = true := h2
  obtain ⟨a, tl, hl⟩ := lasts_ne hs
  have ha : a ∈ lasts st := by rw [hl]; exact List.mem_cons_self
  have fin : ∀ m ∈ lasts st, ∀ b : Int, 0 ≤ b → b < st.length → (b ∈ susp (endR rs) m ↔ b ∈ gones st) := by
    intro m hm b b0 b1
    constructor
    · intro hin
      cases hz : (stopAt st b).isNone with
      | false => exact gones_mem.mpr ⟨⟨b0, b1⟩, by rw [hz]; rfl⟩
      | true =>
        exfalso
        have hb : b ∈ lasts st := lasts_mem.mpr ⟨⟨b0, b1⟩, hz⟩
        have : (byL (endR rs) b (lasts st)).isEmpty = true := List.all_eq_true.mp h2 b hb
        unfold byL at this
        exact fil_e.mp this m hm (decide_eq_true hin)
    · intro hb
      cases hq : decide (b ∈ susp (endR rs) m) with
      | true => exact of_decide_eq_true hq
      | false => exact absurd (nfil_e.mpr ⟨m, hm, by rw [hq]; rfl⟩) (h1 b hb)
  have lead : ∀ m ∈ lasts st, leadL (endR rs) m = some a := by
    intro m hm
    unfold leadL
    rw [row_len h (end_mem h)]
    have : (rangeI (st.length : Int)).filter (fun o => !decide (o ∈ susp (endR rs) m)) = lasts st := by
      unfold lasts
      refine List.filter_congr fun o ho => ?_
      have ho := rangeI_mem.mp ho
      rw [← gones_not ho]
      congr 1
      exact decide_eq_decide.mpr (fin m hm o ho.1 ho.2)
    rw [this, hl]; rfl
  have hg : gd st rs a ((rs.length : Int) - 1) = true := List.all_eq_true.mpr fun m hm => by
    rw [end_rowAt h, lead m hm]
    exact decide_eq_true rfl
  have hh : (lasts st).headD 0 = a := by rw [hl]; rfl
  unfold setlT
  rw [hh, lead a ha]
  dsimp only
  rw [if_pos ha, goods_last h, hg, if_pos rfl]
  simp
theorem made_ok (hs : VS st) (h : VR st rs) {f : Bool} : p__law_made [wl st rs, .bl f] s = .ok (wD st rs) s := by
  have hi := init_ok (s := s) hs h
  cases f <;> simp [p__law_made, b__law_made, startE, hi, wD]
/-- the slots of the whole check -/
def rEnv (w : D) (st : List (Option Int)) (rs : List (List (List Int))) (f : Bool) (t L : Int) (x7 x8 x9 x10 x13 x14 x15 : Option D) : PEnv :=
  [.val (wl st rs), .val (.bl f), .val (stD st), .val (rowsD rs), .val (wD st rs), .val w, .val (.int t), sl x7, sl x8, sl x9, sl x10, .val (.lst ((lasts st).map D.int)), .val (.int L), sl x13, sl x14, sl x15]
theorem later_turn (hs : VS st) (h : VR st rs) {w : D} {f : Bool} {t L j : Int} {x7 x8 x9 x10 x13 x14 : Option D} (hL : L ∈ lasts st) (hg : ∀ j : Int, t ≤ j → j < rs.length → gd st rs L j = true) (h0 : 0 ≤ t) (ht : t < rs.length) (h1 : t ≤ j) (h2 : j ≤ 1000) :
    (setM 13 (.int j) (rEnv w st rs f t L x7 x8 x9 x10 x13 x14 none) s).toS (fun _ => l__law_right_0) = .nx (rEnv w st rs f t L x7 x8 x9 x10 (some (.int j)) x14 none) s := by
  have h4 := hs.n4
  have ll : (lasts st).length ≤ st.length := flt_len
  have hc : t ≤ capT rs j ∧ capT rs j < rs.length := by unfold capT; split <;> omega
  unfold rEnv
  simp only [show sl none = Slot.no from rfl, show ∀ d, sl (some d) = Slot.val d from fun _ => rfl]
  simp [l__law_right_0]
  rw [comp_if (g := D.int) (fun m => false) D.int (lasts st) rfl (by omega)]
  · have e : neD (.lst []) (.lst []) = some (.bl false) := ne_ints_nil (ns := [])
    rw [show (lasts st).filter (fun _ => false) = [] from List.filter_eq_nil_iff.mpr fun _ _ => by simp]
    simp [e, in_ints, hL]
  · intro m hm
    have q := leader_at_ok (s := s) hs h (t := j) (m := m) (by omega) h2 (lasts_mem.mp hm).1
    have e := of_decide_eq_true (List.all_eq_true.mp (hg _ hc.1 hc.2) m hm)
    rw [e] at q
    simp [bindE, q, soD]
theorem later_loop (hs : VS st) (h : VR st rs) {w : D} {f : Bool} {t L : Int} {x7 x8 x9 x10 x14 : Option D} (hL : L ∈ lasts st) (hg : ∀ j : Int, t ≤ j → j < rs.length → gd st rs L j = true) (h0 : 0 ≤ t) (ht : t < rs.length) :
    ∃ x13, forL (setM 13) l__law_right_0 (rgL t ((rs.length : Int) + 2)) (rEnv w st rs f t L x7 x8 x9 x10 none x14 none) s = .nx (rEnv w st rs f t L x7 x8 x9 x10 x13 x14 none) s := by
  have h9 := h.l9
  obtain ⟨e', s', hr, ⟨x13, rfl⟩, rfl⟩ := for_inv (f := setM 13) (body := l__law_right_0) (g := fun i : Nat => D.int (t + (i : Nat))) (fun done e s' => (∃ x13, e = rEnv w st rs f t L x7 x8 x9 x10 x13 x14 none) ∧ s' = s) (List.range ((rs.length : Int) + 2 - t).toNat)
    (e := rEnv w st rs f t L x7 x8 x9 x10 none x14 none) (s := s) ⟨⟨none, rfl⟩, rfl⟩ (by
      rintro done i rest e s' hx ⟨⟨x13, rfl⟩, rfl⟩
      have hi : i ∈ List.range ((rs.length : Int) + 2 - t).toNat := by rw [hx]; simp
      have hi := List.mem_range.mp hi
      exact ⟨_, _, .inl (later_turn hs h hL hg h0 ht (by omega) (by omega)), ⟨_, rfl⟩, rfl⟩)
  exact ⟨x13, hr⟩
theorem cut5 {a b c d e : Bool} : cutL [D.bl a, .bl b, .bl c, .bl d, .bl e] (some 1) none = [.bl b, .bl c, .bl d, .bl e] := by kernel_rfl
theorem in4 (b c d e : Bool) : inD false (.bl true) (.lst [.bl b, .bl c, .bl d, .bl e]) = some (.bl (b || c || d || e)) := by cases b <;> cases c <;> cases d <;> cases e <;> kernel_rfl
def pickI (b c d : Bool) : Int := if b = true then 0 else if c = true then 1 else if d = true then 2 else 3
theorem ix4 (b c d e : Bool) (h : (b || c || d || e) = true) : sqF indexP (.lst [.bl b, .bl c, .bl d, .bl e]) (.bl true) = some (.int (pickI b c d)) := by
  cases b <;> cases c <;> cases d <;> cases e <;> first | (cases h; done) | kernel_rfl
theorem pick4 (b c d e : Bool) (h : (b || c || d || e) = true) : atI [D.str "P", .str "S", .str "later P", .str "later S"] (pickI b c d) = some (.str (clsW true b c d e)) := by
  cases b <;> cases c <;> cases d <;> cases e <;> first | (cases h; done) | kernel_rfl
theorem cls_no (a b c d e : Bool) (h : (a && (b || c || d || e)) = false) : clsW a b c d e = "none" := by
  cases a <;> cases b <;> cases c <;> cases d <;> cases e <;> first | rfl | cases h
theorem ne_cls (a b c d e : Bool) : neD (.str (clsW a b c d e)) (.str (clsW a b c d e)) = some (.bl false) := by
  cases a <;> cases b <;> cases c <;> cases d <;> cases e <;> kernel_rfl
def fiveN : List Nm := [.com, .acc, .wacc, .lacc, .lwacc]
theorem right_ok (hs : VS st) (h : VR st rs) {f : Bool} : ∃ s', p__law_right [wl st rs, .bl f] s = .ok (.bl true) s' ∧ ∃ t, s' = s ++ t := by
  have h4 := hs.n4; have h9 := h.l9
  have c1 : (-4611686018427387904 : Int) < st.length := by omega
  have c2 : (st.length : Int) < 4611686018427387904 := by omega
  have rl := rangeI_length (n := (st.length : Int))
  have hmk := made_ok (s := s) hs h (f := f)
  obtain ⟨s1, w1, t1, e1⟩ := law_class_ok (s := s) hs h
  obtain ⟨s2, w2, t2, e2⟩ := law_settles_up (s := s1) hs h
  obtain ⟨s3, w3, t3, e3⟩ := shared_right_ok (s := s2) hs h (f := f)
  have l1 := watch_class_ok (s := s2) hs h
  have l2 := settles_ok (s := s2) hs h
  obtain ⟨a, tl, hl⟩ := lasts_ne hs
  have ha : a ∈ lasts st := by rw [hl]; exact List.mem_cons_self
  have hat : atI ((lasts st).map D.int) 0 = some (.int a) := by rw [hl, List.map_cons]; exact r_at0
  have m1 : p__law_same 6 [.lst [.str (clsN st rs), soD (setlT st rs)], .lst [.str (clsN st rs), soD (setlT st rs)]] s2 = .ok (.bl true) s2 := sm_lst (n := 5) (by simp) (fun d hd => by
    simp only [List.mem_cons, List.not_mem_nil, or_false] at hd
    rcases hd with rfl | rfl
    · exact sm_cls
    · exact sm_so) s2
  have hcl := com_lacc hs h
  have hld := @setl_lead st rs h
  refine ⟨s3, ?_, t1 ++ t2 ++ t3, by rw [e3, e2, e1]; simp⟩
  have z5 : [D.str "complete", D.str "accurate", D.str "weakly accurate", D.str "later accurate", D.str "later weakly accurate"] = fiveN.map fun n => D.str (nmS n) := rfl
  have hcomp : ∀ (v : Slot) , runComp (.seq (.lst [D.str "complete", D.str "accurate", D.str "weakly accurate", D.str "later accurate", D.str "later weakly accurate"])) (setM 14) (rt true) (stepL (callM p_watch_has (consM (varM 4) (consM (varM 14) (rt []))))) [14] (.lst []) [.val (wl st rs), .val (.bl f), .val (stD st), .val (rowsD rs), .val (wD st rs), .val (.str (clsN st rs)), .val (soD (setlT st rs)), v, .val (.lst [D.str "complete", D.str "accurate", D.str "weakly accurate", D.str "later accurate", D.str "later weakly accurate"]), .no, .no, .no, .no, .no, .no, .no] s2 =
      .ok (.lst [.bl (hasN st rs .com), .bl (hasN st rs .acc), .bl (hasN st rs .wacc), .bl (hasN st rs .lacc), .bl (hasN st rs .lwacc)]) [.val (wl st rs), .val (.bl f), .val (stD st), .val (rowsD rs), .val (wD st rs), .val (.str (clsN st rs)), .val (soD (setlT st rs)), v, .val (.lst [D.str "complete", D.str "accurate", D.str "weakly accurate", D.str "later accurate", D.str "later weakly accurate"]), .no, .no, .no, .no, .no, .no, .no] s2 := by
    intro v
    rw [comp_all (g := fun n => D.str (nmS n)) (fun n => .bl (hasN st rs n)) fiveN (by rw [z5]; rfl) (by show (5 : Nat) ≤ _; decide)]
    · rfl
    · intro n hn
      have q := watch_has_ok (s := s2) hs h n
      refine ⟨rfl, by simp [bindE], ?_⟩
      simp [bindE, q]
  have five : clsN st rs = clsW (hasN st rs .com) (hasN st rs .acc) (hasN st rs .wacc) (hasN st rs .lacc) (hasN st rs .lwacc) := rfl
  cases f with
  | false =>
    simp [p__law_right, b__law_right, startE, hmk, w1, w2, l1, l2, m1]
    rw [hcomp, five]
    clear hcomp five w1 w2 l1 l2 m1 hmk
    generalize hasN st rs .com = b0 at hcl ⊢
    generalize hasN st rs .lacc = b3 at hcl ⊢
    generalize hasN st rs .acc = b1
    generalize hasN st rs .wacc = b2
    generalize hasN st rs .lwacc = b4
    have hnn : neD (.str "none") (.str "none") = some (.bl false) := by kernel_rfl
    have hne := ne_cls b0 b1 b2 b3 b4
    have hc5 := cut5 (a := b0) (b := b1) (c := b2) (d := b3) (e := b4)
    have hi4 := in4 b1 b2 b3 b4
    cases hb : b0 with
    | false =>
      rw [hb] at hne hc5 hcl
      have hno : clsW false b1 b2 b3 b4 = "none" := cls_no _ _ _ _ _ rfl
      rw [hno] at hne
      simp [hno, hne, c1, c2]
      rw [comp_if (g := D.int) (fun m => (stopAt st m).isNone) D.int (rangeI st.length) (by simp [← rngL_I]) (by rw [rl]; omega)]
      rotate_left
      · intro m hm
        have := st_at (st := st) (rangeI_mem.mp hm).1 (rangeI_mem.mp hm).2
        simp [bindE, this]
      rw [show ((rangeI st.length).filter fun m => (stopAt st m).isNone) = lasts st from rfl]
      cases hq : setlT st rs with
      | none =>
        simp [soD, w3]
      | some t =>
        obtain ⟨t0, t1, L, hL, hg⟩ := hld hl hq
        have q := leader_at_ok (s := s2) hs h (t := t) (m := a) t0 (by omega) (lasts_mem.mp ha).1
        have el := of_decide_eq_true (List.all_eq_true.mp (hg t (Int.le_refl _) t1) a ha)
        rw [capT_in ⟨t0, t1⟩, el] at q
        rw [show soD (some L) = .int L from rfl] at q
        have rk : rgOk t ((rs.length : Int) + 2) = true := rgOk_of (by omega) (by omega) (by omega) (by omega)
        have hlp := fun w f x7 x8 x9 x10 => later_loop (s := s2) (w := w) (f := f) (x7 := x7) (x8 := x8) (x9 := x9) (x10 := x10) (x14 := none) hs h hL hg t0 t1
        rw [show soD (some t) = .int t from rfl]
        simp [q, hat, rangeD_int, rk]
        obtain ⟨x13, hlp⟩ := hlp (.str "none") false (some (.lst [.str "none", .int t])) (some (.lst [D.str "complete", D.str "accurate", D.str "weakly accurate", D.str "later accurate", D.str "later weakly accurate"])) (some (.lst [.bl false, .bl b1, .bl b2, .bl b3, .bl b4])) (some (.str "none"))
        unfold rEnv at hlp
        simp only [show sl none = Slot.no from rfl, show ∀ d, sl (some d) = Slot.val d from fun _ => rfl] at hlp
        rw [hlp]
        simp [w3]
    | true =>
      rw [hb] at hne hc5 hcl
      cases hany : (b1 || b2 || b3 || b4) with
      | false =>
        rw [hany] at hi4
        have hno : clsW true b1 b2 b3 b4 = "none" := cls_no _ _ _ _ _ (by rw [hany]; rfl)
        rw [hno] at hne
        simp [hno, hne, hc5, hi4, c1, c2]
        rw [comp_if (g := D.int) (fun m => (stopAt st m).isNone) D.int (rangeI st.length) (by simp [← rngL_I]) (by rw [rl]; omega)]
        rotate_left
        · intro m hm
          have := st_at (st := st) (rangeI_mem.mp hm).1 (rangeI_mem.mp hm).2
          simp [bindE, this]
        rw [show ((rangeI st.length).filter fun m => (stopAt st m).isNone) = lasts st from rfl]
        cases hq : setlT st rs with
        | none =>
          cases hb3 : b3 with
          | true => exact absurd hq (hcl rfl hb3)
          | false => simp [soD, w3]
        | some t =>
          obtain ⟨t0, t1, L, hL, hg⟩ := hld hl hq
          have q := leader_at_ok (s := s2) hs h (t := t) (m := a) t0 (by omega) (lasts_mem.mp ha).1
          have el := of_decide_eq_true (List.all_eq_true.mp (hg t (Int.le_refl _) t1) a ha)
          rw [capT_in ⟨t0, t1⟩, el] at q
          rw [show soD (some L) = .int L from rfl] at q
          have rk : rgOk t ((rs.length : Int) + 2) = true := rgOk_of (by omega) (by omega) (by omega) (by omega)
          have hlp := fun w f x7 x8 x9 x10 => later_loop (s := s2) (w := w) (f := f) (x7 := x7) (x8 := x8) (x9 := x9) (x10 := x10) (x14 := none) hs h hL hg t0 t1
          rw [show soD (some t) = .int t from rfl]
          simp [q, hat, rangeD_int, rk]
          obtain ⟨x13, hlp⟩ := hlp (.str "none") false (some (.lst [.str "none", .int t])) (some (.lst [D.str "complete", D.str "accurate", D.str "weakly accurate", D.str "later accurate", D.str "later weakly accurate"])) (some (.lst [.bl true, .bl b1, .bl b2, .bl b3, .bl b4])) (some (.str "none"))
          unfold rEnv at hlp
          simp only [show sl none = Slot.no from rfl, show ∀ d, sl (some d) = Slot.val d from fun _ => rfl] at hlp
          rw [hlp]
          simp [w3]
      | true =>
        rw [hany] at hi4
        have hx := ix4 _ _ _ _ hany
        have hp := pick4 _ _ _ _ hany
        simp [hne, hc5, hi4, hx, hp, c1, c2]
        rw [comp_if (g := D.int) (fun m => (stopAt st m).isNone) D.int (rangeI st.length) (by simp [← rngL_I]) (by rw [rl]; omega)]
        rotate_left
        · intro m hm
          have := st_at (st := st) (rangeI_mem.mp hm).1 (rangeI_mem.mp hm).2
          simp [bindE, this]
        rw [show ((rangeI st.length).filter fun m => (stopAt st m).isNone) = lasts st from rfl]
        cases hq : setlT st rs with
        | none =>
          cases hb3 : b3 with
          | true => exact absurd hq (hcl rfl hb3)
          | false => simp [soD, w3]
        | some t =>
          obtain ⟨t0, t1, L, hL, hg⟩ := hld hl hq
          have q := leader_at_ok (s := s2) hs h (t := t) (m := a) t0 (by omega) (lasts_mem.mp ha).1
          have el := of_decide_eq_true (List.all_eq_true.mp (hg t (Int.le_refl _) t1) a ha)
          rw [capT_in ⟨t0, t1⟩, el] at q
          rw [show soD (some L) = .int L from rfl] at q
          have rk : rgOk t ((rs.length : Int) + 2) = true := rgOk_of (by omega) (by omega) (by omega) (by omega)
          have hlp := fun w f x7 x8 x9 x10 => later_loop (s := s2) (w := w) (f := f) (x7 := x7) (x8 := x8) (x9 := x9) (x10 := x10) (x14 := none) hs h hL hg t0 t1
          rw [show soD (some t) = .int t from rfl]
          simp [q, hat, rangeD_int, rk]
          obtain ⟨x13, hlp⟩ := hlp (.str (clsW true b1 b2 b3 b4)) false (some (.lst [.str (clsW true b1 b2 b3 b4), .int t])) (some (.lst [D.str "complete", D.str "accurate", D.str "weakly accurate", D.str "later accurate", D.str "later weakly accurate"])) (some (.lst [.bl true, .bl b1, .bl b2, .bl b3, .bl b4])) (some (.str (clsW true b1 b2 b3 b4)))
          unfold rEnv at hlp
          simp only [show sl none = Slot.no from rfl, show ∀ d, sl (some d) = Slot.val d from fun _ => rfl] at hlp
          rw [hlp]
          simp [w3]
  | true =>
    simp [p__law_right, b__law_right, startE, hmk, w1, w2, l1, l2, m1]
    rw [hcomp, five]
    clear hcomp five w1 w2 l1 l2 m1 hmk
    generalize hasN st rs .com = b0 at hcl ⊢
    generalize hasN st rs .lacc = b3 at hcl ⊢
    generalize hasN st rs .acc = b1
    generalize hasN st rs .wacc = b2
    generalize hasN st rs .lwacc = b4
    have hnn : neD (.str "none") (.str "none") = some (.bl false) := by kernel_rfl
    have hne := ne_cls b0 b1 b2 b3 b4
    have hc5 := cut5 (a := b0) (b := b1) (c := b2) (d := b3) (e := b4)
    have hi4 := in4 b1 b2 b3 b4
    cases hb : b0 with
    | false =>
      rw [hb] at hne hc5 hcl
      have hno : clsW false b1 b2 b3 b4 = "none" := cls_no _ _ _ _ _ rfl
      rw [hno] at hne
      simp [hno, hne, c1, c2]
      rw [comp_if (g := D.int) (fun m => (stopAt st m).isNone) D.int (rangeI st.length) (by simp [← rngL_I]) (by rw [rl]; omega)]
      rotate_left
      · intro m hm
        have := st_at (st := st) (rangeI_mem.mp hm).1 (rangeI_mem.mp hm).2
        simp [bindE, this]
      rw [show ((rangeI st.length).filter fun m => (stopAt st m).isNone) = lasts st from rfl]
      cases hq : setlT st rs with
      | none =>
        simp [soD, w3]
      | some t =>
        obtain ⟨t0, t1, L, hL, hg⟩ := hld hl hq
        have q := leader_at_ok (s := s2) hs h (t := t) (m := a) t0 (by omega) (lasts_mem.mp ha).1
        have el := of_decide_eq_true (List.all_eq_true.mp (hg t (Int.le_refl _) t1) a ha)
        rw [capT_in ⟨t0, t1⟩, el] at q
        rw [show soD (some L) = .int L from rfl] at q
        have rk : rgOk t ((rs.length : Int) + 2) = true := rgOk_of (by omega) (by omega) (by omega) (by omega)
        have hlp := fun w f x7 x8 x9 x10 => later_loop (s := s2) (w := w) (f := f) (x7 := x7) (x8 := x8) (x9 := x9) (x10 := x10) (x14 := none) hs h hL hg t0 t1
        rw [show soD (some t) = .int t from rfl]
        simp [q, hat, rangeD_int, rk]
        obtain ⟨x13, hlp⟩ := hlp (.str "none") true (some (.lst [.str "none", .int t])) (some (.lst [D.str "complete", D.str "accurate", D.str "weakly accurate", D.str "later accurate", D.str "later weakly accurate"])) (some (.lst [.bl false, .bl b1, .bl b2, .bl b3, .bl b4])) (some (.str "none"))
        unfold rEnv at hlp
        simp only [show sl none = Slot.no from rfl, show ∀ d, sl (some d) = Slot.val d from fun _ => rfl] at hlp
        rw [hlp]
        simp [w3]
    | true =>
      rw [hb] at hne hc5 hcl
      cases hany : (b1 || b2 || b3 || b4) with
      | false =>
        rw [hany] at hi4
        have hno : clsW true b1 b2 b3 b4 = "none" := cls_no _ _ _ _ _ (by rw [hany]; rfl)
        rw [hno] at hne
        simp [hno, hne, hc5, hi4, c1, c2]
        rw [comp_if (g := D.int) (fun m => (stopAt st m).isNone) D.int (rangeI st.length) (by simp [← rngL_I]) (by rw [rl]; omega)]
        rotate_left
        · intro m hm
          have := st_at (st := st) (rangeI_mem.mp hm).1 (rangeI_mem.mp hm).2
          simp [bindE, this]
        rw [show ((rangeI st.length).filter fun m => (stopAt st m).isNone) = lasts st from rfl]
        cases hq : setlT st rs with
        | none =>
          cases hb3 : b3 with
          | true => exact absurd hq (hcl rfl hb3)
          | false => simp [soD, w3]
        | some t =>
          obtain ⟨t0, t1, L, hL, hg⟩ := hld hl hq
          have q := leader_at_ok (s := s2) hs h (t := t) (m := a) t0 (by omega) (lasts_mem.mp ha).1
          have el := of_decide_eq_true (List.all_eq_true.mp (hg t (Int.le_refl _) t1) a ha)
          rw [capT_in ⟨t0, t1⟩, el] at q
          rw [show soD (some L) = .int L from rfl] at q
          have rk : rgOk t ((rs.length : Int) + 2) = true := rgOk_of (by omega) (by omega) (by omega) (by omega)
          have hlp := fun w f x7 x8 x9 x10 => later_loop (s := s2) (w := w) (f := f) (x7 := x7) (x8 := x8) (x9 := x9) (x10 := x10) (x14 := none) hs h hL hg t0 t1
          rw [show soD (some t) = .int t from rfl]
          simp [q, hat, rangeD_int, rk]
          obtain ⟨x13, hlp⟩ := hlp (.str "none") true (some (.lst [.str "none", .int t])) (some (.lst [D.str "complete", D.str "accurate", D.str "weakly accurate", D.str "later accurate", D.str "later weakly accurate"])) (some (.lst [.bl true, .bl b1, .bl b2, .bl b3, .bl b4])) (some (.str "none"))
          unfold rEnv at hlp
          simp only [show sl none = Slot.no from rfl, show ∀ d, sl (some d) = Slot.val d from fun _ => rfl] at hlp
          rw [hlp]
          simp [w3]
      | true =>
        rw [hany] at hi4
        have hx := ix4 _ _ _ _ hany
        have hp := pick4 _ _ _ _ hany
        simp [hne, hc5, hi4, hx, hp, c1, c2]
        rw [comp_if (g := D.int) (fun m => (stopAt st m).isNone) D.int (rangeI st.length) (by simp [← rngL_I]) (by rw [rl]; omega)]
        rotate_left
        · intro m hm
          have := st_at (st := st) (rangeI_mem.mp hm).1 (rangeI_mem.mp hm).2
          simp [bindE, this]
        rw [show ((rangeI st.length).filter fun m => (stopAt st m).isNone) = lasts st from rfl]
        cases hq : setlT st rs with
        | none =>
          cases hb3 : b3 with
          | true => exact absurd hq (hcl rfl hb3)
          | false => simp [soD, w3]
        | some t =>
          obtain ⟨t0, t1, L, hL, hg⟩ := hld hl hq
          have q := leader_at_ok (s := s2) hs h (t := t) (m := a) t0 (by omega) (lasts_mem.mp ha).1
          have el := of_decide_eq_true (List.all_eq_true.mp (hg t (Int.le_refl _) t1) a ha)
          rw [capT_in ⟨t0, t1⟩, el] at q
          rw [show soD (some L) = .int L from rfl] at q
          have rk : rgOk t ((rs.length : Int) + 2) = true := rgOk_of (by omega) (by omega) (by omega) (by omega)
          have hlp := fun w f x7 x8 x9 x10 => later_loop (s := s2) (w := w) (f := f) (x7 := x7) (x8 := x8) (x9 := x9) (x10 := x10) (x14 := none) hs h hL hg t0 t1
          rw [show soD (some t) = .int t from rfl]
          simp [q, hat, rangeD_int, rk]
          obtain ⟨x13, hlp⟩ := hlp (.str (clsW true b1 b2 b3 b4)) true (some (.lst [.str (clsW true b1 b2 b3 b4), .int t])) (some (.lst [D.str "complete", D.str "accurate", D.str "weakly accurate", D.str "later accurate", D.str "later weakly accurate"])) (some (.lst [.bl true, .bl b1, .bl b2, .bl b3, .bl b4])) (some (.str (clsW true b1 b2 b3 b4)))
          unfold rEnv at hlp
          simp only [show sl none = Slot.no from rfl, show ∀ d, sl (some d) = Slot.val d from fun _ => rfl] at hlp
          rw [hlp]
          simp [w3]
end
end K58

namespace K58
open PySem QB L2
section
variable {s : Store} {st : List (Option Int)} {rs : List (List (List Int))} {r : List (List Int)}
/-- a set of machines as a row has it -/
def OkS (n : Int) (l : List Int) : Prop := l.Pairwise (· < ·) ∧ ∀ b ∈ l, 0 ≤ b ∧ b < n
theorem OkS.len {n : Int} {l : List Int} (h : OkS n l) (hn : n ≤ 4) : l.length ≤ 4 := by
  have := asc_len h.1 h.2
  omega
theorem OkS.fil {n : Int} {l : List Int} {p : Int → Bool} (h : OkS n l) : OkS n (l.filter p) := ⟨h.1.filter _, fun b hb => h.2 b (List.mem_filter.mp hb).1⟩
/-- a list of ints chosen on the way, draws in between -/
theorem OkS.snoc {n k : Int} {l done rest : List Int} (hx : (done ++ k :: rest).Pairwise (· < ·)) (hb : ∀ x ∈ done ++ k :: rest, 0 ≤ x ∧ x < n) (h : l.Pairwise (· < ·) ∧ ∀ x ∈ l, x ∈ done) : (l ++ [k]).Pairwise (· < ·) ∧ ∀ x ∈ l ++ [k], x ∈ done ++ [k] := by
  refine ⟨List.pairwise_append.mpr ⟨h.1, List.pairwise_singleton _ _, fun a ha c hc => ?_⟩, fun x hx => ?_⟩
  · rw [List.mem_singleton.mp hc]
    exact (List.pairwise_append.mp hx).2.2 a (h.2 a ha) k List.mem_cons_self
  · rcases List.mem_append.mp hx with hx | hx
    · exact List.mem_append_left _ (h.2 x hx)
    · exact List.mem_append_right _ hx
def goneT (os : List (Option Int)) (t : Int) : List Int := (rangeI os.length).filter fun k => match stopAt os k with
  | none => false
  | some x => decide (x ≤ t)
def gEnv (b k3 k5 k8 : Nat) (n times way spared t : Int) (x9 x10 x11 x12 : Option D) : PEnv :=
  [.val (.ref b), .val (.int n), .val (.int times), .val (.ref k3), .val (.int way), .val (.ref k5), .val (.int spared), .val (.int t), .val (.ref k8), sl x9, sl x10, sl x11, sl x12]
theorem gone_ok {os : List (Option Int)} {b k3 k5 k8 : Nat} {way spared t times : Int} {x9 x10 x11 : Option D} (h3 : s[k3]? = some (.lst (os.map soD))) (hl : os.length ≤ 4) :
    runComp (.rng 0 os.length) (setM 12) (andT (boolM (op2M (isD true) (toB (op2M ixD (bvarM 3) (bvarM 12))) (toB (rt .non)))) (boolM (op2M leD (toB (op2M ixD (bvarM 3) (bvarM 12))) (bvarM 7)))) (stepL (varM 12)) [12] (.lst []) (gEnv b k3 k5 k8 os.length times way spared t x9 x10 x11 none) s =
      .ok (.lst ((goneT os t).map D.int)) (gEnv b k3 k5 k8 os.length times way spared t x9 x10 x11 none) s := by
  have rl := rangeI_length (n := (os.length : Int))
  unfold gEnv
  rw [comp_if (g := D.int) (fun k => match stopAt os k with
    | none => false
    | some x => decide (x ≤ t)) D.int (rangeI os.length) (by simp [← rngL_I]) (by rw [rl]; omega)]
  · simp [goneT, sl]
  · intro k hk
    have hk := rangeI_mem.mp hk
    have hat : atI (os.map soD) k = some (soD (stopAt os k)) := atI_map hk.1 hk.2 none
    cases ho : stopAt os k with
    | none => rw [ho, show soD none = .non from rfl] at hat; simp [bindE, h3, hat]
    | some x => rw [ho, show soD (some x) = .int x from rfl] at hat; simp [bindE, h3, hat]
theorem gone_set {os : List (Option Int)} {t : Int} : OkS os.length (goneT os t) := ⟨range_asc.filter _, fun b hb => rangeI_mem.mp (List.mem_filter.mp hb).1⟩
theorem draw_ok {b k3 k5 k8 : Nat} {n way spared t times N : Int} {x9 x10 x11 : Option D} (hb : BOk b N s) (hN : N + 4 ≤ 1000000) (hn : 0 ≤ n ∧ n ≤ 4) :
    ∃ l s', OkS n l ∧ BOk b (N + 4) s' ∧ Kp b s s' ∧ runComp (.rng 0 n.toNat) (setM 12) (boolM (op2M eqD (toB (callM p__law_take (consM (varM 0) (consM (rt (.int 3)) (rt []))))) (toB (rt (.int 0))))) (stepL (varM 12)) [12] (.lst []) (gEnv b k3 k5 k8 n times way spared t x9 x10 x11 none) s =
      .ok (.lst (l.map D.int)) (gEnv b k3 k5 k8 n times way spared t x9 x10 x11 none) s' := by
  have rl := rangeI_length (n := n)
  unfold gEnv
  obtain ⟨ys, s', hc, l, rfl, h1, h2, h3, h4⟩ := comp_inv (f := setM 12) (cond := boolM (op2M eqD (toB (callM p__law_take (consM (varM 0) (consM (rt (.int 3)) (rt []))))) (toB (rt (.int 0))))) (elt := varM 12)
    (vs := [12]) (sr := .rng 0 n.toNat) (e0 := [.val (.ref b), .val (.int n), .val (.int times), .val (.ref k3), .val (.int way), .val (.ref k5), .val (.int spared), .val (.int t), .val (.ref k8), sl x9, sl x10, sl x11, sl none]) (s := s) (g := D.int)
    (fun done ys s' => ∃ l : List Int, ys = l.map D.int ∧ l.Pairwise (· < ·) ∧ (∀ x ∈ l, x ∈ done) ∧ BOk b (N + done.length) s' ∧ Kp b s s') (rangeI n) (fun s => by simp [← rngL_I]) (by rw [rl]; omega)
    ⟨[], rfl, List.Pairwise.nil, fun x hx => hx, by simpa using hb, Kp.refl s⟩ (by
      rintro done k rest ys s3 hx ⟨l, rfl, h1, h2, hb3, hk3⟩
      have hd : done.length ≤ 3 := by
        have := congrArg List.length hx
        rw [rangeI_length, List.length_append, List.length_cons] at this; omega
      obtain ⟨c, s4, c0, c1, hc, hb4, hk4, _⟩ := takeP (many := 3) hb3 (by omega) (by omega) (by omega)
      have hs := OkS.snoc (n := n) (by rw [← hx]; exact range_asc) (by rw [← hx]; exact fun x hx => rangeI_mem.mp hx) ⟨h1, h2⟩
      refine ⟨by simp [bindE], by simp [bindE, sl], decide (c = 0), s4, by simp [bindE, hc], fun _ => ⟨l, rfl, h1, fun x hx => List.mem_append_left _ (h2 x hx), hb4.mono (by simp; omega), hk3.trans hk4⟩, fun _ => ⟨.int k, s4, by simp [bindE], l ++ [k], by simp, hs.1, hs.2, hb4.mono (by simp; omega), hk3.trans hk4⟩⟩)
  rw [rl] at h3
  refine ⟨l, s', ⟨h1, fun x hx => rangeI_mem.mp (h2 x hx)⟩, h3.mono (by omega), h4, ?_⟩
  rw [hc]
  simp [sl]
theorem half_ok {b k3 k5 k8 : Nat} {n way spared t times N m : Int} {G : List Int} {x11 : Option D} (hb : BOk b N s) (hN : N + 4 ≤ 1000000) (hn : n ≤ 4) (hG : OkS n G) :
    ∃ l s', OkS n l ∧ BOk b (N + 4) s' ∧ Kp b s s' ∧ runComp (.seq (.lst (G.map D.int))) (setM 12) (orT (boolM (op2M eqD (toB (op2M modD (toB (op1M toIntD (toB (op2M addD (bvarM 12) (bvarM 9))))) (toB (rt (.int 2))))) (toB (rt (.int 0))))) (boolM (op2M eqD (toB (callM p__law_take (consM (varM 0) (consM (rt (.int 2)) (rt []))))) (toB (rt (.int 0)))))) (stepL (varM 12)) [12] (.lst []) (gEnv b k3 k5 k8 n times way spared t (some (.int m)) (some (.lst (G.map D.int))) x11 none) s =
      .ok (.lst (l.map D.int)) (gEnv b k3 k5 k8 n times way spared t (some (.int m)) (some (.lst (G.map D.int))) x11 none) s' := by
  have gl := hG.len hn
  unfold gEnv
  obtain ⟨ys, s', hc, l, rfl, h1, h2, h3, h4⟩ := comp_inv (f := setM 12) (cond := orT (boolM (op2M eqD (toB (op2M modD (toB (op1M toIntD (toB (op2M addD (bvarM 12) (bvarM 9))))) (toB (rt (.int 2))))) (toB (rt (.int 0))))) (boolM (op2M eqD (toB (callM p__law_take (consM (varM 0) (consM (rt (.int 2)) (rt []))))) (toB (rt (.int 0)))))) (elt := varM 12)
    (vs := [12]) (sr := .seq (.lst (G.map D.int))) (e0 := [.val (.ref b), .val (.int n), .val (.int times), .val (.ref k3), .val (.int way), .val (.ref k5), .val (.int spared), .val (.int t), .val (.ref k8), sl (some (.int m)), sl (some (.lst (G.map D.int))), sl x11, sl none]) (s := s) (g := D.int)
    (fun done ys s' => ∃ l : List Int, ys = l.map D.int ∧ l.Pairwise (· < ·) ∧ (∀ x ∈ l, x ∈ done) ∧ BOk b (N + done.length) s' ∧ Kp b s s') G (fun s => rfl) (by omega)
    ⟨[], rfl, List.Pairwise.nil, fun x hx => hx, by simpa using hb, Kp.refl s⟩ (by
      rintro done k rest ys s3 hx ⟨l, rfl, h1, h2, hb3, hk3⟩
      have hd : done.length ≤ 3 := by
        have := congrArg List.length hx
        rw [List.length_append, List.length_cons] at this; omega
      have hs := OkS.snoc (n := n) (by rw [← hx]; exact hG.1) (by rw [← hx]; exact hG.2) ⟨h1, h2⟩
      by_cases q : (k + m) % 2 = 0
      · exact ⟨by simp [bindE], by simp [bindE, sl], true, s3, by simp [bindE, sl, q], fun z => (by cases z), fun _ => ⟨.int k, s3, by simp [bindE], l ++ [k], by simp, hs.1, hs.2, hb3.mono (by simp; omega), hk3⟩⟩
      · obtain ⟨c, s4, c0, c1, hc, hb4, hk4, _⟩ := takeP (many := 2) hb3 (by omega) (by omega) (by omega)
        exact ⟨by simp [bindE], by simp [bindE, sl], decide (c = 0), s4, by simp [bindE, sl, q, hc], fun _ => ⟨l, rfl, h1, fun x hx => List.mem_append_left _ (h2 x hx), hb4.mono (by simp; omega), hk3.trans hk4⟩, fun _ => ⟨.int k, s4, by simp [bindE], l ++ [k], by simp, hs.1, hs.2, hb4.mono (by simp; omega), hk3.trans hk4⟩⟩)
  refine ⟨l, s', ⟨h1, fun x hx => hG.2 x (h2 x hx)⟩, h3.mono (by omega), h4, ?_⟩
  rw [hc]
  simp [sl]
end
end K58

namespace K58
open PySem QB L2
section
variable {s : Store} {st : List (Option Int)} {rs : List (List (List Int))} {r : List (List Int)}
theorem comp_ne {b k3 k5 k8 : Nat} {n way spared t times : Int} {S : List Int} {x9 x10 : Option D} (hS : S.length ≤ 4) :
    runComp (.seq (.lst (S.map D.int))) (setM 12) (boolM (op2M neD (bvarM 12) (bvarM 6))) (stepL (varM 12)) [12] (.lst []) (gEnv b k3 k5 k8 n times way spared t x9 x10 (some (.lst (S.map D.int))) none) s =
      .ok (.lst ((S.filter fun k => !decide (k = spared)).map D.int)) (gEnv b k3 k5 k8 n times way spared t x9 x10 (some (.lst (S.map D.int))) none) s := by
  unfold gEnv
  rw [comp_if (g := D.int) (fun k => !decide (k = spared)) D.int S rfl (by omega)]
  · simp [sl]
  · intro k hk
    simp [bindE]
theorem sorted_ok {n spared : Int} {G S : List Int} (hG : OkS n G) (hS : OkS n S) (hn : n ≤ 4) : sortSetD (.lst ((G ++ S.filter fun k => !decide (k = spared)).map D.int)) = some (.lst ((ascS (G ++ S.filter fun k => !decide (k = spared))).map D.int)) ∧ OkS n (ascS (G ++ S.filter fun k => !decide (k = spared))) := by
  have g := hG.len hn
  have f := (hS.fil (p := fun k => !decide (k = spared))).len hn
  refine ⟨sortSet_lst (by rw [List.length_append]; omega), asc_ascS _, fun x hx => ?_⟩
  have hx := mem_ascS.mp hx
  rcases List.mem_append.mp hx with hx | hx
  · exact hG.2 x hx
  · exact hS.fil.2 x hx
theorem add_ok {n spared : Int} {G S : List Int} (hG : OkS n G) (hS : OkS n S) (hn : n ≤ 4) : addD (.lst (G.map D.int)) (.lst ((S.filter fun k => !decide (k = spared)).map D.int)) = some (.lst ((G ++ S.filter fun k => !decide (k = spared)).map D.int)) := by
  have g := hG.len hn
  have f := (hS.fil (p := fun k => !decide (k = spared))).len hn
  show (if szOk ((G.map D.int).length + ((S.filter fun k => !decide (k = spared)).map D.int).length) = true then _ else _) = _
  rw [List.length_map, List.length_map, if_pos (szOk_of (by omega)), List.map_append]
/-- the rest of a turn, what is told once known -/
theorem told_end {b k3 k5 k8 : Nat} {n times way spared t : Int} {x9 x10 : Option D} {l : List Int} {L : List D} (h8 : s[k8]? = some (.lst L)) (hL : L.length ≤ 1000) :
    exprS (appM (varM 8) (op1M tupleD (bvarM 11))) (gEnv b k3 k5 k8 n times way spared t x9 x10 (some (.lst (l.map D.int))) none) s = .nx (gEnv b k3 k5 k8 n times way spared t x9 x10 (some (.lst (l.map D.int))) none) (s.set k8 (.lst (L ++ [setD l]))) := by
  have z : szOk (L.length + 1) = true := szOk_of (by omega)
  unfold gEnv
  simp [sl, h8, z, setD]
theorem some_turn {os : List (Option Int)} {b k3 k5 k8 : Nat} {way spared t times N m : Int} {x9 x10 x11 : Option D} {L : List D} (h3 : s[k3]? = some (.lst (os.map soD))) (h8 : s[k8]? = some (.lst L)) (hL : L.length ≤ 1000) (hl : os.length ≤ 4) (n3 : k3 ≠ b) (n8 : k8 ≠ b) (hb : BOk b N s) (hN : N + 8 ≤ 1000000) (hw : 0 ≤ way ∧ way < 6) :
    ∃ l s' x10' x11', OkS os.length l ∧ BOk b (N + 8) s' ∧ Kp b s s' ∧
      (setM 9 (.int m) (gEnv b k3 k5 k8 os.length times way spared t x9 x10 x11 none) s).toS (fun _ => l__law_some_watch_0) = .nx (gEnv b k3 k5 k8 os.length times way spared t (some (.int m)) x10' x11' none) (s'.set k8 (.lst (L ++ [setD l]))) := by
  have c1 : (-4611686018427387904 : Int) < os.length := by omega
  have c2 : (os.length : Int) < 4611686018427387904 := by omega
  have hg := gone_ok (b := b) (k5 := k5) (k8 := k8) (way := way) (spared := spared) (t := t) (times := times) (x9 := some (.int m)) (x10 := x10) (x11 := x11) h3 hl
  have hG := gone_set (os := os) (t := t)
  generalize goneT os t = G at hg hG
  obtain ⟨S, s1, hS, hb1, hk1, hd⟩ := draw_ok (s := s) (b := b) (k3 := k3) (k5 := k5) (k8 := k8) (n := os.length) (way := way) (spared := spared) (t := t) (times := times) (x9 := some (.int m)) (x10 := some (.lst (G.map D.int))) (x11 := x11) hb (by omega) ⟨by omega, by omega⟩
  rw [Int.toNat_natCast] at hd
  have h81 := hk1.at_ h8 n8
  have gl := hG.len (by omega)
  have sln := hS.len (by omega)
  have hcn := comp_ne (s := s1) (b := b) (k3 := k3) (k5 := k5) (k8 := k8) (n := os.length) (way := way) (spared := spared) (t := t) (times := times) (x9 := some (.int m)) (x10 := some (.lst (G.map D.int))) sln
  obtain ⟨hso, hsS⟩ := sorted_ok (spared := spared) hG hS (by omega)
  have hadd := add_ok (spared := spared) hG hS (by omega)
  generalize (G ++ S.filter fun k => !decide (k = spared)) = E at hso hsS hadd
  have fin : ∀ (l : List Int), OkS os.length l → ∀ s2, BOk b (N + 8) s2 → Kp b s s2 → s2[k8]? = some (.lst L) →
      (setM 9 (.int m) (gEnv b k3 k5 k8 os.length times way spared t x9 x10 x11 none) s).toS (fun _ => l__law_some_watch_0) = exprS (appM (varM 8) (op1M tupleD (bvarM 11))) (gEnv b k3 k5 k8 os.length times way spared t (some (.int m)) (some (.lst (G.map D.int))) (some (.lst (l.map D.int))) none) s2 → ∃ l s' x10' x11', OkS os.length l ∧ BOk b (N + 8) s' ∧ Kp b s s' ∧
      (setM 9 (.int m) (gEnv b k3 k5 k8 os.length times way spared t x9 x10 x11 none) s).toS (fun _ => l__law_some_watch_0) = .nx (gEnv b k3 k5 k8 os.length times way spared t (some (.int m)) x10' x11' none) (s'.set k8 (.lst (L ++ [setD l]))) := fun l ol s2 hb2 hk2 h82 e =>
    ⟨l, s2, some (.lst (G.map D.int)), some (.lst (l.map D.int)), ol, hb2, hk2, e.trans (told_end h82 hL)⟩
  have hb1' : BOk b (N + 8) s1 := hb1.mono (by omega)
  unfold gEnv at hg hd hcn fin ⊢
  simp only [show sl none = Slot.no from rfl, show ∀ d, sl (some d) = Slot.val d from fun _ => rfl] at hg hd hcn fin ⊢
  by_cases w0 : way = 0
  · refine fin G hG s1 hb1' hk1 h81 ?_
    simp [l__law_some_watch_0, c1, c2, hg, hd, eq_true w0]
  · by_cases w1 : way = 1
    · refine fin _ hsS s1 hb1' hk1 h81 ?_
      simp [l__law_some_watch_0, c1, c2, hg, hd, w0, eq_true w1, hcn, hadd, hso]
    · by_cases w2 : way = 2
      · by_cases q : t = times - 1
        · refine fin G hG s1 hb1' hk1 h81 ?_
          simp [l__law_some_watch_0, c1, c2, hg, hd, w0, w1, eq_true w2, eq_true q]
        · refine fin S hS s1 hb1' hk1 h81 ?_
          simp [l__law_some_watch_0, c1, c2, hg, hd, w0, w1, eq_true w2, q]
      · by_cases w3 : way = 3
        · by_cases q : t = times - 1
          · refine fin _ hsS s1 hb1' hk1 h81 ?_
            simp [l__law_some_watch_0, c1, c2, hg, hd, w0, w1, w2, eq_true w3, eq_true q, hcn, hadd, hso]
          · refine fin S hS s1 hb1' hk1 h81 ?_
            simp [l__law_some_watch_0, c1, c2, hg, hd, w0, w1, w2, eq_true w3, q]
        · by_cases w4 : way = 4
          · obtain ⟨l, s2, ol, hb2, hk2, hh⟩ := half_ok (s := s1) (b := b) (k3 := k3) (k5 := k5) (k8 := k8) (n := os.length) (way := way) (spared := spared) (t := t) (times := times) (m := m) (x11 := some (.lst (S.map D.int))) hb1 (by omega) (by omega) hG
            unfold gEnv at hh
            simp only [show sl none = Slot.no from rfl, show ∀ d, sl (some d) = Slot.val d from fun _ => rfl] at hh
            refine fin l ol s2 (hb2.mono (by omega)) (hk1.trans hk2) (hk2.at_ h81 n8) ?_
            simp [l__law_some_watch_0, c1, c2, hg, hd, w0, w1, w2, w3, eq_true w4, hh]
          · refine fin S hS s1 hb1' hk1 h81 ?_
            simp [l__law_some_watch_0, c1, c2, hg, hd, w0, w1, w2, w3, w4]
end
end K58

namespace K58
open PySem QB L2
section
variable {s : Store} {st : List (Option Int)} {rs : List (List (List Int))} {r : List (List Int)}
def RowK (n : Nat) (R : List (List Int)) : Prop := R.length = n ∧ ∀ x ∈ R, OkS n x
theorem row_turn {s0 : Store} {os : List (Option Int)} {b k3 k5 : Nat} {way spared t times N : Int} {x7 x8 x9 x10 x11 : Option D} {L : List D} (h3 : s[k3]? = some (.lst (os.map soD))) (h5 : s[k5]? = some (.lst L)) (hL : L.length ≤ 1000) (hl : os.length ≤ 4) (n3 : k3 ≠ b) (n5 : k5 ≠ b) (n35 : k3 ≠ k5) (hb : BOk b N s) (hN : N + 40 ≤ 1000000) (hw : 0 ≤ way ∧ way < 6)
    (h0 : Kp b s0 s) (h05 : s0.length ≤ k5) :
    ∃ R s' x8' x9' x10' x11', RowK os.length R ∧ BOk b (N + 40) s' ∧ Kp b s0 s' ∧ s'[k3]? = some (.lst (os.map soD)) ∧ s'[k5]? = some (.lst (L ++ [rowD R])) ∧
      (setM 7 (.int t) [.val (.ref b), .val (.int os.length), .val (.int times), .val (.ref k3), .val (.int way), .val (.ref k5), .val (.int spared), sl x7, sl x8, sl x9, sl x10, sl x11, .no] s).toS (fun _ => l__law_some_watch_1) =
        .nx [.val (.ref b), .val (.int os.length), .val (.int times), .val (.ref k3), .val (.int way), .val (.ref k5), .val (.int spared), sl (some (.int t)), sl x8', sl x9', sl x10', sl x11', .no] s' := by
  have c1 : (-4611686018427387904 : Int) < os.length := by omega
  have c2 : (os.length : Int) < 4611686018427387904 := by omega
  have l3 := (List.getElem?_eq_some_iff.mp h3).1
  have l5 := (List.getElem?_eq_some_iff.mp h5).1
  have z : szOk (L.length + 1) = true := szOk_of (by omega)
  have hlt := hb.lt
  have hk0 : Kp b s (s ++ [Cell.lst []]) := (Kp.refl s).push
  obtain ⟨e', s', hr, ⟨x9', x10', x11', rfl⟩, R, hk8, hRl, hRo, hb', hk'⟩ := for_inv (f := setM 9) (body := l__law_some_watch_0) (g := D.int)
    (fun done e s' => (∃ x9 x10 x11, e = gEnv b k3 k5 s.length os.length times way spared t x9 x10 x11 none) ∧ ∃ R : List (List Int), s'[s.length]? = some (.lst (R.map setD)) ∧ R.length = done.length ∧ (∀ x ∈ R, OkS os.length x) ∧ BOk b (N + 8 * done.length) s' ∧ Kp b s s') (rangeI os.length)
    (e := gEnv b k3 k5 s.length os.length times way spared t x9 x10 x11 none) (s := s ++ [.lst []]) ⟨⟨x9, x10, x11, rfl⟩, [], get_push, rfl, fun x hx => (by cases hx), by simpa using hb.push, hk0⟩ (by
      rintro done m rest e s1 hx ⟨⟨y9, y10, y11, rfl⟩, R, hk8, hRl, hRo, hb1, hk1⟩
      have hd : done.length ≤ 4 := by
        have := congrArg List.length hx
        rw [rangeI_cast, List.length_append, List.length_cons] at this; omega
      obtain ⟨l, s2, x10', x11', ol, hb2, hk2, hturn⟩ := some_turn (s := s1) (b := b) (k3 := k3) (k5 := k5) (k8 := s.length) (way := way) (spared := spared) (t := t) (times := times) (m := m) (x9 := y9) (x10 := y10) (x11 := y11) (hk1.at_ h3 n3) hk8 (by rw [List.length_map]; omega) hl n3 (by omega) hb1 (by omega) hw
      have l8 : s.length < s2.length := Nat.lt_of_lt_of_le (List.getElem?_eq_some_iff.mp hk8).1 hk2.len
      refine ⟨_, _, .inl hturn, ⟨_, _, _, rfl⟩, R ++ [l], ?_, by simp [hRl], ?_, (hb2.mono (by simp; omega)).put (by omega), (hk1.trans hk2).put (Nat.le_refl _)⟩
      · rw [put_self l8, List.map_append]; rfl
      · intro x hx
        rcases List.mem_append.mp hx with hx | hx
        · exact hRo x hx
        · rw [List.mem_singleton.mp hx]; exact ol)
  rw [rangeI_cast] at hRl hb'
  rw [← rngL_I, Int.toNat_natCast] at hr
  have h5' := hk'.at_ h5 n5
  have h3' := hk'.at_ h3 n3
  refine ⟨R, s'.set k5 (.lst (L ++ [rowD R])), some (.ref s.length), x9', x10', x11', ⟨hRl, hRo⟩, (hb'.mono (by omega)).put n5, (h0.trans hk').put h05, ?_, put_self (List.getElem?_eq_some_iff.mp h5').1, ?_⟩
  · rw [List.getElem?_set_ne (fun e => n35 e.symm)]; exact h3'
  · unfold gEnv at hr
    simp only [show sl none = Slot.no from rfl, show ∀ d, sl (some d) = Slot.val d from fun _ => rfl] at hr ⊢
    simp [l__law_some_watch_1, c1, c2]
    rw [hr]
    rw [show rowD R = .tup (R.map setD) from rfl]
    simp [h5', hk8, z]
theorem rows_loop {os : List (Option Int)} {b k3 k5 : Nat} {way spared times N : Int} (h3 : s[k3]? = some (.lst (os.map soD))) (h5 : s[k5]? = some (.lst [])) (hl : os.length ≤ 4) (n3 : k3 ≠ b) (n5 : k5 ≠ b) (n35 : k3 ≠ k5) (hb : BOk b N s) (hN : N + 400 ≤ 1000000) (hw : 0 ≤ way ∧ way < 6) (ht : 1 ≤ times ∧ times ≤ 9)
    {s0 : Store} (h0 : Kp b s0 s) (h05 : s0.length ≤ k5) :
    ∃ (rs : List (List (List Int))) (s' : Store) (x7 x8 x9 x10 x11 : Option D), (rs.length : Int) = times ∧ (∀ r ∈ rs, RowK os.length r) ∧ BOk b (N + 400) s' ∧ Kp b s0 s' ∧ s'[k3]? = some (.lst (os.map soD)) ∧ s'[k5]? = some (.lst (rs.map rowD)) ∧
      forL (setM 7) l__law_some_watch_1 (rngL 0 times.toNat) [.val (.ref b), .val (.int os.length), .val (.int times), .val (.ref k3), .val (.int way), .val (.ref k5), .val (.int spared), .no, .no, .no, .no, .no, .no] s =
        .nx [.val (.ref b), .val (.int os.length), .val (.int times), .val (.ref k3), .val (.int way), .val (.ref k5), .val (.int spared), sl x7, sl x8, sl x9, sl x10, sl x11, .no] s' := by
  obtain ⟨e', s', hr, ⟨x7, x8, x9, x10, x11, rfl⟩, rs, h5', hRl, hRo, hb', hk', h3'⟩ := for_inv (f := setM 7) (body := l__law_some_watch_1) (g := D.int)
    (fun done e s' => (∃ x7 x8 x9 x10 x11, e = [.val (.ref b), .val (.int os.length), .val (.int times), .val (.ref k3), .val (.int way), .val (.ref k5), .val (.int spared), sl x7, sl x8, sl x9, sl x10, sl x11, .no]) ∧ ∃ rs : List (List (List Int)), s'[k5]? = some (.lst (rs.map rowD)) ∧ rs.length = done.length ∧ (∀ r ∈ rs, RowK os.length r) ∧ BOk b (N + 40 * done.length) s' ∧ Kp b s0 s' ∧ s'[k3]? = some (.lst (os.map soD))) (rangeI times)
    (e := [.val (.ref b), .val (.int os.length), .val (.int times), .val (.ref k3), .val (.int way), .val (.ref k5), .val (.int spared), sl none, sl none, sl none, sl none, sl none, .no]) (s := s) ⟨⟨none, none, none, none, none, rfl⟩, [], h5, rfl, fun x hx => (by cases hx), by simpa using hb, h0, h3⟩ (by
      rintro done t rest e s1 hx ⟨⟨x7, x8, x9, x10, x11, rfl⟩, rs, h5, hRl, hRo, hb1, hk1, h3⟩
      have hd : done.length ≤ 8 := by
        have := congrArg List.length hx
        rw [rangeI_length, List.length_append, List.length_cons] at this; omega
      obtain ⟨R, s2, x8', x9', x10', x11', hR, hb2, hk2, h32, h52, hturn⟩ := row_turn (s := s1) (s0 := s0) (os := os) (b := b) (k3 := k3) (k5 := k5) (way := way) (spared := spared) (t := t) (times := times) (x7 := x7) (x8 := x8) (x9 := x9) (x10 := x10) (x11 := x11) h3 h5 (by rw [List.length_map]; omega) hl n3 n5 n35 hb1 (by omega) hw hk1 h05
      refine ⟨_, _, .inl hturn, ⟨_, _, _, _, _, rfl⟩, rs ++ [R], ?_, by simp [hRl], ?_, hb2.mono (by simp; omega), hk2, h32⟩
      · rw [h52, List.map_append]; rfl
      · intro x hx
        rcases List.mem_append.mp hx with hx | hx
        · exact hRo x hx
        · rw [List.mem_singleton.mp hx]; exact hR)
  rw [rangeI_length] at hRl hb'
  rw [← rngL_I] at hr
  exact ⟨rs, s', x7, x8, x9, x10, x11, by omega, hRo, hb'.mono (by omega), hk', h3', h5', hr⟩
end
end K58

namespace K58
open PySem QB L2
section
variable {s : Store} {st : List (Option Int)} {rs : List (List (List Int))} {r : List (List Int)}
theorem stops_drawn {b : Nat} {N n times : Int} (hb : BOk b N s) (hN : N + 8 ≤ 1000000) (hn : 0 ≤ n ∧ n ≤ 4) (ht : 1 ≤ times ∧ times ≤ 9) :
    ∃ (os : List (Option Int)) (s' : Store), (os.length : Int) = n ∧ (∀ t, some t ∈ os → 0 ≤ t ∧ t < times) ∧ BOk b (N + 8) s' ∧ Kp b s s' ∧
      runComp (.rng 0 n.toNat) (setM 9) (rt true) (stepL (ifM (boolM (op2M eqD (toB (callM p__law_take (consM (varM 0) (consM (rt (.int 2)) (rt []))))) (toB (rt (.int 0))))) (callM p__law_take (consM (varM 0) (consM (varM 2) (rt [])))) (rt .non))) [9] (.lst []) [.val (.ref b), .val (.int n), .val (.int times), .no, .no, .no, .no, .no, .no, .no, .no, .no, .no] s =
        .ok (.lst (os.map soD)) [.val (.ref b), .val (.int n), .val (.int times), .no, .no, .no, .no, .no, .no, .no, .no, .no, .no] s' := by
  have rl := rangeI_length (n := n)
  obtain ⟨ys, s', hc, os, rfl, h1, h2, h3, h4⟩ := comp_inv (f := setM 9) (cond := rt true) (elt := ifM (boolM (op2M eqD (toB (callM p__law_take (consM (varM 0) (consM (rt (.int 2)) (rt []))))) (toB (rt (.int 0))))) (callM p__law_take (consM (varM 0) (consM (varM 2) (rt [])))) (rt .non))
    (vs := [9]) (sr := .rng 0 n.toNat) (e0 := [.val (.ref b), .val (.int n), .val (.int times), .no, .no, .no, .no, .no, .no, .no, .no, .no, .no]) (s := s) (g := D.int)
    (fun done ys s' => ∃ os : List (Option Int), ys = os.map soD ∧ os.length = done.length ∧ (∀ t, some t ∈ os → 0 ≤ t ∧ t < times) ∧ BOk b (N + 2 * done.length) s' ∧ Kp b s s') (rangeI n) (fun s => by simp [← rngL_I]) (by rw [rl]; omega)
    ⟨[], rfl, rfl, fun x hx => (by cases hx), by simpa using hb, Kp.refl s⟩ (by
      rintro done k rest ys s3 hx ⟨os, rfl, h1, h2, hb3, hk3⟩
      have hd : done.length ≤ 3 := by
        have := congrArg List.length hx
        rw [rangeI_length, List.length_append, List.length_cons] at this; omega
      obtain ⟨c, s4, c0, c1, hc, hb4, hk4, _⟩ := takeP (many := 2) hb3 (by omega) (by omega) (by omega)
      refine ⟨by simp [bindE], by simp [bindE], true, s3, by simp [bindE], fun z => (by cases z), fun _ => ?_⟩
      by_cases q : c = 0
      · obtain ⟨v, s5, v0, v1, hv, hb5, hk5, _⟩ := takeP (many := times) hb4 (by omega) (by omega) (by omega)
        refine ⟨.int v, s5, by simp [bindE, hc, q, hv], os ++ [some v], by simp [soD], by simp [h1], ?_, hb5.mono (by simp; omega), (hk3.trans hk4).trans hk5⟩
        intro t ht
        simp only [List.mem_append, List.mem_singleton, Option.some.injEq] at ht
        rcases ht with ht | rfl
        · exact h2 t ht
        · exact ⟨v0, v1⟩
      · refine ⟨.non, s4, by simp [bindE, hc, q], os ++ [none], by simp [soD], by simp [h1], ?_, hb4.mono (by simp; omega), hk3.trans hk4⟩
        intro t ht
        simp at ht
        exact h2 t ht)
  rw [rl] at h1 h3
  refine ⟨os, s', by omega, h2, h3.mono (by omega), h4, ?_⟩
  rw [hc]
  simp
theorem pick3 {i : Int} (h0 : 0 ≤ i) (h1 : i < 3) : ∃ v : Int, 3 ≤ v ∧ v ≤ 9 ∧ atI [D.int 3, .int 5, .int 9] i = some (.int v) := by
  have : i = 0 ∨ i = 1 ∨ i = 2 := by omega
  rcases this with rfl | rfl | rfl
  · exact ⟨3, by decide, by decide, r_at0⟩
  · exact ⟨5, by decide, by decide, r_at1⟩
  · exact ⟨9, by decide, by decide, r_at2⟩
theorem some_watch_ok {b : Nat} {N : Int} (hb : BOk b N s) (hN : N + 500 ≤ 1000000) : ∃ st rs s', p__law_some_watch [.ref b] s = .ok (wl st rs) s' ∧ VS st ∧ VR st rs ∧ BOk b (N + 500) s' ∧ Kp b s s' := by
  obtain ⟨g, s1, g0, g1, hg, hb1, hk1, _⟩ := takeP (many := 3) hb (by omega) (by omega) (by omega)
  obtain ⟨i, s2, i0, i1, hi, hb2, hk2, _⟩ := takeP (many := 3) hb1 (by omega) (by omega) (by omega)
  obtain ⟨v, v3, v9, hv⟩ := pick3 i0 i1
  obtain ⟨u, s3, u0, u1, hu, hb3, hk3, _⟩ := takeP (many := v) hb2 (by omega) (by omega) (by omega)
  have c1 : (-4611686018427387904 : Int) < 2 + g := by omega
  have c2 : 2 + g < 4611686018427387904 := by omega
  have c3 : (-4611686018427387904 : Int) < 1 + u := by omega
  have c4 : 1 + u < 4611686018427387904 := by omega
  obtain ⟨os, s4, hol, hot, hb4, hk4, hc⟩ := stops_drawn (n := 2 + g) (times := 1 + u) hb3 (by omega) ⟨by omega, by omega⟩ ⟨by omega, by omega⟩
  have hk04 := ((hk1.trans hk2).trans hk3).trans hk4
  have hb4' := (hb4.push (t := [Cell.lst (os.map soD)]))
  obtain ⟨j, s5, j0, j1, hj, hb5, hk5, le5⟩ := takeP (many := 2 + g) hb4' (by omega) (by omega) (by omega)
  have nb4 : s4.length ≠ b := by have := hb4.lt; omega
  have h35 : s5[s4.length]? = some (.lst (os.map soD)) := hk5.at_ get_push nb4
  have hix : ixN os.length j = some j.toNat := by
    unfold ixN
    rw [if_pos j0, if_pos (by omega)]
  have hset : (os.map soD).set j.toNat .non = (os.set j.toNat none).map soD := by rw [List.map_set]; rfl
  generalize hst : os.set j.toNat none = st at hset
  have stl : st.length = os.length := by rw [← hst, List.length_set]
  have stt : ∀ t, some t ∈ st → 0 ≤ t ∧ t < 1 + u := fun t ht => by
    rw [← hst] at ht
    rcases List.mem_or_eq_of_mem_set ht with ht | ht
    · exact hot t ht
    · cases ht
  have stn : none ∈ st := by
    rw [← hst]
    exact List.mem_iff_getElem.mpr ⟨j.toNat, by rw [List.length_set]; omega, by simp⟩
  have hb6 : BOk b (N + 3 + 8 + 1) (s5.set s4.length (.lst (st.map soD))) := (hb5.mono (by omega)).put nb4
  obtain ⟨way, s7, w0, w1, hw, hb7, hk7, le7⟩ := takeP (many := 6) hb6 (by omega) (by omega) (by omega)
  have h37 : s7[s4.length]? = some (.lst (st.map soD)) := hk7.at_ (put_self (List.getElem?_eq_some_iff.mp h35).1) nb4
  have hb7' := (hb7.push (t := [Cell.lst []]))
  obtain ⟨spared, s8, p0, p1, hp, hb8, hk8, le8⟩ := takeP (many := 2 + g) hb7' (by omega) (by omega) (by omega)
  have nb7 : s7.length ≠ b := by have := hb7.lt; omega
  have h58 : s8[s7.length]? = some (.lst []) := hk8.at_ get_push nb7
  have l37 := (List.getElem?_eq_some_iff.mp h37).1
  have h38 : s8[s4.length]? = some (.lst (st.map soD)) := hk8.at_ (by rw [List.getElem?_append_left l37]; exact h37) nb4
  have K5 : Kp b s s5 := (hk04.push).trans hk5
  have K6 : Kp b s (s5.set s4.length (.lst (st.map soD))) := K5.put hk04.len
  have K8 : Kp b s s8 := ((K6.trans hk7).push).trans hk8
  have len7 : s.length ≤ s7.length := (K6.trans hk7).len
  obtain ⟨rs, s9, x7, x8, x9, x10, x11, hrl, hro, hb9, hk9, h39, h59, hr⟩ := rows_loop (s := s8) (s0 := s) (os := st) (b := b) (k3 := s4.length) (k5 := s7.length) (way := way) (spared := spared) (times := 1 + u) h38 h58 (by omega) nb4 nb7 (by omega) hb8 (by omega) ⟨w0, w1⟩ ⟨by omega, by omega⟩ K8 len7
  refine ⟨st, rs, s9, ?_, ⟨by omega, by omega, fun t ht => by have := stt t ht; omega, stn⟩, ⟨by omega, by omega, fun r hr => hro r hr, fun t ht => by have := stt t ht; omega⟩, hb9.mono (by omega), hk9⟩
  have en : (st.length : Int) = 2 + g := by omega
  rw [en] at hr
  simp [p__law_some_watch, b__law_some_watch, startE, hg, hi, hv, hu, c1, c2]
  rw [hc]
  simp [hj, h35, hix, hset, hw, hp, c3, c4]
  rw [hr]
  simp [h39, h59, wl, stD, rowsD]
end
end K58

namespace K58
open PySem QB L2
section
variable {s : Store} {st : List (Option Int)} {rs : List (List (List Int))} {r : List (List Int)} {ns : List Int}
theorem rep_one {d : D} : ∀ k : Nat, (List.replicate k [d]).flatten = List.replicate k d
  | 0 => rfl
  | k + 1 => by rw [List.replicate_succ, List.flatten_cons, rep_one k, List.replicate_succ]; rfl
theorem mul_rep {d : D} {k : Nat} {i : Int} (hi : i = k) (h1 : 1 ≤ k) (h2 : k ≤ 1000) : mulE (.tup [d]) (.int i) = some (.tup (List.replicate k d)) := by
  subst hi
  by_cases q : k = 1
  · subst q; rfl
  · rw [r_mulE_tup, if_neg (by omega)]
    have e : (decide ((2 : Int) ≤ (k : Int)) && decide ((k : Int) ≤ 1000) && decide (([d] : List D).length ≤ 1000) && !([d] : List D).isEmpty) = true := by
      rw [decide_eq_true (by omega), decide_eq_true (by omega)]; rfl
    show (if (decide ((2 : Int) ≤ (k : Int)) && decide ((k : Int) ≤ 1000) && decide (([d] : List D).length ≤ 1000) && !([d] : List D).isEmpty) = true then some (D.tup (repD [d] (k : Int).toNat)) else none) = _
    rw [if_pos e, Int.toNat_natCast]
    show some (D.tup (List.replicate k [d]).flatten) = _
    rw [rep_one]
def stN (n : Nat) : List (Option Int) := List.replicate n none
def stZ (n : Nat) : List (Option Int) := none :: List.replicate (n - 1) (some 0)
theorem stN_D {n : Nat} : stD (stN n) = .tup (List.replicate n .non) := by
  unfold stD stN
  rw [List.map_replicate]; rfl
theorem stZ_D {n : Nat} : stD (stZ n) = .tup (.non :: List.replicate (n - 1) (.int 0)) := by
  unfold stD stZ
  rw [List.map_cons, List.map_replicate]; rfl
theorem VS_N (hs : VS st) : VS (stN st.length) where
  n2 := by unfold stN; rw [List.length_replicate]; exact hs.n2
  n4 := by unfold stN; rw [List.length_replicate]; exact hs.n4
  tm := fun t ht => by have := (List.mem_replicate.mp ht).2; cases this
  ex := by
    have := hs.n2
    exact List.mem_replicate.mpr ⟨by omega, rfl⟩
theorem VS_Z (hs : VS st) : VS (stZ st.length) where
  n2 := by have := hs.n2; unfold stZ; rw [List.length_cons, List.length_replicate]; omega
  n4 := by have := hs.n4; have := hs.n2; unfold stZ; rw [List.length_cons, List.length_replicate]; omega
  tm := fun t ht => by
    rcases List.mem_cons.mp ht with ht | ht
    · cases ht
    · have := (List.mem_replicate.mp ht).2
      cases this; exact ⟨Int.le_refl _, by decide⟩
  ex := List.mem_cons_self
theorem VR_N (hs : VS st) (h : VR st rs) : VR (stN st.length) rs where
  l1 := h.l1
  l9 := h.l9
  row := fun r hr => by
    have e : (stN st.length).length = st.length := by unfold stN; rw [List.length_replicate]
    rw [e]; exact h.row r hr
  last := fun t ht => by have := (List.mem_replicate.mp ht).2; cases this
theorem VR_Z (hs : VS st) (h : VR st rs) : VR (stZ st.length) rs where
  l1 := h.l1
  l9 := h.l9
  row := fun r hr => by
    have := hs.n2
    have e : (stZ st.length).length = st.length := by unfold stZ; rw [List.length_cons, List.length_replicate]; omega
    rw [e]; exact h.row r hr
  last := fun t ht => by
    have := h.l1
    rcases List.mem_cons.mp ht with ht | ht
    · cases ht
    · have := (List.mem_replicate.mp ht).2
      cases this; omega
def lEnv (ns : List Int) (k : Int) (b : Nat) (f : Bool) (x4 x5 x6 : Option D) : PEnv := [.val (.wls (ns.map D.int)), .val (.int k), .val (.ref b), .val (.bl f), sl x4, sl x5, sl x6]
theorem law_0 {k t N : Int} {b : Nat} {f : Bool} {x4 x5 x6 : Option D} (hb : BOk b N s) (hN : N + 501 ≤ 1000000) :
    ∃ x5' x6' s', (setM 4 (.int t) (lEnv ns k b f x4 x5 x6) s).toS (fun _ => l_law_0) = .nx (lEnv ns k b (!f) (some (.int t)) x5' x6') s' ∧ BOk b (N + 501) s' := by
  obtain ⟨st, rs, s1, hw, hs, hv, hb1, hk1⟩ := some_watch_ok hb (by omega)
  unfold lEnv
  simp only [show ∀ d, sl (some d) = Slot.val d from fun _ => rfl]
  by_cases q : t = 2
  · have h2 := hs.n2; have h4 := hs.n4
    obtain ⟨c, s2, c0, c1, hc, hb2, hk2, _⟩ := takeP (many := 2) hb1 (by omega) (by omega) (by omega)
    have m1 : mulE (.tup [.non]) (.int st.length) = some (stD (stN st.length)) := by rw [stN_D]; exact mul_rep rfl (by omega) (by omega)
    have m2 : mulE (.tup [.int 0]) (.int ((st.length : Int) - 1)) = some (.tup (List.replicate (st.length - 1) (.int 0))) := mul_rep (by omega) (by omega) (by omega)
    have m3 : addD (.tup [.non]) (.tup (List.replicate (st.length - 1) (.int 0))) = some (stD (stZ st.length)) := by
      rw [stZ_D]
      show (if szOk (1 + (List.replicate (st.length - 1) (D.int 0)).length) = true then _ else _) = _
      rw [List.length_replicate, if_pos (szOk_of (by omega))]; rfl
    have two : c = 0 ∨ c = 1 := by omega
    rcases two with rfl | rfl
    · obtain ⟨s3, hr, t3, e3⟩ := right_ok (s := s2) (VS_N hs) (VR_N hs hv) (f := f)
      refine ⟨some (wl (stN st.length) rs), some (stD (stN st.length)), s3, ?_, by rw [e3]; exact (hb2.mono (by omega)).push⟩
      unfold wl at hr ⊢
      have hw' := hw
      unfold wl at hw'
      simp [l_law_0, hw', eq_true q, m1, m2, m3, hc, hr, sl]
    · obtain ⟨s3, hr, t3, e3⟩ := right_ok (s := s2) (VS_Z hs) (VR_Z hs hv) (f := f)
      refine ⟨some (wl (stZ st.length) rs), some (stD (stZ st.length)), s3, ?_, by rw [e3]; exact (hb2.mono (by omega)).push⟩
      unfold wl at hr ⊢
      have hw' := hw
      unfold wl at hw'
      simp [l_law_0, hw', eq_true q, m1, m2, m3, hc, hr, sl]
  · obtain ⟨s3, hr, t3, e3⟩ := right_ok (s := s1) hs hv (f := f)
    refine ⟨some (wl st rs), x6, s3, ?_, by rw [e3]; exact (hb1.mono (by omega)).push⟩
    simp [l_law_0, hw, q, hr, sl]
theorem law_1 {k : Int} {x1 x2 x3 x4 x5 x6 : Option D} (hk0 : 0 ≤ k) :
    ∃ y2 y3 y4 y5 y6 s', (setM 1 (.int k) [.val (.wls (ns.map D.int)), sl x1, sl x2, sl x3, sl x4, sl x5, sl x6] s).toS (fun _ => l_law_1) = .nx [.val (.wls (ns.map D.int)), .val (.int k), sl y2, sl y3, sl y4, sl y5, sl y6] s' := by
  obtain ⟨g, hg⟩ := cell_ok (ns := ns) (k := k) (s := s) hk0
  have hbx := box_ok (g := g) (s := s)
  have hb := box_BOk (g := g) (s := s)
  obtain ⟨f, s1, f0, f1, hf, hb1, hk1, _⟩ := takeP (many := 2) hb (by omega) (by omega) (by omega)
  obtain ⟨e', s', hr, f', ⟨y4, y5, y6, rfl⟩, _⟩ := for_inv (f := setM 4) (body := l_law_0) (g := D.int) (fun done e s' => ∃ f', (∃ y4 y5 y6, e = lEnv ns k s.length f' y4 y5 y6) ∧ BOk s.length (0 + 1 + 501 * done.length) s') (rangeI 3)
    (e := lEnv ns k s.length (decide (f = 0)) x4 x5 x6) (s := s1) ⟨_, ⟨x4, x5, x6, rfl⟩, by simpa using hb1⟩ (by
      rintro done t rest e s2 hx ⟨f', ⟨y4, y5, y6, rfl⟩, hb2⟩
      have hd : done.length ≤ 2 := by
        have := congrArg List.length hx
        rw [rangeI_length, List.length_append, List.length_cons] at this; omega
      obtain ⟨z5, z6, s3, ht, hb3⟩ := law_0 (ns := ns) (k := k) (f := f') (t := t) (x4 := y4) (x5 := y5) (x6 := y6) hb2 (by omega)
      exact ⟨_, _, .inl ht, !f', ⟨_, _, _, rfl⟩, hb3.mono (by simp; omega)⟩)
  have e3 : rngL 0 3 = (rangeI 3).map D.int := rngL_I (n := 3)
  rw [← e3] at hr
  refine ⟨some (.ref s.length), some (.bl f'), y4, y5, y6, s', ?_⟩
  unfold lEnv at hr
  simp only [show ∀ d, sl (some d) = Slot.val d from fun _ => rfl]
  simp [-r_forL_cons, l_law_1, hg, hbx, hf]
  rw [hr]
theorem law_ok (ns : List Int) (S : Store) : ∃ S', p_law [.wls (ns.map D.int)] S = .ok (.bl true) S' := by
  have key : ∀ n : Int, ∃ e' s', forL (setM 1) l_law_1 ((rangeI n).map D.int) [.val (.wls (ns.map D.int)), sl none, sl none, sl none, sl none, sl none, sl none] S = .nx e' s' := by
    intro n
    obtain ⟨e', s', hr, _⟩ := for_inv (f := setM 1) (body := l_law_1) (g := D.int) (fun done e s' => ∃ x1 x2 x3 x4 x5 x6, e = [.val (.wls (ns.map D.int)), sl x1, sl x2, sl x3, sl x4, sl x5, sl x6]) (rangeI n)
      (e := [.val (.wls (ns.map D.int)), sl none, sl none, sl none, sl none, sl none, sl none]) (s := S) ⟨_, _, _, _, _, _, rfl⟩ (by
        rintro done k rest e s1 hx ⟨x1, x2, x3, x4, x5, x6, rfl⟩
        have hk : k ∈ rangeI n := by rw [hx]; simp
        obtain ⟨y2, y3, y4, y5, y6, s2, ht⟩ := law_1 (ns := ns) (s := s1) (x1 := x1) (x2 := x2) (x3 := x3) (x4 := x4) (x5 := x5) (x6 := x6) (rangeI_mem.mp hk).1
        exact ⟨_, _, .inl ht, some (.int k), y2, y3, y4, y5, y6, rfl⟩)
    exact ⟨e', s', hr⟩
  simp only [show sl none = Slot.no from rfl] at key
  have hm : ∃ m : Int, 2 ≤ m ∧ m ≤ 4 ∧ m = (if 2 < if (ns.length : Int) < 4 then (ns.length : Int) else 4 then if (ns.length : Int) < 4 then (ns.length : Int) else 4 else 2) := ⟨_, by split <;> omega, by split <;> (try split) <;> omega, rfl⟩
  obtain ⟨m, m1, m2, hm⟩ := hm
  have rg : rngOk m = true := by simp [rngOk]; omega
  obtain ⟨e', s', hr⟩ := key m
  rw [← rngL_I] at hr
  refine ⟨s', ?_⟩
  simp [-r_forL_cons, p_law, b_law, startE, ← hm, rg, hr]
end
end K58

namespace K58
open PySem PySem.Spec PyProof.Rows L2 QB
def d_is_integer : He.DefD := ⟨("is_integer", none), "is_integer", "is_integer", defArgs (top 9), defBody (top 9), defScope (top 9), [], []⟩
def d_is_between : He.DefD := ⟨("is_between", none), "is_between", "is_between", defArgs (top 10), defBody (top 10), defScope (top 10), [], []⟩
def d_is_tuple_of : He.DefD := ⟨("is_tuple_of", none), "is_tuple_of", "is_tuple_of", defArgs (top 11), defBody (top 11), defScope (top 11), [], []⟩
def d_is_row : He.DefD := ⟨("is_row", none), "is_row", "is_row", defArgs (top 12), defBody (top 12), defScope (top 12), [], []⟩
def d_is_rising : He.DefD := ⟨("is_rising", none), "is_rising", "is_rising", defArgs (top 13), defBody (top 13), defScope (top 13), [], []⟩
def d_is_set : He.DefD := ⟨("is_set", none), "is_set", "is_set", defArgs (top 14), defBody (top 14), defScope (top 14), [], []⟩
def d_are_stops : He.DefD := ⟨("are_stops", none), "are_stops", "are_stops", defArgs (top 22), defBody (top 22), defScope (top 22), [], []⟩
def d_are_suspects : He.DefD := ⟨("are_suspects", none), "are_suspects", "are_suspects", defArgs (top 23), defBody (top 23), defScope (top 23), [], []⟩
def d_are_rows : He.DefD := ⟨("are_rows", none), "are_rows", "are_rows", defArgs (top 24), defBody (top 24), defScope (top 24), [], []⟩
def d_Watch___init__ : He.DefD := ⟨("Watch", some "__init__"), "__init__", "Watch.__init__", defArgs (inClass (top 25) 0), defBody (inClass (top 25) 0), defScope (inClass (top 25) 0), [], []⟩
def d_Watch___eq__ : He.DefD := ⟨("Watch", some "__eq__"), "__eq__", "Watch.__eq__", defArgs (inClass (top 25) 1), defBody (inClass (top 25) 1), defScope (inClass (top 25) 1), [], []⟩
def d_up_at : He.DefD := ⟨("up_at", none), "up_at", "up_at", defArgs (top 26), defBody (top 26), defScope (top 26), [], []⟩
def d_lasting : He.DefD := ⟨("lasting", none), "lasting", "lasting", defArgs (top 27), defBody (top 27), defScope (top 27), [], []⟩
def d_suspected_by : He.DefD := ⟨("suspected_by", none), "suspected_by", "suspected_by", defArgs (top 28), defBody (top 28), defScope (top 28), [], []⟩
def d_is_complete : He.DefD := ⟨("is_complete", none), "is_complete", "is_complete", defArgs (top 29), defBody (top 29), defScope (top 29), [], []⟩
def d_is_spared : He.DefD := ⟨("is_spared", none), "is_spared", "is_spared", defArgs (top 30), defBody (top 30), defScope (top 30), [], []⟩
def d_has_accuracy : He.DefD := ⟨("has_accuracy", none), "has_accuracy", "has_accuracy", defArgs (top 31), defBody (top 31), defScope (top 31), [], []⟩
def d_has_name : He.DefD := ⟨("has_name", none), "has_name", "has_name", defArgs (top 32), defBody (top 32), defScope (top 32), [], []⟩
def d_watch_has : He.DefD := ⟨("watch_has", none), "watch_has", "watch_has", defArgs (top 33), defBody (top 33), defScope (top 33), [], []⟩
def d_watch_class : He.DefD := ⟨("watch_class", none), "watch_class", "watch_class", defArgs (top 34), defBody (top 34), defScope (top 34), [], []⟩
def d_shared_row : He.DefD := ⟨("shared_row", none), "shared_row", "shared_row", defArgs (top 35), defBody (top 35), defScope (top 35), [], []⟩
def d_shared_watch : He.DefD := ⟨("shared_watch", none), "shared_watch", "shared_watch", defArgs (top 36), defBody (top 36), defScope (top 36), [], []⟩
def d_leader_in : He.DefD := ⟨("leader_in", none), "leader_in", "leader_in", defArgs (top 37), defBody (top 37), defScope (top 37), [], []⟩
def d_leader_at : He.DefD := ⟨("leader_at", none), "leader_at", "leader_at", defArgs (top 38), defBody (top 38), defScope (top 38), [], []⟩
def d_settles : He.DefD := ⟨("settles", none), "settles", "settles", defArgs (top 39), defBody (top 39), defScope (top 39), [], []⟩
def d__law_cell : He.DefD := ⟨("_law_cell", none), "_law_cell", "_law_cell", defArgs (top 41), defBody (top 41), defScope (top 41), [], []⟩
def d__law_box : He.DefD := ⟨("_law_box", none), "_law_box", "_law_box", defArgs (top 42), defBody (top 42), defScope (top 42), [], []⟩
def d__law_take : He.DefD := ⟨("_law_take", none), "_law_take", "_law_take", defArgs (top 43), defBody (top 43), defScope (top 43), [], []⟩
def d__law_same : He.DefD := ⟨("_law_same", none), "_law_same", "_law_same", defArgs (top 44), defBody (top 44), defScope (top 44), [], []⟩
def d__law_some_watch : He.DefD := ⟨("_law_some_watch", none), "_law_some_watch", "_law_some_watch", defArgs (top 45), defBody (top 45), defScope (top 45), [], []⟩
def d__law_up : He.DefD := ⟨("_law_up", none), "_law_up", "_law_up", defArgs (top 46), defBody (top 46), defScope (top 46), [], []⟩
def d__law_has : He.DefD := ⟨("_law_has", none), "_law_has", "_law_has", defArgs (top 47), defBody (top 47), defScope (top 47), [], []⟩
def d__law_class : He.DefD := ⟨("_law_class", none), "_law_class", "_law_class", defArgs (top 48), defBody (top 48), defScope (top 48), [], []⟩
def d__law_shared : He.DefD := ⟨("_law_shared", none), "_law_shared", "_law_shared", defArgs (top 49), defBody (top 49), defScope (top 49), [], []⟩
def d__law_leader_of : He.DefD := ⟨("_law_leader_of", none), "_law_leader_of", "_law_leader_of", defArgs (top 50), defBody (top 50), defScope (top 50), [], []⟩
def d__law_settles : He.DefD := ⟨("_law_settles", none), "_law_settles", "_law_settles", defArgs (top 51), defBody (top 51), defScope (top 51), [], []⟩
def d__law_made : He.DefD := ⟨("_law_made", none), "_law_made", "_law_made", defArgs (top 52), defBody (top 52), defScope (top 52), [], []⟩
def d__law_right : He.DefD := ⟨("_law_right", none), "_law_right", "_law_right", defArgs (top 53), defBody (top 53), defScope (top 53), [], []⟩
def d__law_shared_right : He.DefD := ⟨("_law_shared_right", none), "_law_shared_right", "_law_shared_right", defArgs (top 54), defBody (top 54), defScope (top 54), [], []⟩
def d_law : He.DefD := ⟨("law", none), "law", "law", defArgs (top 55), defBody (top 55), defScope (top 55), [], []⟩
def fn : List He.DefD := [d_is_integer, d_is_between, d_is_tuple_of, d_is_row, d_is_rising, d_is_set, d_are_stops, d_are_suspects, d_are_rows, d_Watch___init__, d_Watch___eq__, d_up_at, d_lasting, d_suspected_by, d_is_complete, d_is_spared, d_has_accuracy, d_has_name, d_watch_has, d_watch_class, d_shared_row, d_shared_watch, d_leader_in, d_leader_at, d_settles, d__law_cell, d__law_box, d__law_take, d__law_same, d__law_some_watch, d__law_up, d__law_has, d__law_class, d__law_shared, d__law_leader_of, d__law_settles, d__law_made, d__law_right, d__law_shared_right, d_law]
def xs : List XB := [attX "stops" ["Watch"], attX "rows" ["Watch"], isoX "Watch" ["Watch"], (fun K => tupB K "NAMES" [.str ("complete" : Str), .str ("weakly complete" : Str), .str ("accurate" : Str), .str ("weakly accurate" : Str), .str ("later accurate" : Str), .str ("later weakly accurate" : Str)]), (fun K => tupB K "CLASSES" [.str ("P" : Str), .str ("S" : Str), .str ("later P" : Str), .str ("later S" : Str)])]
def fa : List He.Fa := [.glo "is_integer", .glo "is_between", .glo "is_tuple_of", .glo "is_row", .glo "is_rising", .glo "is_set", .glo "are_stops", .glo "are_suspects", .glo "are_rows", .glo "up_at", .glo "lasting", .glo "suspected_by", .glo "is_complete", .glo "is_spared", .glo "has_accuracy", .glo "has_name", .glo "watch_has", .glo "watch_class", .glo "shared_row", .glo "shared_watch", .glo "leader_in", .glo "leader_at", .glo "settles", .glo "_law_cell", .glo "_law_box", .glo "_law_take", .glo "_law_same", .glo "_law_some_watch", .glo "_law_up", .glo "_law_has", .glo "_law_class", .glo "_law_shared", .glo "_law_leader_of", .glo "_law_settles", .glo "_law_made", .glo "_law_right", .glo "_law_shared_right", .glo "law", .free "abs", .free "all", .free "any", .free "bool", .free "dict", .free "enumerate", .free "int", .free "isinstance", .free "len", .free "list", .free "max", .free "min", .free "range", .free "set", .free "sorted", .free "str", .free "sum", .free "tuple", .free "zip", .int "MOST_MACHINES" 4, .int "MOST_TIME" 8, .int "MOST_ASKED" 1000, .str "NONE" "none", .glo "Watch", .mkr "Watch", .meth "Watch" "__eq__"]
def loose0 : List Str := ["MachineError", "InvalidMachine", "InvalidNumber", "InvalidRows", "InvalidName", "InvalidStops", "is_integer", "is_between", "is_tuple_of", "is_row", "is_rising", "is_set"]
def loose1 : List Str := ["MOST_MACHINES", "MOST_TIME", "MOST_ASKED", "NAMES", "CLASSES", "NONE", "are_stops", "are_suspects", "are_rows", "Watch", "up_at", "lasting"]
def loose2 : List Str := ["suspected_by", "is_complete", "is_spared", "has_accuracy", "has_name", "watch_has", "watch_class", "shared_row", "shared_watch", "leader_in", "leader_at", "settles"]
def loose3 : List Str := ["_law_cell", "_law_box", "_law_take", "_law_same", "_law_some_watch", "_law_up", "_law_has", "_law_class", "_law_shared", "_law_leader_of", "_law_settles", "_law_made"]
def loose4 : List Str := ["_law_right", "_law_shared_right"]
def loose : List Str := loose0 ++ loose1 ++ loose2 ++ loose3 ++ loose4
abbrev R : PySem.W.OpenRow := PySem.W.OpenLaw.row PySem.Challenge.rw_quorumbench_k58_whole_classes_of_watches
abbrev hk : PySem.W.Hook := hookX 5 fa fn xs
def ob (s : PySem.W.SharedT) : He.AlD × Bool := obsXG 5 fa fn xs (HandSHeadRun.getT s)
theorem ob_eq (s : PySem.W.SharedT) : ob s = hk.obs s.abs := obsXG_eq (HandSHeadRun.getT_eq s)
theorem run (w : World) : HandSHeadRun.RunEq R (PySem.W.view R.prog [55]) hk ob 20000 loose w := by
  intro os
  kernel_rfl
theorem facts {P : Program} {w : World} {K : PySem.W.Frag} {h : Heap} {mg : Str → Option Value} {f : Addr} (X : K.In h) (Gm : h.Ns mainGlobals mg) (hfa : mg ("law" : Str) = some (.ref f)) (c : SaysX fa fn xs K) :
    ∃ fd : FuncData, (∀ (s : Shared) (v : Value), BindsTo s fd ⟨[v], []⟩ [("script", v)]) ∧ ∀ base : Heap, K.In base → base.Ns mainGlobals mg → FnOk P w K mg base CX0 12 f fd ["script"] (fun vs H Q _ => spOf K mg 1 p_law vs H Q E0) := by
  obtain ⟨fd_is_integer, F_is_integer⟩ := c.1.def_ 0 (d := d_is_integer) rfl
  obtain ⟨fd_is_between, F_is_between⟩ := c.1.def_ 1 (d := d_is_between) rfl
  obtain ⟨fd_is_tuple_of, F_is_tuple_of⟩ := c.1.def_ 2 (d := d_is_tuple_of) rfl
  obtain ⟨fd_is_row, F_is_row⟩ := c.1.def_ 3 (d := d_is_row) rfl
  obtain ⟨fd_is_rising, F_is_rising⟩ := c.1.def_ 4 (d := d_is_rising) rfl
  obtain ⟨fd_is_set, F_is_set⟩ := c.1.def_ 5 (d := d_is_set) rfl
  obtain ⟨fd_are_stops, F_are_stops⟩ := c.1.def_ 6 (d := d_are_stops) rfl
  obtain ⟨fd_are_suspects, F_are_suspects⟩ := c.1.def_ 7 (d := d_are_suspects) rfl
  obtain ⟨fd_are_rows, F_are_rows⟩ := c.1.def_ 8 (d := d_are_rows) rfl
  obtain ⟨fd_Watch___init__, F_Watch___init__⟩ := c.1.def_ 9 (d := d_Watch___init__) rfl
  obtain ⟨fd_Watch___eq__, F_Watch___eq__⟩ := c.1.def_ 10 (d := d_Watch___eq__) rfl
  obtain ⟨fd_up_at, F_up_at⟩ := c.1.def_ 11 (d := d_up_at) rfl
  obtain ⟨fd_lasting, F_lasting⟩ := c.1.def_ 12 (d := d_lasting) rfl
  obtain ⟨fd_suspected_by, F_suspected_by⟩ := c.1.def_ 13 (d := d_suspected_by) rfl
  obtain ⟨fd_is_complete, F_is_complete⟩ := c.1.def_ 14 (d := d_is_complete) rfl
  obtain ⟨fd_is_spared, F_is_spared⟩ := c.1.def_ 15 (d := d_is_spared) rfl
  obtain ⟨fd_has_accuracy, F_has_accuracy⟩ := c.1.def_ 16 (d := d_has_accuracy) rfl
  obtain ⟨fd_has_name, F_has_name⟩ := c.1.def_ 17 (d := d_has_name) rfl
  obtain ⟨fd_watch_has, F_watch_has⟩ := c.1.def_ 18 (d := d_watch_has) rfl
  obtain ⟨fd_watch_class, F_watch_class⟩ := c.1.def_ 19 (d := d_watch_class) rfl
  obtain ⟨fd_shared_row, F_shared_row⟩ := c.1.def_ 20 (d := d_shared_row) rfl
  obtain ⟨fd_shared_watch, F_shared_watch⟩ := c.1.def_ 21 (d := d_shared_watch) rfl
  obtain ⟨fd_leader_in, F_leader_in⟩ := c.1.def_ 22 (d := d_leader_in) rfl
  obtain ⟨fd_leader_at, F_leader_at⟩ := c.1.def_ 23 (d := d_leader_at) rfl
  obtain ⟨fd_settles, F_settles⟩ := c.1.def_ 24 (d := d_settles) rfl
  obtain ⟨fd__law_cell, F__law_cell⟩ := c.1.def_ 25 (d := d__law_cell) rfl
  obtain ⟨fd__law_box, F__law_box⟩ := c.1.def_ 26 (d := d__law_box) rfl
  obtain ⟨fd__law_take, F__law_take⟩ := c.1.def_ 27 (d := d__law_take) rfl
  obtain ⟨fd__law_same, F__law_same⟩ := c.1.def_ 28 (d := d__law_same) rfl
  obtain ⟨fd__law_some_watch, F__law_some_watch⟩ := c.1.def_ 29 (d := d__law_some_watch) rfl
  obtain ⟨fd__law_up, F__law_up⟩ := c.1.def_ 30 (d := d__law_up) rfl
  obtain ⟨fd__law_has, F__law_has⟩ := c.1.def_ 31 (d := d__law_has) rfl
  obtain ⟨fd__law_class, F__law_class⟩ := c.1.def_ 32 (d := d__law_class) rfl
  obtain ⟨fd__law_shared, F__law_shared⟩ := c.1.def_ 33 (d := d__law_shared) rfl
  obtain ⟨fd__law_leader_of, F__law_leader_of⟩ := c.1.def_ 34 (d := d__law_leader_of) rfl
  obtain ⟨fd__law_settles, F__law_settles⟩ := c.1.def_ 35 (d := d__law_settles) rfl
  obtain ⟨fd__law_made, F__law_made⟩ := c.1.def_ 36 (d := d__law_made) rfl
  obtain ⟨fd__law_right, F__law_right⟩ := c.1.def_ 37 (d := d__law_right) rfl
  obtain ⟨fd__law_shared_right, F__law_shared_right⟩ := c.1.def_ 38 (d := d__law_shared_right) rfl
  obtain ⟨fd_law, F_law⟩ := c.1.def_ 39 (d := d_law) rfl
  let GG : G K mg := {
    a_is_integer := _, fd_is_integer := _, F_is_integer := F_is_integer, g_is_integer := He.glo_ok X Gm (c.1.fact 0 (f := .glo "is_integer") rfl),
    a_is_between := _, fd_is_between := _, F_is_between := F_is_between, g_is_between := He.glo_ok X Gm (c.1.fact 1 (f := .glo "is_between") rfl),
    a_is_tuple_of := _, fd_is_tuple_of := _, F_is_tuple_of := F_is_tuple_of, g_is_tuple_of := He.glo_ok X Gm (c.1.fact 2 (f := .glo "is_tuple_of") rfl),
    a_is_row := _, fd_is_row := _, F_is_row := F_is_row, g_is_row := He.glo_ok X Gm (c.1.fact 3 (f := .glo "is_row") rfl),
    a_is_rising := _, fd_is_rising := _, F_is_rising := F_is_rising, g_is_rising := He.glo_ok X Gm (c.1.fact 4 (f := .glo "is_rising") rfl),
    a_is_set := _, fd_is_set := _, F_is_set := F_is_set, g_is_set := He.glo_ok X Gm (c.1.fact 5 (f := .glo "is_set") rfl),
    a_are_stops := _, fd_are_stops := _, F_are_stops := F_are_stops, g_are_stops := He.glo_ok X Gm (c.1.fact 6 (f := .glo "are_stops") rfl),
    a_are_suspects := _, fd_are_suspects := _, F_are_suspects := F_are_suspects, g_are_suspects := He.glo_ok X Gm (c.1.fact 7 (f := .glo "are_suspects") rfl),
    a_are_rows := _, fd_are_rows := _, F_are_rows := F_are_rows, g_are_rows := He.glo_ok X Gm (c.1.fact 8 (f := .glo "are_rows") rfl),
    a_up_at := _, fd_up_at := _, F_up_at := F_up_at, g_up_at := He.glo_ok X Gm (c.1.fact 9 (f := .glo "up_at") rfl),
    a_lasting := _, fd_lasting := _, F_lasting := F_lasting, g_lasting := He.glo_ok X Gm (c.1.fact 10 (f := .glo "lasting") rfl),
    a_suspected_by := _, fd_suspected_by := _, F_suspected_by := F_suspected_by, g_suspected_by := He.glo_ok X Gm (c.1.fact 11 (f := .glo "suspected_by") rfl),
    a_is_complete := _, fd_is_complete := _, F_is_complete := F_is_complete, g_is_complete := He.glo_ok X Gm (c.1.fact 12 (f := .glo "is_complete") rfl),
    a_is_spared := _, fd_is_spared := _, F_is_spared := F_is_spared, g_is_spared := He.glo_ok X Gm (c.1.fact 13 (f := .glo "is_spared") rfl),
    a_has_accuracy := _, fd_has_accuracy := _, F_has_accuracy := F_has_accuracy, g_has_accuracy := He.glo_ok X Gm (c.1.fact 14 (f := .glo "has_accuracy") rfl),
    a_has_name := _, fd_has_name := _, F_has_name := F_has_name, g_has_name := He.glo_ok X Gm (c.1.fact 15 (f := .glo "has_name") rfl),
    a_watch_has := _, fd_watch_has := _, F_watch_has := F_watch_has, g_watch_has := He.glo_ok X Gm (c.1.fact 16 (f := .glo "watch_has") rfl),
    a_watch_class := _, fd_watch_class := _, F_watch_class := F_watch_class, g_watch_class := He.glo_ok X Gm (c.1.fact 17 (f := .glo "watch_class") rfl),
    a_shared_row := _, fd_shared_row := _, F_shared_row := F_shared_row, g_shared_row := He.glo_ok X Gm (c.1.fact 18 (f := .glo "shared_row") rfl),
    a_shared_watch := _, fd_shared_watch := _, F_shared_watch := F_shared_watch, g_shared_watch := He.glo_ok X Gm (c.1.fact 19 (f := .glo "shared_watch") rfl),
    a_leader_in := _, fd_leader_in := _, F_leader_in := F_leader_in, g_leader_in := He.glo_ok X Gm (c.1.fact 20 (f := .glo "leader_in") rfl),
    a_leader_at := _, fd_leader_at := _, F_leader_at := F_leader_at, g_leader_at := He.glo_ok X Gm (c.1.fact 21 (f := .glo "leader_at") rfl),
    a_settles := _, fd_settles := _, F_settles := F_settles, g_settles := He.glo_ok X Gm (c.1.fact 22 (f := .glo "settles") rfl),
    a__law_cell := _, fd__law_cell := _, F__law_cell := F__law_cell, g__law_cell := He.glo_ok X Gm (c.1.fact 23 (f := .glo "_law_cell") rfl),
    a__law_box := _, fd__law_box := _, F__law_box := F__law_box, g__law_box := He.glo_ok X Gm (c.1.fact 24 (f := .glo "_law_box") rfl),
    a__law_take := _, fd__law_take := _, F__law_take := F__law_take, g__law_take := He.glo_ok X Gm (c.1.fact 25 (f := .glo "_law_take") rfl),
    a__law_same := _, fd__law_same := _, F__law_same := F__law_same, g__law_same := He.glo_ok X Gm (c.1.fact 26 (f := .glo "_law_same") rfl),
    a__law_some_watch := _, fd__law_some_watch := _, F__law_some_watch := F__law_some_watch, g__law_some_watch := He.glo_ok X Gm (c.1.fact 27 (f := .glo "_law_some_watch") rfl),
    a__law_up := _, fd__law_up := _, F__law_up := F__law_up, g__law_up := He.glo_ok X Gm (c.1.fact 28 (f := .glo "_law_up") rfl),
    a__law_has := _, fd__law_has := _, F__law_has := F__law_has, g__law_has := He.glo_ok X Gm (c.1.fact 29 (f := .glo "_law_has") rfl),
    a__law_class := _, fd__law_class := _, F__law_class := F__law_class, g__law_class := He.glo_ok X Gm (c.1.fact 30 (f := .glo "_law_class") rfl),
    a__law_shared := _, fd__law_shared := _, F__law_shared := F__law_shared, g__law_shared := He.glo_ok X Gm (c.1.fact 31 (f := .glo "_law_shared") rfl),
    a__law_leader_of := _, fd__law_leader_of := _, F__law_leader_of := F__law_leader_of, g__law_leader_of := He.glo_ok X Gm (c.1.fact 32 (f := .glo "_law_leader_of") rfl),
    a__law_settles := _, fd__law_settles := _, F__law_settles := F__law_settles, g__law_settles := He.glo_ok X Gm (c.1.fact 33 (f := .glo "_law_settles") rfl),
    a__law_made := _, fd__law_made := _, F__law_made := F__law_made, g__law_made := He.glo_ok X Gm (c.1.fact 34 (f := .glo "_law_made") rfl),
    a__law_right := _, fd__law_right := _, F__law_right := F__law_right, g__law_right := He.glo_ok X Gm (c.1.fact 35 (f := .glo "_law_right") rfl),
    a__law_shared_right := _, fd__law_shared_right := _, F__law_shared_right := F__law_shared_right, g__law_shared_right := He.glo_ok X Gm (c.1.fact 36 (f := .glo "_law_shared_right") rfl),
    a_law := _, fd_law := _, F_law := F_law, g_law := He.glo_ok X Gm (c.1.fact 37 (f := .glo "law") rfl),
    a_Watch___init__ := _, fd_Watch___init__ := _, F_Watch___init__ := F_Watch___init__,
    a_Watch___eq__ := _, fd_Watch___eq__ := _, F_Watch___eq__ := F_Watch___eq__,
    s_NONE := He.str_ok X Gm (c.1.fact 60 (f := .str "NONE" "none") rfl),
    g_Watch := He.glo_ok X Gm (c.1.fact 61 (f := .glo "Watch") rfl), mk_Watch := He.mkr_ok (c.1.fact 62 (f := .mkr "Watch") rfl), iso_Watch := isoX_ok X Gm (c.at_ 2 rfl),
    eq_Watch := (He.meth_ok (c.1.fact 63 (f := .meth "Watch" "__eq__") rfl)).at_, eqf_Watch := (He.meth_ok (c.1.fact 63 (f := .meth "Watch" "__eq__") rfl)).fn,
    at_stops := attX_ok (c.at_ 0 rfl),
    at_rows := attX_ok (c.at_ 1 rfl),
    t_NAMES := tupB_ok X Gm (c.at_ 3 rfl),
    t_CLASSES := tupB_ok X Gm (c.at_ 4 rfl),
    b_abs := He.free_ok X Gm (c.1.fact 38 (f := .free "abs") rfl),
    b_all := He.free_ok X Gm (c.1.fact 39 (f := .free "all") rfl),
    b_any := He.free_ok X Gm (c.1.fact 40 (f := .free "any") rfl),
    b_bool := He.free_ok X Gm (c.1.fact 41 (f := .free "bool") rfl),
    b_dict := He.free_ok X Gm (c.1.fact 42 (f := .free "dict") rfl),
    b_enumerate := He.free_ok X Gm (c.1.fact 43 (f := .free "enumerate") rfl),
    b_int := He.free_ok X Gm (c.1.fact 44 (f := .free "int") rfl),
    b_isinstance := He.free_ok X Gm (c.1.fact 45 (f := .free "isinstance") rfl),
    b_len := He.free_ok X Gm (c.1.fact 46 (f := .free "len") rfl),
    b_list := He.free_ok X Gm (c.1.fact 47 (f := .free "list") rfl),
    b_max := He.free_ok X Gm (c.1.fact 48 (f := .free "max") rfl),
    b_min := He.free_ok X Gm (c.1.fact 49 (f := .free "min") rfl),
    b_range := He.free_ok X Gm (c.1.fact 50 (f := .free "range") rfl),
    b_set := He.free_ok X Gm (c.1.fact 51 (f := .free "set") rfl),
    b_sorted := He.free_ok X Gm (c.1.fact 52 (f := .free "sorted") rfl),
    b_str := He.free_ok X Gm (c.1.fact 53 (f := .free "str") rfl),
    b_sum := He.free_ok X Gm (c.1.fact 54 (f := .free "sum") rfl),
    b_tuple := He.free_ok X Gm (c.1.fact 55 (f := .free "tuple") rfl),
    b_zip := He.free_ok X Gm (c.1.fact 56 (f := .free "zip") rfl),
    c_MOST_MACHINES := He.int_ok X Gm (c.1.fact 57 (f := .int "MOST_MACHINES" 4) rfl),
    c_MOST_TIME := He.int_ok X Gm (c.1.fact 58 (f := .int "MOST_TIME" 8) rfl),
    c_MOST_ASKED := He.int_ok X Gm (c.1.fact 59 (f := .int "MOST_ASKED" 1000) rfl) }
  have e := hfa.symm.trans (He.glo_ok X Gm (c.1.fact 37 (f := .glo "law") rfl))
  cases e
  have b := FunD.bindsA (ps := ["script"]) F_law fun _ _ _ _ _ _ us hl => match us, hl with | [_], _ => rfl
  exact ⟨fd_law, fun s v => b s [v] rfl, fun base _ _ => fn_cx0 (ok_law GG)⟩
end K58
open PySem PySem.W PySem.Calls PyProof.Rows
theorem PySem.Challenge.cw_quorumbench_k58_whole_classes_of_watches_holds : PySem.Challenge.rw_quorumbench_k58_whole_classes_of_watches.Holds := by
  w_on; o_law
  refine HandSHeadRun.head_any (r := OpenLaw.row PySem.Challenge.rw_quorumbench_k58_whole_classes_of_watches) (q := view (OpenLaw.row PySem.Challenge.rw_quorumbench_k58_whole_classes_of_watches).prog [55]) (H := K58.hk) (ob := K58.ob) (M := 20000) (loose := K58.loose) (d := HandSHeadRun.topDef (OpenLaw.row PySem.Challenge.rw_quorumbench_k58_whole_classes_of_watches).prog 55) (kwd := []) K58.ob_eq
    (by kernel_rfl) (fun s => by kernel_rfl) K58.run (by kernel_rfl) (by kernel_rfl) (by kernel_rfl) (by rfl) (by first | assumption | decide +kernel) (by decide +kernel) ⟨rfl, rfl, rfl, rfl, rfl, by decide +kernel⟩ ?hw ?hc
  case hw => w_witness2
  case hc =>
    refine L2.walk_ofE (l := PySem.Challenge.rw_quorumbench_k58_whole_classes_of_watches) (n := 63) (k := 12) (x := "script") (CX := L2.CX0) rfl (by decide) (by kernel_rfl) ⟨rfl, by decide, by decide⟩ ?F (fun _ _ _ _ z => z)
    intro w mg fa h Y G hmg0
    obtain ⟨K, KX, c⟩ := Y
    have hmg : mg ("law" : PySem.Str) = some (.ref fa) := by
      have e : (HandSHeadRun.topDef (OpenLaw.row PySem.Challenge.rw_quorumbench_k58_whole_classes_of_watches).prog 55).name = ("law" : PySem.Str) := by kernel_rfl
      rw [← e]
      exact hmg0
    obtain ⟨fd, hb, hF⟩ := K58.facts (P := (PySem.Challenge.rw_quorumbench_k58_whole_classes_of_watches).prog) (w := w) KX G hmg c
    exact ⟨K, fd, (fun vs H Q _ => QB.spOf K mg 1 K58.p_law vs H Q L2.E0), KX, hb, fun H a ns hl _ hS => QB.law_start hS (K58.law_ok ns []), hF⟩
